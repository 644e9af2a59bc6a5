/- What is proved: contracts of the program's and the reference's functions in the evaluator, and plain laws on them. Conditions: as each states. -/
import Derived.Calls
import Derived.Below
import Derived.Laws.Cells
import Derived.Laws.CopyRow
import Derived.Laws.Entries
import Derived.Lib.Strings
import Derived.Laws.Strings
import Derived.Laws.StructEq
import Derived.Laws.BytesArg
import Derived.MapKept
import Derived.Shelf.Abstract
import Derived.Lib.AppendStr
import Derived.Lib.FrozenHead
import Derived.IntWalk
import Derived.Still
import Derived.Laws.Sem
import Derived.Deep.Draws
import Derived.Shelf.Strings.BuilderF
set_option linter.unusedSimpArgs false
set_option linter.unusedSectionVars false
set_option linter.unusedVariables false
set_option maxRecDepth 100000
namespace Go.Ab
variable{w':World}{b f i l m n o z:Nat}{vs:Array Value}{T e t u:TypeId}{r wr:Bool}{v va vb:Value}{M:Nat→Nat→Prop}{vh vl:Option Value}{op:BinOp}{k:IntKind}{y:Operand}
abbrev Va:=@Option.some.injEq
abbrev Vb:=@List.getElem?_eq_some_iff
abbrev Vc:=@List.getElem?_set_ne
abbrev Vd:=@List.length_map
abbrev Ve:=@List.mem_of_getElem?
abbrev Vf:=@List.getElem?_set_self
abbrev Vg:=@List.mem_append
abbrev Vh:=@List.getElem?_append_left
abbrev Vi:=@List.nil_append
abbrev Vj:=@List.getElem?_map
abbrev Vk:=@Int.toNat_natCast
abbrev Vl:=@List.cons_append
abbrev Vm:=@if_neg
abbrev Vn:=@List.mem_cons
abbrev Vo:=@List.append_assoc
abbrev Vp:=@Prod.mk.injEq
abbrev Vq:=@List.length_set
abbrev Vr:=@if_pos
abbrev Vs:=@Go.run_underlying
abbrev Vt:=@List.getElem?_cons_zero
abbrev Vu:=@List.length_append
abbrev Vv:=@List.append_nil
abbrev Vw:=@Nat.le_refl
abbrev Vx:=@List.nodup_cons
abbrev Vy:=@List.getElem?_append_right
abbrev Vz:=@List.map_cons
abbrev VA:=@Bool.and_eq_true
abbrev VB:=@List.getElem?_eq_getElem
abbrev VC:=@List.length_cons
abbrev VD:=@List.mem_cons_of_mem
abbrev VE:=@List.mem_map
abbrev VF:=@Go.Result.andThen_ok
abbrev VG:=@List.mem_filterMap
abbrev VH:=@List.mem_singleton
abbrev VI:=@List.length_nil
abbrev VJ:=@List.getElem?_cons_succ
abbrev VK:=@decide_eq_true_eq
abbrev VL:=@List.mem_or_eq_of_mem_set
abbrev VM:=@List.take_of_length_le
abbrev VN:=@Bool.not_false
abbrev VO:=@List.map_nil
abbrev VP:=@Option.getD_some
abbrev VQ:=@Go.Sem.run_bind
abbrev VR:=@beq_eq_false_iff_ne
abbrev VS:=@List.length_eq_zero_iff
abbrev VT:=@Nat.mul_le_mul_right
abbrev VU:=@List.getElem?_toArray
abbrev VV:=@List.mem_cons_self
abbrev VW:=@Bool.true_or
abbrev VX:=@Bool.and_eq_true_iff
abbrev VY:=@List.nodup_append
abbrev VZ:=@Nat.zero_add
abbrev V0:=@Go.Sem.run_pure
abbrev V1:=@List.mem_flatMap
abbrev V2:=@List.drop_of_length_le
abbrev V3:=@List.not_mem_nil
abbrev V4:=@Nat.sub_zero
abbrev V5:=@eq_true
abbrev V6:=@Bool.false_eq_true
abbrev V7:=@if_true
abbrev V8:=@List.map_map
abbrev V9:=@List.map_set
abbrev Ua:=@List.map_append
abbrev Ub:=@true_or
abbrev Uc:=@List.getElem?_drop
abbrev Ud:=@List.singleton_append
abbrev Ue:=@Option.map_some
abbrev Uf:=@List.mem_iff_getElem?
abbrev Ug:=@Nat.add_zero
abbrev Uh:=@List.length_replicate
abbrev Ui:=@List.drop_zero
abbrev Uj:=@Nat.add_mul
abbrev Uk:=@Bool.eq_false_iff
abbrev Ul:=@List.map_congr_left
abbrev Um:=@List.all_eq_true
abbrev Un:=@Nat.succ_mul
abbrev Uo:=@List.length_singleton
abbrev Up:=@beq_iff_eq
abbrev Uq:=@List.set_set
abbrev Ur:=@Nat.lt_of_lt_of_le
abbrev Us:=@List.getElem?_take
abbrev Ut:=@Nat.eq_zero_or_pos
abbrev Uu:=@Nat.le_trans
abbrev Uv:=@Array.getElem?_eq_some_iff
abbrev Uw:=@Nat.add_sub_cancel_left
abbrev Ux:=@Option.some.inj
abbrev Uy:=@List.append_eq_nil_iff
abbrev Uz:=@Array.getElem?_eq_none
abbrev UA:=@if_false
abbrev UB:=@Nat.zero_le
abbrev UC:=@Bool.true_and
abbrev UD:=@List.ext_getElem?
abbrev UE:=@Bool.eq_iff_iff
abbrev UF:=@Bool.false_and
abbrev UG:=@List.getElem?_eq_none
abbrev UH:=@List.take_succ_cons
abbrev UI:=@List.pairwise_iff_getElem
abbrev UJ:=@Nat.sub_self
abbrev UK:=@Decidable.not_not
abbrev UL:=@Nat.add_assoc
abbrev UM:=@Bool.false_or
abbrev UN:=@Array.getD_eq_getD_getElem?
abbrev UO:=@Array.getElem?_setIfInBounds_ne
abbrev UP:=@List.contains_iff_mem
abbrev UQ:=@List.mem_map_of_mem
abbrev UR:=@or_false
abbrev US:=@List.flatMap_cons
abbrev UT:=@Option.map_eq_some_iff
abbrev UU:=@List.Perm.refl
abbrev UV:=@List.map_take
abbrev UW:=@Int.eq_ofNat_of_zero_le
abbrev UX:=@Array.ext'
abbrev UY:=@List.tail_drop
abbrev UZ:=@List.range_eq_range'
abbrev U0:=@Bool.or_eq_true
abbrev U1:=@Bool.not_true
abbrev U2:=@Bool.not_eq_true
abbrev U3:=@List.mem_range'_1
abbrev U4:=@Array.getElem?_toList
abbrev U5:=@UInt8.lt_iff_toNat_lt
abbrev U6:=@Bool.and_true
abbrev U7:=@List.Nodup.sublist
abbrev U8:=@Go.setRow_heap
abbrev U9:=@List.length_eraseIdx
abbrev Sa:=@Go.Proofs.enters_of
abbrev Sb:=@Go.setRow_other
abbrev Sc:=@Nat.lt_or_ge
abbrev Sd:=@List.take_add_one
abbrev Se:=@Go.Sem.run_ite
abbrev Sf:=@List.find?_cons
abbrev Sg:=@List.getElem?_eq_none_iff
abbrev Si:=@List.take_append_drop
abbrev Sj:=@List.mem_append_right
abbrev Sk:=@List.set_append_right
abbrev Sl:=@List.range'_succ
abbrev Sm:=@eq_iff_iff
abbrev Sn:=@List.take_append_of_le_length
abbrev So:=@not_or
abbrev Sp:=@List.take_zero
abbrev Sq:=@Bool.not_eq_true'
abbrev Sr:=@decide_eq_false_iff_not
abbrev Ss:=@List.contains_nil
abbrev Su:=@List.cons.injEq
abbrev Sv:=@List.length_take
abbrev Sw:=@beq_self_eq_true
abbrev Sx:=@List.drop_drop
abbrev Sy:=@Nat.lt_or_gt_of_ne
abbrev Sz:=@List.set_cons_succ
abbrev SA:=@List.length_eraseIdx_of_lt
abbrev SB:=@Go.Obj.cells.injEq
abbrev SC:=@List.filter_map
abbrev SD:=@Nat.mul_comm
abbrev SE:=@Go.Value.slice.injEq
abbrev SF:=@List.mem_append_left
abbrev SG:=@List.mem_iff_getElem
abbrev SH:=@List.length_range
abbrev SI:=@Bool.or_true
abbrev SJ:=@List.Sublist.refl
abbrev SK:=@List.eq_of_mem_replicate
abbrev SL:=@Array.getElem?_push
abbrev SM:=@Array.toList_zipIdx
abbrev SN:=@Array.length_toList
abbrev SO:=@List.filter_sublist
abbrev SP:=@Array.toList_map
abbrev SQ:=@List.eraseIdx_cons_succ
abbrev SR:=@Array.eq_empty_of_size_eq_zero
abbrev SS:=@List.length_drop
abbrev ST:=@List.take_length
abbrev SU:=@Go.run_loadCells_list
abbrev SV:=@Array.foldl_toList
abbrev SW:=@UInt8.toNat_ofNat'
abbrev SX:=@List.contains_cons
abbrev SY:=@List.set_cons_zero
abbrev S0:=@Array.getElem?_modify
abbrev S1:=@Array.getElem?_append_left
abbrev S2:=@Array.toArray_toList
abbrev S3:=@List.set_append_left
abbrev S4:=@List.mem_of_mem_drop
abbrev S5:=@List.mem_range
abbrev S6:=@Nat.le_of_not_lt
abbrev S7:=@Go.Lib.cell_of_heap
abbrev S8:=@List.extract_eq_take_drop
abbrev S9:=@Classical.byContradiction
abbrev Pa:=@List.sublist_append_right
abbrev Pb:=@List.replicate_succ
abbrev Pc:=@Bool.and_self
abbrev Pd:=@List.drop_nil
abbrev Pe:=@List.mem_of_mem_eraseIdx
abbrev Pf:=@decide_eq_false
abbrev Pg:=@List.length_eq_one_iff
abbrev Ph:=@Nat.zero_mul
abbrev Pi:=@Nat.mul_le_mul
abbrev Pj:=@List.size_toArray
abbrev Pk:=@decide_eq_true
abbrev Pl:=@List.take_left
abbrev Pm:=@Bool.and_false
abbrev Pn:=@List.nodup_range'
abbrev Po:=@List.length_filter_le
abbrev Pp:=@List.eraseIdx_sublist
abbrev Pq:=@List.flatMap_map
abbrev Pr:=@List.set_comm
abbrev Ps:=@Bool.or_false
abbrev Pt:=@List.take_nil
abbrev Pu:=@List.extract_toArray
abbrev Pv:=@List.mem_of_mem_take
abbrev Pw:=@eq_false
abbrev Px:=@Option.map_none
abbrev Py:=@Nat.mul_le_mul_left
abbrev Pz:=@Int.toNat_of_nonneg
abbrev PA:=@List.Perm.nodup_iff
abbrev PB:=@Go.mem_ready
abbrev PC:=@Nat.add_sub_cancel
abbrev PD:=@and_true
abbrev PE:=@Int.cast_ofNat_Int
abbrev PF:=@Go.run_equalIn_bool'
abbrev PG:=@Go.run_program
abbrev PH:=@Array.size_append
abbrev PI:=@List.count_append
abbrev PJ:=@not_false_eq_true
abbrev PK:=@Nat.lt_trichotomy
abbrev PL:=@Function.comp_def
abbrev PM:=@List.cons.inj
abbrev PN:=@List.zipIdx_cons
abbrev PO:=@List.nodup_range
abbrev PP:=@List.any_eq_true
abbrev PQ:=@and_self
abbrev PR:=@List.filter_cons
abbrev PS:=@Go.run_newObj
abbrev PT:=@List.take_left'
abbrev PU:=@List.range_succ
abbrev PV:=@Go.run_askRoom
abbrev PW:=@true_and
abbrev PX:=@List.map_id
abbrev PY:=@Prod.mk.inj
open Go Go.Proofs
inductive AV where
 |int (k:IntKind) (n:Int)
 |bool (b:Bool)
 |str (s:List UInt8)
 |nilp|nilf|nili|nilm|nils
 |emp (b:Bool)
 |rows (rs:List (List AV))
 |lit (rs:List (List AV))
 |rptr (row:List AV) (o:Nat)
 |agg (cs:List AV)
 |tup (vs:List AV)
 |fn (f:FuncId) (caps:List AV)
 |bnd (f:FuncId) (fs:List AV)
 |iface (t:TypeId) (v:AV)
 |ptr (l o:Nat)
 |own (l n:Nat)
 |optr (l n i o:Nat)
 |mp (l:Nat)
 |tptr (t:TypeId) (l o:Nat)
 |town (t:TypeId) (l n:Nat)
 |vw (l n a m:Nat)
 |any
 deriving Inhabited
inductive Blk where
 |cells (cs:List AV)
 |rows (sz:Nat) (rs:List (List AV)) (wr:Bool)
 |hole
 |map (es:List (AV×AV))
 deriving Inhabited
variable{a x:AV}{rs:List (List AV)}{cs:List AV}{hi:Option AV}
abbrev Za:=List Blk
abbrev Fr:=List (Nat×AV)
inductive Pop where
 |cell (i d:Nat)
 |row (i d j c:Nat)
 |new (i d c z:Nat) (q:Bool)
 |tidy
 |whenF (i:Nat)
 |whenN (i d c:Nat)
 |whenT (i:Nat)
 |opt (i c:Nat)
 |keep (l:List Nat)
 |inner (i d j c c2:Nat)
inductive It where
 |code (c:Code)
 |blk (id n:Nat)
 |lp (c:Code) (live:Option (List Nat×List Nat)) (n:Nat)
 |pst (live:List Nat) (ops:List Pop)
inductive Tk where
 |run (f:FuncId) (k:Nat) (ks:List It) (fr:Fr) (h:Za)
 |call (f:FuncId) (args:List AV) (h:Za)
abbrev Res:=Option (AV×Za)
structure Cfg where
 P:Program
 prim:FuncId→List AV→Option AV
 primH:FuncId→List AV→Za→Option (AV×Za)
 ownA:FuncId→List (Nat×Nat×TypeId)
 bT:TypeId
 wrT:TypeId→Bool
 nlT:TypeId→Bool
 nlA:FuncId→Bool×Nat
 live:FuncId→Nat→Option (List Nat×List (Nat×Option Nat×Nat×Bool)×List Nat)
 ret:FuncId→Nat
 good:FuncId→Bool
 dyn:FuncId→Nat→List (Nat×Nat)
 out:FuncId→Nat→Option (List Nat)
 post:FuncId→List (Nat×List Nat×List Pop)
 wrE:TypeId→Bool:=fun _=>false
 wrB:TypeId→Bool:=fun _=>false
def get:Fr→Nat→AV
 |[],_=>.any
 |(j,v)::fr,i=>if j=i then v else get fr i
def put(fr:Fr):Option Nat→AV→Fr
 |some d,v=>(d,v)::fr
 |none,_=>fr
mutual
def JW:Value→AV
 |.int k n=>.int k n
 |.bool b=>.bool b
 |.string s=>.str s.data.toList
 |.pointer none=>.nilp
 |.nilFunc=>.nilf
 |.nilIface=>.nili
 |.map none=>.nilm
 |.slice none 0 0=>.nils
 |.agg ⟨cs⟩=>.agg (Zlo cs)
 |_=>.any
def Zlo:List Value→List AV
 |[]=>[]
 |v::vs=>JW v::Zlo vs
end
def ev(fr:Fr):Operand→AV
 |.tmp t=>get fr t
 |.const v=>JW v
 |.func f=>.fn f []
 |.global _=>.any
def single:AV→Bool
 |.agg _|.tup _|.any=>false
 |_=>true
def singles:List AV→Bool
 |[]=>true
 |a::r=>single a&&singles r
def cellsOf:AV→Option (List AV)
 |.agg cs=>if singles cs then some cs else none
 |.tup _|.any=>none
 |v=>some [v]
inductive Sh where
 |one
 |agg (n:Nat)
def sh(P:Program)(t:TypeId):Option Sh :=
 match P.underlying t,P.info? t with
 |some (.struct _),some i|some (.array _ _),some i=>some (.agg i.size)
 |some _,some _=>some .one
 |_,_=>none
def zv(P:Program)(t:TypeId):Option AV :=
 match P.info? t with
 |some i=>i.zero.map JW
 |none=>none
def es(P:Program)(t:TypeId):Option (Nat×Nat) :=
 match P.underlying t with
 |some (.slice e)=>match P.info? e with
  |some i=>match i.zero with
   |some y=>if y.cells.size=i.size then some (i.size,i.bytes)else none
   |none=>none
  |none=>none
 |_=>none
def ar(P:Program)(t:TypeId):Option (Nat×TypeId×Nat) :=
 match P.underlying t with
 |some (.array n e)=>(P.info? e).map fun i=>(n,e,i.size)
 |_=>none
def fo(P:Program)(t:TypeId)(f:Nat):Option (Nat×TypeId) :=
 match P.underlying t with
 |some (.struct fs)=>match fs[f]? with
  |some x=>match P.info? x.type with
   |some i=>if i.size=0 then none else some (x.offset,x.type)
   |none=>none
  |none=>none
 |_=>none
def part(s:Option Sh)(cs:List AV)(o:Nat):Option AV :=
 match s with
 |some .one=>cs[o]?
 |some (.agg n)=>if o+n≤cs.length then some (.agg ((cs.drop o).take n))else none
 |none=>none
def ZgM(P:Program)(t:TypeId)(p:AV)(h:Za):Option AV :=
 match p with
 |.rptr row o=>part (sh P t) row o
 |.ptr l o=>match h[l]? with
  |some (.cells cs)=>part (sh P t) cs o
  |_=>none
 |.optr l n i o=>match h[l]? with
  |some (.rows _ rs _)=>if rs.length=n then match rs[i]? with
    |some row=>part (sh P t) row o
    |none=>none
   else none
  |_=>none
 |_=>none
def cut{α:Type}(l:List α)(a b:Nat):List α:=(l.drop a).take (b-a)
def splice(cs:List AV)(o:Nat)(vs:List AV):List AV:=cs.take o++vs++cs.drop (o+vs.length)
mutual
def locs:AV→List Nat
 |.ptr l _|.own l _|.optr l _ _ _|.mp l|.tptr _ l _|.town _ l _|.vw l _ _ _=>[l]
 |.agg cs|.tup cs|.fn _ cs|.bnd _ cs=>Zg cs
 |.iface _ a=>locs a
 |_=>[]
def Zg:List AV→List Nat
 |[]=>[]
 |a::r=>locs a++Zg r
end
def Zz:List (List AV)→List Nat
 |[]=>[]
 |row::r=>Zg row++Zz r
mutual
def ZI(h:Za):AV→Option AV
 |.own l n=>match h[l]? with
  |some (.rows _ rs wr)=>if rs.length=n∧(wr=false∧Zz rs=[])then some (.rows rs)else none
  |_=>none
 |.nils=>some (.rows [])
 |.lit rs=>some (.rows rs)
 |.agg cs=>match ZE h cs with
  |some cs=>some (.agg cs)
  |none=>none
 |.tup cs=>match ZE h cs with
  |some cs=>some (.tup cs)
  |none=>none
 |.fn f cs=>match ZE h cs with
  |some cs=>some (.fn f cs)
  |none=>none
 |.bnd f cs=>match ZE h cs with
  |some cs=>some (.bnd f cs)
  |none=>none
 |.iface t a=>match ZI h a with
  |some a=>some (.iface t a)
  |none=>none
 |.ptr _ _|.optr _ _ _ _|.mp _|.tptr _ _ _|.town _ _ _|.vw _ _ _ _=>none
 |a=>some a
def ZE(h:Za):List AV→Option (List AV)
 |[]=>some []
 |a::r=>match ZI h a with
  |some a=>match ZE h r with
   |some r=>some (a::r)
   |none=>none
  |none=>none
end
mutual
def Z2(h:Za):AV→Option AV
 |.own l n=>match h[l]? with
  |some (.rows _ rs wr)=>if rs.length=n∧(wr=false∧Zz rs=[])then some (.rows rs)else none
  |_=>none
 |.agg cs=>match Xm h cs with
  |some cs=>some (.agg cs)
  |none=>none
 |.tup cs=>match Xm h cs with
  |some cs=>some (.tup cs)
  |none=>none
 |.fn f cs=>match Xm h cs with
  |some cs=>some (.fn f cs)
  |none=>none
 |.bnd f cs=>match Xm h cs with
  |some cs=>some (.bnd f cs)
  |none=>none
 |.iface t a=>match Z2 h a with
  |some a=>some (.iface t a)
  |none=>none
 |.ptr _ _|.optr _ _ _ _|.mp _|.tptr _ _ _|.town _ _ _|.vw _ _ _ _=>none
 |a=>some a
def Xm(h:Za):List AV→Option (List AV)
 |[]=>some []
 |a::r=>match Z2 h a with
  |some a=>match Xm h r with
   |some r=>some (a::r)
   |none=>none
  |none=>none
end
def pur(kn:Bool)(h:Za)(v:AV):Option AV:=match kn with
 |true=>Z2 h v
 |false=>ZI h v
def Zno(h:Za)(v:AV):AV:=match ZI h v with
 |some v=>v
 |none=>v
def J9(P:Program)(t:TypeId):Option Nat :=
 match P.info? t with
 |some i=>some i.size
 |none=>none
def ZfU(P:Program)(t:TypeId)(p v:AV)(h:Za):Option Za :=
 match p with
 |.ptr l o=>match h[l]? with
  |some (.cells cs)=>match cellsOf v with
   |some vs=>if J9 P t=some vs.length∧o+vs.length≤cs.length then some (h.set l (.cells (splice cs o vs)))else none
   |none=>none
  |_=>none
 |.optr l n i o=>match h[l]? with
  |some (.rows sz rs true)=>match cellsOf (Zno h v)with
    |some vs=>if rs.length=n then match rs[i]? with
      |some row=>if J9 P t=some vs.length∧o+vs.length≤row.length then some (h.set l (.rows sz (rs.set i (splice row o vs)) true))else none
      |none=>none
     else none
    |none=>none
  |_=>none
 |_=>none
def Zx(k:IntKind)(n:Int):Int:=k.wrap n
def ZDo(k:IntKind)(a b:Int):Int:=Zx k (a*2^(min b.toNat k.bits))
def ZCS(k:IntKind)(a b:Int):Int:=a.fdiv (2^(min b.toNat k.bits))
def Zlc(op:BinOp)(k:IntKind)(a b:Int):Option AV :=
 match op with
 |.shl=>if b<0 then none else some (.int k (ZDo k a b))
 |.shr=>if b<0 then none else some (.int k (ZCS k a b))
 |_=>none
def ZvM(op:BinOp)(k:IntKind)(x y:Int):Int :=
 match op with
 |.and=>Zx k (BitVec.ofInt k.bits x &&& BitVec.ofInt k.bits y).toNat
 |.or=>Zx k (BitVec.ofInt k.bits x ||| BitVec.ofInt k.bits y).toNat
 |_=>Zx k (BitVec.ofInt k.bits x ^^^ BitVec.ofInt k.bits y).toNat
def ZxK(op:BinOp)(k:IntKind)(a b:Int):Option AV :=
 match op with
 |.add=>some (.int k (Zx k (a+b)))
 |.sub=>some (.int k (Zx k (a-b)))
 |.mul=>some (.int k (Zx k (a*b)))
 |.quo=>if b=0 then none else some (.int k (Zx k (a.tdiv b)))
 |.rem=>if b=0 then none else some (.int k (a.tmod b))
 |.eql=>some (.bool (a==b))
 |.neq=>some (.bool (a != b))
 |.lss=>some (.bool (decide (a<b)))
 |.leq=>some (.bool (decide (a≤b)))
 |.gtr=>some (.bool (decide (b<a)))
 |.geq=>some (.bool (decide (b≤a)))
 |.shl=>if b<0 then none else some (.int k (ZDo k a b))
 |.shr=>if b<0 then none else some (.int k (ZCS k a b))
 |.and=>some (.int k (ZvM .and k a b))
 |.or=>some (.int k (ZvM .or k a b))
 |.xor=>some (.int k (ZvM .xor k a b))
 |.andNot=>none
def Xa:Nat:=4611686018427387904
def Zyt(op:BinOp)(a b:List UInt8):Option AV :=
 match op with
 |.add=>if a.length+b.length≤Xa then some (.str (a++b))else none
 |.eql=>some (.bool (a==b))
 |.neq=>some (.bool (!(a==b)))
 |.lss=>some (.bool (Op.bytesLess a b))
 |.leq=>some (.bool (Op.bytesLess a b||a==b))
 |.gtr=>some (.bool (!(Op.bytesLess a b||a==b)))
 |.geq=>some (.bool (!Op.bytesLess a b))
 |_=>none
inductive FK where
 |int|bool|str
def Zhv:FK→AV→AV→Option Bool
 |.int,.int k a,.int k' b=>if k=k' then some (a==b)else none
 |.bool,.bool a,.bool b| .str,.str a,.str b=>some (a==b)
 |_,_,_=>none
def XE:List FK→List AV→List AV→Option Bool
 |[],[],[]=>some true
 |k::ks,a::r,b::s=>match Zhv k a b with
  |some x=>match XE ks r s with
   |some y=>some (x&&y)
   |none=>none
  |none=>none
 |_,_,_=>none
def ZrJ:Option Bool→Option AV
 |some b=>some (.bool (!b))
 |none=>none
def Zsd:Option Bool→Option AV
 |some b=>some (.bool b)
 |none=>none
def ZiQ(P:Program)(t:TypeId):Option FK :=
 match P.underlying t with
 |some (.int _)=>some .int
 |some .bool=>some .bool
 |some .string=>some .str
 |_=>none
def Jd(P:Program):Nat→List Field→Option (List FK)
 |_,[]=>some []
 |n,f::r=>if f.offset=n∧f.name ≠ "_" then match ZiQ P f.type with
   |some k=>match Jd P (n+1) r with
    |some ks=>some (k::ks)
    |none=>none
   |none=>none
  else none
def Zls(P:Program)(t:TypeId):Option (List FK) :=
 match P.underlying t,sh P t with
 |some (.struct fs),some (.agg n)=>if P.stoodInHeld t=false then match Jd P 0 fs.toList with
   |some ks=>if ks.length=n then some ks else none
   |none=>none
  else none
 |_,_=>none
def WE(P:Program):Nat→List Field→Option (List FK)
 |_,[]=>some []
 |n,f::r=>if f.offset=n∧f.name ≠ "_" then match ZiQ P f.type with
   |some k=>match WE P (n+1) r with
    |some ks=>some (k::ks)
    |none=>none
   |none=>match Zls P f.type with
    |some l=>match WE P (n+l.length) r with
     |some ks=>some (l++ks)
     |none=>none
    |none=>none
  else none
def flat(P:Program)(t:TypeId):Option (List FK) :=
 match P.underlying t with
 |some (.struct fs)=>if P.stoodInHeld t=false∧P.eqGuardType P.depth t=false then WE P 0 fs.toList else none
 |_=>none
inductive CK where
 |bool|iface|ptr|fn|map|flat (ks:List FK)|no
def ck(P:Program)(t:TypeId):CK :=
 match P.underlying t with
 |some .bool=>.bool
 |some (.interface _)=>.iface
 |some (.pointer _)=>.ptr
 |some (.func _ _ _)=>.fn
 |some (.map _ _)=>.map
 |_=>match flat P t with
  |some ks=>.flat ks
  |none=>.no
def eqV(k:Bool):CK→AV→AV→Option Bool
 |.bool,.bool a,.bool b=>some (a==b)
 |.flat ks,.agg a,.agg b=>XE ks a b
 |.iface,.nili,.nili=>if k then some true else none
 |.iface,.nili,.iface _ _| .iface,.iface _ _,.nili=>some false
 |.ptr,.nilp,.nilp=>some true
 |.ptr,.nilp,.ptr _ _| .ptr,.ptr _ _,.nilp| .ptr,.optr _ _ _ _,.nilp| .ptr,.rptr _ _,.nilp| .ptr,.tptr _ _ _,.nilp=>some false
 |.fn,.nilf,.nilf=>some true
 |.fn,.fn _ _,.nilf| .fn,.bnd _ _,.nilf| .fn,.nilf,.fn _ _=>some false
 |.map,.nilm,.nilm=>some true
 |.map,.mp _,.nilm=>some false
 |_,_,_=>none
def Zvs(op:BinOp)(r:Option Bool):Option AV :=
 match op with
 |.eql=>Zsd r
 |.neq=>ZrJ r
 |_=>none
def Zvl(P:Program)(op:BinOp)(t:TypeId)(k:Bool)(x y:AV):Option AV :=
 match x,y with
 |.int k a,.int k' b=>if k=k' then ZxK op k a b else Zlc op k a b
 |.str a,.str b=>Zyt op a b
 |x,y=>Zvs op (eqV k (ck P t) x y)
def aUn(op:UnOp)(x:AV):Option AV :=
 match op,x with
 |.not,.bool b=>some (.bool !b)
 |.neg,.int k a=>some (.int k (Zx k (0-a)))
 |_,_=>none
def ZoX(P:Program)(t:TypeId):Bool :=
 match P.underlying t with
 |some (.slice _)=>true
 |_=>false
def ZiM(h:Za):AV→Option Bool
 |.nils=>some true
 |.emp b=>some b
 |.rows rs|.lit rs=>if rs.isEmpty=true then none else some false
 |.own l n=>match h[l]? with
  |some (.rows _ rs _)=>if rs.length=n∧0<n then some false else none
  |_=>none
 |_=>none
def Zis(P:Program)(op:BinOp)(t:TypeId)(h:Za)(x:AV):AV→Option AV
 |.nils=>if ZoX P t=true then Zvs op (ZiM h x)else none
 |_=>none
def orV(r:Option AV):Option AV→Option AV
 |some v=>some v
 |none=>r
def val(h:Za):Option AV→Option (AV×Za)
 |some v=>some (v,h)
 |none=>none
def Zaz:Option Za→Option (AV×Za)
 |some h=>some (.any,h)
 |none=>none
def pick:AV→AV→AV→Option AV
 |.bool c,a,b=>some (bif c then a else b)
 |_,_,_=>none
def ZA:Blk→List Nat
 |.cells cs=>Zg cs
 |.rows _ rs _=>Zz rs
 |_=>[]
def Zk:Za→List Nat
 |[]=>[]
 |b::r=>ZA b++Zk r
def Qv:Fr→List Nat
 |[]=>[]
 |(_,v)::r=>locs v++Qv r
def Zi(n:Nat):List Nat→Bool
 |[]=>true
 |l::r=>decide (l<n)&&Zi n r
mutual
def ren(σ:Nat→Nat):AV→AV
 |.ptr l o=>.ptr (σ l) o
 |.own l n=>.own (σ l) n
 |.optr l n i o=>.optr (σ l) n i o
 |.mp l=>.mp (σ l)
 |.tptr t l o=>.tptr t (σ l) o
 |.town t l n=>.town t (σ l) n
 |.vw l n a m=>.vw (σ l) n a m
 |.agg cs=>.agg (Xl σ cs)
 |.tup cs=>.tup (Xl σ cs)
 |.fn f cs=>.fn f (Xl σ cs)
 |.bnd f cs=>.bnd f (Xl σ cs)
 |.iface t a=>.iface t (ren σ a)
 |a=>a
def Xl(σ:Nat→Nat):List AV→List AV
 |[]=>[]
 |a::r=>ren σ a::Xl σ r
end
def XN(σ:Nat→Nat):List (List AV)→List (List AV)
 |[]=>[]
 |row::r=>Xl σ row::XN σ r
def YY(σ:Nat→Nat):Blk→Blk
 |.cells cs=>.cells (Xl σ cs)
 |.rows z rs wr=>.rows z (XN σ rs) wr
 |b=>b
mutual
def conv(h:Za):AV→Option AV
 |.own l n=>match h[l]? with
  |some (.rows _ rs wr)=>if wr=true∨Zz rs≠[]then some (.own l n)else if rs.length=n then some (.rows rs)else none
  |_=>none
 |.nils=>some (.rows [])
 |.lit rs=>some (.rows rs)
 |.agg cs=>match Qp h cs with
  |some cs=>some (.agg cs)
  |none=>none
 |a=>some a
def Qp(h:Za):List AV→Option (List AV)
 |[]=>some []
 |a::r=>match conv h a with
  |some a=>match Qp h r with
   |some r=>some (a::r)
   |none=>none
  |none=>none
end
def Y7(h:Za):Nat→List Nat→List Nat→List Nat
 |0,_,s| _+1,[],s=>s
 |n+1,l::r,s=>if s.contains l then Y7 h n r s else match h[l]? with
  |some b=>Y7 h n (r++ZA b) (s++[l])
  |none=>Y7 h n r (s++[l])
def YQ:List Nat→Nat→Nat
 |[],_=>0
 |x::r,l=>if x=l then 0 else YQ r l+1
def ZO(ls:List Nat)(m:Nat)(i:Nat):Nat:=match ls[i]? with
 |some l=>l
 |none=>m+(i-ls.length)
def sub(h:Za)(σ:Nat→Nat):List Nat→Option Za
 |[]=>some []
 |l::r=>match h[l]? with
  |some b=>match sub h σ r with
   |some hs=>some (YY σ b::hs)
   |none=>none
  |none=>none
def back(σ:Nat→Nat):List Nat→Za→Za→Za
 |l::ls,b::bs,h=>back σ ls bs (h.set l (YY σ b))
 |_,_,h=>h
def Z4(h:Za)(ls:List Nat)(r:AV)(hs:Za):Option (AV×Za) :=
 some (ren (ZO ls h.length) r,back (ZO ls h.length) ls hs h++(hs.drop ls.length).map (YY (ZO ls h.length)))
def ZeX:List AV→Bool
 |[]=>false
 |.nils::_=>true
 |_::r=>ZeX r
def Zcm:List (List AV)→Bool
 |[]=>false
 |row::r=>ZeX row||Zcm r
def Yd(row:List AV):Option (List AV)→Option (List AV)
 |some row'=>if row'.length=row.length∧singles row'=true then some row' else none
 |none=>none
def ZL(f:List AV→Option (List AV)):List (List AV)→Option (List (List AV))
 |[]=>some []
 |row::r=>match Yd row (f row)with
  |some row'=>match ZL f r with
   |some r=>some (row'::r)
   |none=>none
  |none=>none
def Z1(f:List AV→Option (List AV))(rs:List (List AV)):Option (List (List AV)):=if Zz rs=[]∧Zcm rs=false then some rs else ZL f rs
mutual
def ZH(f:List AV→Option (List AV))(h:Za):AV→Option AV
 |.own l n=>match h[l]? with
  |some (.rows _ rs _)=>if rs.length=n then(match Z1 f rs with
   |some rs=>some (.rows rs)
   |none=>none)else none
  |_=>none
 |.ptr l o=>match h[l]? with
  |some (.cells cs)=>(match Yd cs (f cs)with
   |some cs=>some (.rptr cs o)
   |none=>none)
  |_=>none
 |.optr l n i o=>match h[l]? with
  |some (.rows _ rs _)=>if rs.length=n then(match rs[i]? with
   |some row=>(match Yd row (f row)with
    |some row=>some (.rptr row o)
    |none=>none)
   |none=>none)else none
  |_=>none
 |.nils=>some (.rows [])
 |.lit rs=>some (.rows rs)
 |.agg cs=>match Zs f h cs with
  |some cs=>some (.agg cs)
  |none=>none
 |.tup cs=>match Zs f h cs with
  |some cs=>some (.tup cs)
  |none=>none
 |.fn g cs=>match Zs f h cs with
  |some cs=>some (.fn g cs)
  |none=>none
 |.bnd g cs=>match Zs f h cs with
  |some cs=>some (.bnd g cs)
  |none=>none
 |.iface t a=>match ZH f h a with
  |some a=>some (.iface t a)
  |none=>none
 |.vw l n a m=>match h[l]? with
  |some (.rows _ rs _)=>if rs.length=n∧a+m≤n then(match Z1 f (cut rs a (a+m))with
   |some rs=>some (.rows rs)
   |none=>none)else none
  |_=>none
 |.mp _|.tptr _ _ _|.town _ _ _=>none
 |a=>some a
def Zs(f:List AV→Option (List AV))(h:Za):List AV→Option (List AV)
 |[]=>some []
 |a::r=>match ZH f h a with
  |some a=>match Zs f h r with
   |some r=>some (a::r)
   |none=>none
  |none=>none
end
def Zy:Nat→Za→List AV→Option (List AV)
 |0,_,_=>none
 |n+1,h,cs=>Zs (Zy n h) h cs
mutual
def Zhz:AV→AV
 |.agg cs=>.agg (ZnC cs)
 |.tup cs=>.tup (ZnC cs)
 |.rows []=>.rows []
 |.rows (_::_)|.lit _|.rptr _ _|.fn _ _|.bnd _ _|.iface _ _|.optr _ _ _ _|.tptr _ _ _|.town _ _ _|.vw _ _ _ _=>.any
 |a=>a
def ZnC:List AV→List AV
 |[]=>[]
 |a::r=>Zhz a::ZnC r
end
def Jl:AV→Bool
 |.int _ _|.bool _|.str _|.nilp|.nilf|.nili|.nilm|.nils|.emp _|.rows []|.own _ _|.ptr _ _|.mp _=>true
 |_=>false
def ZeT:List AV→Bool
 |[]=>true
 |a::r=>Jl a&&ZeT r
def ZmV:List (List AV)→Bool
 |[]=>true
 |a::r=>ZeT a&&ZmV r
def Zon:Blk→Bool
 |.cells cs=>ZeT cs
 |.rows _ rs _=>ZmV rs
 |.hole=>true
 |.map es=>es.isEmpty
def Zin:Za→Bool
 |[]=>true
 |b::r=>Zon b&&Zin r
def Wa(h:Za):Option (AV×Za)→Option (AV×Za)
 |some (r,nb)=>if Zin nb=true then Z4 h [] (Zhz r) nb else none
 |none=>none
def Wt(h:Za):Res→Option (AV×Za)
 |some (r,[])=>some (r,h)
 |some (.own 0 n,[b])=>if ZA b=[]then some (.own h.length n,h++[b])else none
 |some (r,b::hs)=>Z4 h [] r (b::hs)
 |none=>none
def WZ(h:Za)(ls:List Nat):Res→Option (AV×Za)
 |some (r,hs)=>if hs.length=ls.length then some (ren (ZO ls h.length) r,back (ZO ls h.length) ls hs h)
  else if hs.length=ls.length+1 then match hs[ls.length]? with
   |some (.rows z rs wr)=>if Zz rs=[]then some (ren (ZO ls h.length) r,back (ZO ls h.length) ls hs h++[.rows z rs wr])else Z4 h ls r hs
   |_=>Z4 h ls r hs
  else if ls.length≤hs.length then Z4 h ls r hs else none
 |none=>none
def Z0(F:Tk→Res)(g:FuncId)(h:Za)(ls:List Nat)(args:List AV):Option (AV×Za) :=
 if Zi ls.length ((Zg args).map (YQ ls))then match sub h (YQ ls) ls with
  |some hs=>if Zi ls.length (Zk hs)then WZ h ls (F (.call g (Xl (YQ ls) args) hs))else none
  |none=>none
 else none
def W4(F:Tk→Res)(g:FuncId)(h:Za):Option (List AV)→Option (AV×Za)
 |some pure=>Wa h (F (.call g pure []))
 |none=>none
def Zqw:List AV→Bool
 |.own _ _::_|.vw _ _ _ _::_=>true
 |_=>false
def ZjC(bw:Nat)(args:List AV):Nat:=bif bw==4 then(bif Zqw args then 1 else 0)else bw
theorem ZqB{c:Nat}{args:List AV}(h:c≠2):ZjC c args≠2:=by unfold ZjC;cases c==4<;>cases Zqw args<;>simp[h]
def Wi(bw:Nat)(F:Tk→Res)(g:FuncId)(h:Za)(args:List AV):Option (List AV)→Option (AV×Za)
 |some pure=>Wt h (F (.call g pure []))
 |none=>match ZjC bw args with
  |1=>W4 F g h (Zy 8 h args)
  |2=>F (.call g args h)
  |_=>match Qp h args with
   |some args=>Z0 F g h (Y7 h 100 (Zg args) []) args
   |none=>none
def Zdy(nl:Bool)(h:Za)(args:List AV):Option (List AV):=match nl with
 |true=>Xm h args
 |false=>ZE h args
def ZU(nl:FuncId→Bool×Nat)(F:Tk→Res)(h:Za)(args:List AV):AV→Option (AV×Za)
 |.fn g caps=>Wi (nl g).2 F g h (args++caps) (Zdy (nl g).1 h (args++caps))
 |.bnd g fs=>Wi (nl g).2 F g h (fs++args) (Zdy (nl g).1 h (fs++args))
 |_=>none
def ZeH(i:Nat):AV→Option AV
 |.tup l=>l[i]?
 |_=>none
def Zlk(n:Nat):AV→Option AV
 |.ptr l o=>some (.ptr l (o+n))
 |.rptr r o=>some (.rptr r (o+n))
 |.optr l m i o=>some (.optr l m i (o+n))
 |.tptr _ l o=>some (.ptr l (o+n))
 |_=>none
def Zln(x:AV):Option (Nat×TypeId)→Option AV
 |some (o,_)=>Zlk o x
 |none=>none
def Zma(P:Program)(x:AV):Option (Nat×TypeId)→Option AV
 |some (o,t)=>match x with
  |.agg cs=>part (sh P t) cs o
  |_=>none
 |none=>none
def at?{α:Type}(l:List α)(i:Int):Option α:=if 0≤i then l[i.toNat]? else none
def Zra(z:Nat)(row:List AV):Option AV:=if row.length=z then some (.rptr row 0)else none
def Zd2(P:Program)(t:TypeId)(h:Za)(i:AV)(x:AV):Option AV :=
 match i with
 |.int _ i=>match x with
  |.rows rs|.lit rs=>match es P t with
   |some (z,_)=>match at? rs i with
    |some row=>Zra z row
    |none=>none
   |none=>none
  |.own l n=>match es P t with
   |some (z,_)=>match h[l]? with
    |some (.rows sz rs _)=>if rs.length=n∧sz=z then match at? rs i with
      |some _=>some (.optr l n i.toNat 0)
      |none=>none
     else none
    |_=>none
   |none=>none
  |.vw l n c m=>match es P t with
   |some (z,_)=>match h[l]? with
    |some (.rows sz rs _)=>if rs.length=n∧sz=z∧c+m≤n then match at? (cut rs c (c+m)) i with
      |some _=>some (.optr l n (c+i.toNat) 0)
      |none=>none
     else none
    |_=>none
   |none=>none
  |.ptr l o=>match ar P t with
   |some (n,_,z)=>if 0≤i∧i<(n:Int)then some (.ptr l (o+i.toNat*z))else none
   |none=>none
  |_=>none
 |_=>none
def ZhU(n:Nat):Option AV→Option (Option Int)
 |none=>some none
 |some (.int _ i)=>if 0≤i∧i≤(n:Int)then some (some i)else none
 |_=>none
def low:Option (Option Int)→Nat→Option Nat
 |some (some i),h=>if i≤(h:Int)then some i.toNat else none
 |some none,_=>some 0
 |none,_=>none
def ZvO:Option (Option Int)→Nat→Option Nat
 |some (some i),_=>some i.toNat
 |some none,n=>some n
 |none,_=>none
def QO(n:Nat)(lo hi:Option AV):Option (Nat×Nat) :=
 match ZvO (ZhU n hi) n with
 |some b=>match low (ZhU n lo) b with
  |some a=>some (a,b)
  |none=>none
 |none=>none
inductive TK where
 |str
 |slice (z b:Nat)
 |arr (n:Nat)
 |other
def tk(P:Program)(t:TypeId):TK :=
 match P.underlying t with
 |some .string=>.str
 |some (.slice e)=>match P.info? e with
  |some i=>.slice i.size i.bytes
  |none=>.other
 |some (.array n e)=>match P.info? e with
  |some _=>.arr n
  |none=>.other
 |_=>.other
def Y1(z:Nat):List (List AV)→Bool
 |[]=>true
 |r::rs=>r.length==z&&Y1 z rs
def Zex(c m:Nat)(lo:Option AV):Option AV→Option (Nat×Nat)
 |none=>if m≤c then QO m lo none else none
 |some x=>QO c lo (some x)
def Zge(l n c:Nat):Option (Nat×Nat)→Option AV
 |some (a,b)=>some (.vw l n (c+a) (b-a))
 |none=>none
def ZkZ(lo hi:Option AV):AV→Option AV
 |.str s=>match QO s.length lo hi with
  |some (a,b)=>some (.str (cut s a b))
  |none=>none
 |_=>none
def ZiX(h:Za)(z:Nat)(lo hi:Option AV):AV→Option AV
 |.rows rs|.lit rs=>match QO rs.length lo hi with
  |some (a,b)=>if Y1 z rs then some (.rows (cut rs a b))else none
  |none=>none
 |.nils=>match QO 0 lo hi with
  |some _=>some .nils
  |none=>none
 |.own l n=>match h[l]? with
  |some (.rows y rs false)=>if rs.length=n∧(y=z∧Zz rs=[])then match QO rs.length lo hi with
    |some (a,b)=>some (.rows (cut rs a b))
    |none=>none
   else none
  |some (.rows y rs true)=>if rs.length=n∧y=z then Zge l n 0 (QO n lo hi)else none
  |_=>none
 |.vw l n c m=>match h[l]? with
  |some (.rows y rs true)=>if rs.length=n∧y=z then Zge l n c (Zex (n-c) m lo hi)else none
  |_=>none
 |_=>none
def ZiI(_n:Nat)(_lo _hi:Option AV)(_x:AV):Option AV:=none
def ZbZ(h:Za)(lo hi:Option AV)(x:AV):TK→Option AV
 |.str=>ZkZ lo hi x
 |.slice z _=>ZiX h z lo hi x
 |.arr n=>ZiI n lo hi x
 |.other=>none
def Zea(h:Za)(lo hi mx:AV)(k:TK):AV→Option AV
 |.own l n=>match h[l]?,k with
  |some (.rows _ rs _),.slice _ _=>match lo,hi,mx with
   |.int _ a,.int _ b,.int _ c=>if rs.length=n∧0≤a∧a≤b∧b≤c∧c≤(n:Int)then some .any else none
   |_,_,_=>none
  |_,_=>none
 |_=>none
def Zrg(_hi _mx:AV)(_k:TK)(_x:AV):Option AV:=none
def Zwd:TK→AV→Option AV
 |.str,.str s=>some (.int .i64 (s.length:Int))
 |.slice _ _,.rows rs|.slice _ _,.lit rs=>some (.int .i64 (rs.length:Int))
 |.slice _ _,.own _ n=>some (.int .i64 (n:Int))
 |.slice _ _,.nils| .slice _ _,.emp _=>some (.int .i64 0)
 |.slice _ _,.town _ _ n=>some (.int .i64 (n:Int))
 |.slice _ _,.vw _ _ _ m=>some (.int .i64 (m:Int))
 |_,_=>none
def Zt8:TK→AV→Option AV
 |.slice _ _,.nils=>some (.int .i64 0)
 |_,_=>none
def Zl6(P:Program)(t:TypeId)(i:AV)(x:AV):Option AV :=
 match i with
 |.int _ i=>match x with
  |.str s=>match tk P t with
   |.str=>(match at? s i with
    |some b=>some (.int .u8 (b.toNat:Int))
    |none=>none)
   |_=>none
  |.agg cs=>match ar P t with
   |some (n,e,z)=>if 0≤i∧i<(n:Int)then part (sh P e) cs (i.toNat*z)else none
   |none=>none
  |_=>none
 |_=>none
def Zpn(k:IntKind)(x:Int):List AV→Option AV
 |[]=>some (.int k x)
 |.int _ y::r=>Zpn k (if y<x then y else x) r
 |_=>none
def ZpD(k:IntKind)(x:Int):List AV→Option AV
 |[]=>some (.int k x)
 |.int _ y::r=>ZpD k (if x<y then y else x) r
 |_=>none
def Zwv:List AV→Option AV
 |.int k x::r=>Zpn k x r
 |_=>none
def Zun:List AV→Option AV
 |.int k x::r=>ZpD k x r
 |_=>none
def Zl3(h:Za):AV→Option (List (List AV))
 |.rows rs|.lit rs=>some rs
 |.nils| .emp _=>some []
 |.own l n=>match h[l]? with
  |some (.rows _ rs _)=>if rs.length=n then some rs else none
  |_=>none
 |.vw l n a m=>match h[l]? with
  |some (.rows _ rs _)=>if rs.length=n∧a+m≤n then some (cut rs a (a+m))else none
  |_=>none
 |_=>none
def Zp:Nat:=35184372088832
def Xv(wq:Bool)(h:Za)(z b:Nat)(xs:AV)(ys:List (List AV)):Option (AV×Za) :=
 match xs with
 |.nils=>if ys.length*(b+1)≤Zp then some (.own h.length ys.length,h++[.rows z ys wq])else none
 |.lit rs=>if 0<ys.length∧Y1 z rs=true∧(rs.length+ys.length)*(b+1)≤Zp then some (.own h.length (rs.length+ys.length),h++[.rows z (rs++ys) wq])else if ys=[]then some (.lit rs,h)else none
 |.own l n=>match h[l]? with
  |some (.rows sz rs wr)=>if rs.length=n∧sz=z∧(rs.length+ys.length)*(b+1)≤Zp then some (.own l (n+ys.length),h.set l (.rows sz (rs++ys) wr))else none
  |_=>none
 |.vw l n 0 m=>match h[l]? with
  |some (.rows sz rs true)=>if rs.length=n∧sz=z∧0<n∧m+ys.length≤n then some (.vw l n 0 (m+ys.length),h.set l (.rows sz (rs.take m++ys++rs.drop (m+ys.length)) true))else none
  |_=>none
 |_=>none
def Ya:List UInt8→List (List AV)
 |[]=>[]
 |b::r=>[.int .u8 (b.toNat:Int)]::Ya r
def elT(P:Program)(t:TypeId):Option TypeId :=
 match P.underlying t with
 |some (.slice e)=>some e
 |_=>none
def tyO(t:TypeId):Option (AV×Za)→Option (AV×Za)
 |some (.own l n,h)=>some (.town t l n,h)
 |_=>none
def Jf(el:Option TypeId)(wq:Bool)(h:Za)(z b:Nat)(ys:List (List AV)):AV→Option (AV×Za)
 |.town t l n=>if el=some t then tyO t (Xv wq h z b (.own l n) ys)else none
 |xs=>Xv wq h z b xs ys
def Zhn(el:Option TypeId)(wq:Bool)(h:Za)(z b:Nat)(xs:AV):AV→Option (AV×Za)
 |.str s=>if z=1 then Jf el wq h z b (Ya s) xs else none
 |_=>none
def Zjd(n z:Nat)(a:AV):Option (List (List AV)) :=
 match cellsOf a with
 |some cs=>if cs.length=z then some (List.replicate n cs)else none
 |none=>none
def Jp(P:Program)(t:TypeId):Option AV :=
 match P.underlying t with
 |some (.slice e)=>zv P e
 |_=>none
def ZlE(z:Nat)(n:Int)(h:Za):Option AV→Option (AV×Za)
 |some a=>match Zjd n.toNat z a with
  |some rs=>some (.own h.length n.toNat,h++[.rows z rs true])
  |none=>none
 |none=>none
def ZA4(P:Program)(u:TypeId):Bool:=match P.underlying u with
 |some (.int _)=>true
 |_=>false
def ZtD(_z _b:Nat)(_h:Za)(_zr:Option AV)(_x _y:AV):Option (AV×Za):=none
def Zev(P:Program)(wq:Bool)(t u:Option TypeId)(h:Za):List AV→Option (AV×Za)
 |[xs,ys]=>match t,u with
  |some t,some u=>match tk P u with
   |.slice _ _=>(match es P t with
   |some (z,b)=>match Zl3 h ys with
    |some ys=>if Y1 z ys then Jf (elT P t) wq h z b ys xs else none
    |none=>none
   |none=>none)
   |.str=>(match es P t with
   |some (z,b)=>Zhn (elT P t) wq h z b xs ys
   |none=>none)
   |.other=>(match es P t with
   |some (z,b)=>if ZA4 P u=true then ZtD z b h (Jp P t) xs ys else none
   |none=>none)
   |_=>none
  |_,_=>none
 |_=>none
def Q3(kn:Bool)(h:Za)(ev:Operand→AV)(z:Nat):Nat→List (Nat×Operand)→Option (List (List AV))
 |_,[]=>some []
 |i,(j,x)::r=>if i=j then match pur kn h (ev x)with
   |some v=>match cellsOf v with
    |some cs=>if cs.length=z then match Q3 kn h ev z (i+1) r with
      |some rs=>some (cs::rs)
      |none=>none
     else none
    |none=>none
   |none=>none
  else none
def Ji(h:Za)(ev:Operand→AV)(z:Nat):Nat→List (Nat×Operand)→Option (List (List AV))
 |_,[]=>some []
 |i,(j,x)::r=>if i=j then match cellsOf (Zno h (ev x))with
   |some cs=>if cs.length=z then match Ji h ev z (i+1) r with
     |some rs=>some (cs::rs)
     |none=>none
    else none
   |none=>none
  else none
def ZiL(q:Bool)(n z:Nat)(h:Za):Option (List (List AV))→Option (AV×Za)
 |some rs=>if rs.length=n∧n*z≤16777216 then some (.own h.length n,h++[.rows z rs q])else none
 |none=>none
def ZaX(h:Za)(r:Option (AV×Za)):Option AV→Option (AV×Za)
 |some v=>some (v,h)
 |none=>r
def Zbc(q:Bool)(h:Za)(ev:Operand→AV)(n:Nat)(parts:List (Nat×Operand)):Option (Nat×Nat)→Option (AV×Za)
 |some (z,_)=>ZiL q n z h (Ji h ev z 0 parts)
 |none=>none
def Zho(n z:Nat):Option (List (List AV))→Option AV
 |some rs=>if rs.length=n∧n*z≤16777216 then some (.lit rs)else none
 |none=>none
inductive Plc where
 |fields (l:List (Nat×Nat))
 |elems (z:Nat)
def ZcH(P:Program):List Field→Option (List (Nat×Nat))
 |[]=>some []
 |f::r=>match P.info? f.type with
  |some i=>match ZcH P r with
   |some l=>some ((f.offset,i.size)::l)
   |none=>none
  |none=>none
def plc(P:Program)(t:TypeId):Option Plc :=
 match P.underlying t with
 |some (.struct fs)=>match ZcH P fs.toList with
  |some l=>some (.fields l)
  |none=>none
 |some (.array _ e)=>match P.info? e with
  |some i=>some (.elems i.size)
  |none=>none
 |_=>none
def Zfn:Plc→Nat→Option (Nat×Nat)
 |.fields l,i=>l[i]?
 |.elems z,i=>some (i*z,z)
def Zaq(place:Nat→Option (Nat×Nat))(ev:Operand→AV):List AV→List (Nat×Operand)→Option AV
 |cs,[]=>some (.agg cs)
 |cs,(i,x)::r=>match place i with
  |some (o,z)=>match cellsOf (ev x)with
   |some vs=>if vs.length=z∧o+vs.length≤cs.length then Zaq place ev (splice cs o vs) r else none
   |none=>none
  |none=>none
def Zeg(ev:Operand→AV)(parts:List (Nat×Operand)):Option Plc→Option AV→Option AV
 |some p,some (.agg cs)=>Zaq (Zfn p) ev cs parts
 |_,_=>none
def Zes(h:Za)(z:Nat)(zr:List AV):AV→Option Za
 |.vw l n a m=>match h[l]? with
  |some (.rows sz rs true)=>if rs.length=n∧sz=z∧a+m≤n∧zr.length=z then some (h.set l (.rows sz (rs.take a++List.replicate m zr++rs.drop (a+m)) true))else none
  |_=>none
 |_=>none
def ZC4(_h:Za)(_k:TK)(_l:List AV):Option AV:=none
def Zda:List (List AV)→Option (List UInt8)
 |[]=>some []
 |[.int .u8 n]::r=>match Zda r with
  |some l=>some (UInt8.ofNat n.toNat::l)
  |none=>none
 |_=>none
def Zni:Option (List UInt8)→Option AV
 |some l=>some (.str l)
 |none=>none
inductive Cv where
 |int (k:IntKind)
 |str
 |bytes
 |ofBytes
 |no
def Zcl(P:Program)(a b:TypeId):Cv :=
 match P.underlying a,P.underlying b with
 |some (.int _),some (.int k)=>.int k
 |some .string,some .string| some (.int _),some .string=>.str
 |some .string,some (.slice e)=>match P.underlying e with
  |some (.int .u8)=>.bytes
  |_=>.no
 |some (.slice e),some .string=>match P.underlying e with
  |some (.int .u8)=>.ofBytes
  |_=>.no
 |_,_=>.no
def Zcv(c:Cv)(x:AV):Option AV :=
 match c,x with
 |.int k,.int _ n=>some (.int k (Zx k n))
 |.str,.str s=>some (.str s)
 |.str,.int _ n=>some (.str (Utf8.encode n).data.toList)
 |.bytes,.str s=>some (.rows (Ya s))
 |.ofBytes,.rows rs| .ofBytes,.lit rs=>Zni (Zda rs)
 |.ofBytes,.nils=>some (.str [])
 |_,_=>none
def ZcR(_h:Za)(c:Cv)(x:AV):Option AV:=Zcv c x
def Zdb:AV→Option AV
 |.ptr l o=>some (.ptr l o)
 |.optr l n i o=>some (.optr l n i o)
 |.rptr r o=>some (.rptr r o)
 |.fn f c=>some (.fn f c)
 |.tptr t l o=>some (.tptr t l o)
 |_=>none
def Zo8(P:Program)(t:TypeId)(x:AV):Option AV :=
 match P.underlying t with
 |some (.interface _)=>none
 |some _=>some (.iface t x)
 |none=>none
def Zi2(P:Program)(t:Option TypeId)(h:Za):List AV→Option Za
 |[x]=>match t with
  |some t=>match es P t,Jp P t with
   |some (z,_),some a=>match cellsOf a with
    |some zr=>Zes h z zr x
    |none=>none
   |_,_=>none
  |none=>none
 |_=>none
def Zz8(_P:Program)(_t:Option TypeId)(_h:Za)(_l:List AV):Option (AV×Za):=none
def Qk(P:Program)(t:TypeId)(h:Za)(len cap:AV):Option (AV×Za) :=
 match len,cap with
 |.int .i64 n,.int .i64 m=>if n=m then match es P t with
  |some (z,b)=>if 0≤n∧n*((b+1:Nat):Int)≤(Zp:Int)then ZlE z n h (Jp P t)else none
  |none=>none
  else none
 |_,_=>none
inductive KK where
 |int|str
 |arr (n:Nat)
variable{kk:KK}
def ZyQ(P:Program)(t:TypeId):Option (KK×TypeId) :=
 match P.underlying t with
 |some (.map k e)=>match P.underlying k with
  |some (.int _)=>some (.int,e)
  |some .string=>some (.str,e)
  |some (.array n i)=>match P.underlying i with
   |some (.int _)=>match P.info? i with
    |some y=>if y.size=1 then some (.arr n,e)else none
    |none=>none
   |_=>none
  |_=>none
 |_=>none
def Jn:Nat→List AV→Bool
 |0,[]=>true
 |n+1,.int .i64 _::r=>Jn n r
 |_,_=>false
def Zao:KK→AV→AV→Option Bool
 |.int,.int k a,.int k' b=>if k=k' then some (a==b)else none
 |.str,.str a,.str b=>some (a==b)
 |_,_,_=>none
def JA(kk:KK)(k:AV):List (AV×AV)→Nat→Option (Option (Nat×AV))
 |[],_=>some none
 |(k',v)::r,i=>match Zao kk k k' with
  |some true=>some (some (i,v))
  |some false=>JA kk k r (i+1)
  |none=>none
def Qs(h:Za):AV→Option (List (AV×AV))
 |.nilm=>some []
 |.mp l=>match h[l]? with
  |some (.map es)=>some es
  |_=>none
 |_=>none
def Zdc(ok:Bool)(z:Option AV):Option (Option (Nat×AV))→Option AV
 |some (some (_,v))=>some (bif ok then .tup [v,.bool true]else v)
 |some none=>match z with
  |some z=>some (bif ok then .tup [z,.bool false]else z)
  |none=>none
 |none=>none
def Zf2:KK→AV→Bool
 |.arr n,.agg a=>Jn n a
 |.arr _,_=>false
 |_,_=>true
def ZfG(P:Program)(t:TypeId)(h:Za)(x k:AV)(ok:Bool):Option AV :=
 match ZyQ P t,Qs h x with
 |some (kk,e),some es=>bif Zf2 kk k then Zdc ok (zv P e) (JA kk k es 0)else none
 |_,_=>none
def ZgG:KK→AV→Bool
 |.int,.int _ _| .str,.str _=>true
 |.arr n,.agg a=>Jn n a
 |_,_=>false
def QY:AV→AV→Bool
 |.int k a,.int k' b=>decide (k=k')&&!(a==b)
 |.str a,.str b=>!(a==b)
 |_,_=>false
def ZzZ:AV→AV→Bool
 |.int _ a,.int _ b=>decide (a<b)
 |.str a,.str b=>Op.bytesLess a b
 |_,_=>false
def Zli(k v:AV):List (AV×AV)→List (AV×AV)
 |[]=>[(k,v)]
 |p::r=>if ZzZ k p.1=true then(k,v)::p::r else p::Zli k v r
def Zgn(es:List (AV×AV))(k v:AV):Option (Nat×AV)→List (AV×AV)
 |some (i,_)=>es.modify i fun _=>(k,v)
 |none=>Zli k v es
def Zeo(P:Program)(t:TypeId)(h:Za)(x k v:AV):Option Za :=
 match x with
 |.mp l=>match ZyQ P t,h[l]? with
  |some (kk,_),some (.map es)=>if ZgG kk k=true then match ZI h v,JA kk k es 0 with
   |some v,some r=>some (h.set l (.map (Zgn es k v r)))
   |_,_=>none
   else none
  |_,_=>none
 |_=>none
def evs(ev:Operand→AV):List Operand→List AV
 |[]=>[]
 |x::xs=>ev x::evs ev xs
def evo(ev:Operand→AV):Option Operand→Option AV
 |none=>none
 |some x=>some (ev x)
def Qx:Operand→Bool
 |.const _=>true
 |_=>false
def Zf3:Res→Option AV
 |some (r,[])=>some r
 |_=>none
def Zch(nl:FuncId→Bool×Nat)(F:Tk→Res)(h:Za)(args:List AV):AV→Option AV
 |.fn g caps=>match Zdy (nl g).1 h (args++caps)with
  |some pure=>Zf3 (F (.call g pure []))
  |none=>none
 |_=>none
def tk?(P:Program):Option TypeId→TK
 |some t=>tk P t
 |none=>.other
def Zcn(P:Program)(t:Option TypeId)(b:Builtin)(args:List AV):Option AV :=
 match b,args with
 |.len,[x]=>Zwd (tk? P t) x
 |.cap,[x]=>Zt8 (tk? P t) x
 |.min,l=>Zwv l
 |.max,l=>Zun l
 |_,_=>none
def J7(C:Cfg)(F:Tk→Res)(ev:Operand→AV)(h:Za)(c:Call):Option AV :=
 match c.callee with
 |.value f=>Zch C.nlA F h (evs ev c.args.toList) (ev f)
 |.builtin b=>Zcn C.P c.argTypes[0]? b (evs ev c.args.toList)
 |.invoke _ _=>none
def Ztt:Operand→Bool
 |.const (.slice none _ _)=>true
 |_=>false
def Zkd(y:Operand)(h:Za):Za:=bif Ztt y then h else[]
theorem Zuo(y:Operand)(h:Za):Zkd y h=h∨Zkd y h=[]:=by
 unfold Zkd;cases Ztt y
 ·exact .inr rfl
 exact .inl rfl
def ZP(C:Cfg)(F:Tk→Res)(ev:Operand→AV)(h:Za):Op→Option AV
 |.move x| .assign x=>some (ev x)
 |.pick c a b=>pick (ev c) (ev a) (ev b)
 |.build t parts=>Zeg ev parts.toList (plc C.P t) (zv C.P t)
 |.buildSlice t n parts=>match es C.P t with
  |some (z,_)=>Zho n z (Q3 (C.nlT t) h ev z 0 parts.toList)
  |none=>none
 |.load t a=>ZgM C.P t (ev a) h
 |.nilCheck x=>Zdb (ev x)
 |.binOp op t x y _=>orV (Zis C.P op t (Zkd y h) (ev x) (ev y)) (Zvl C.P op t (Qx x||Qx y) (ev x) (ev y))
 |.unOp op _ x=>aUn op (ev x)
 |.convert a b x=>Zcv (Zcl C.P a b) (ev x)
 |.makeInterface t x=>Zo8 C.P t (ev x)
 |.makeFunc (.func f) first captured=>if first.size=0 then some (.fn f (evs ev captured.toList))else if captured.size=0 then some (.bnd f (evs ev first.toList))else none
 |.slice t x lo hi none=>ZbZ h (evo ev lo) (evo ev hi) (ev x) (tk C.P t)
 |.slice t x none (some hi) (some mx)=>Zrg (ev hi) (ev mx) (tk C.P t) (ev x)
 |.slice t x (some lo) (some hi) (some mx)=>Zea h (ev lo) (ev hi) (ev mx) (tk C.P t) (ev x)
 |.fieldAddr t x f=>Zln (ev x) (fo C.P t f)
 |.field t x f=>Zma C.P (ev x) (fo C.P t f)
 |.indexAddr t x i=>Zd2 C.P t h (ev i) (ev x)
 |.index t x i=>Zl6 C.P t (ev i) (ev x)
 |.extract x i=>ZeH i (ev x)
 |.lookup t x i ok=>ZfG C.P t h (ev x) (ev i) ok
 |.call c=>J7 C F ev h c
 |_=>none
def alloc(h:Za):Option AV→Option (AV×Za)
 |some a=>match cellsOf a with
  |some cs=>some (.ptr h.length 0,h++[.cells cs])
  |none=>none
 |none=>none
def Zjb:List Operand→Bool
 |x::_=>Qx x
 |[]=>false
def ZjD(C:Cfg):Option TypeId→Bool
 |some t=>C.wrT t
 |none=>false
def Zi0:List AV→Bool
 |[.lit [],.lit _]=>false
 |[.lit [],_]=>true
 |_=>false
def ZdF(C:Cfg):Option TypeId→List AV→Bool
 |some t,xs=>bif C.wrE t then Zi0 xs else false
 |none,_=>false
def ZbK(C:Cfg)(F:Tk→Res)(ev:Operand→AV)(h:Za)(c:Call):Option (AV×Za) :=
 match c.callee with
 |.value f=>ZU C.nlA F h (evs ev c.args.toList) (ev f)
 |.builtin .append=>Zev C.P (Zjb c.args.toList||ZjD C c.argTypes[0]? || ZdF C c.argTypes[0]? (evs ev c.args.toList)) c.argTypes[0]? c.argTypes[1]? h (evs ev c.args.toList)
 |.builtin .clear=>Zaz (Zi2 C.P c.argTypes[0]? h (evs ev c.args.toList))
 |.builtin .cap=>val h (ZC4 h (tk? C.P c.argTypes[0]?) (evs ev c.args.toList))
 |.builtin .copy=>Zz8 C.P c.argTypes[0]? h (evs ev c.args.toList)
 |.builtin b=>val h (Zcn C.P c.argTypes[0]? b (evs ev c.args.toList))
 |.invoke _ _=>none
def tyP(t:TypeId):Option (AV×Za)→Option (AV×Za)
 |some (.ptr l o,h)=>some (.tptr t l o,h)
 |_=>none
def ZiT(b:Bool)(t:TypeId)(r:Option (AV×Za)):Option (AV×Za):=bif b then tyP t r else r
def Zwt(_P:Program)(_t:TypeId)(_h:Za)(_x _k _v:AV):Option Za:=none
def Zdt(b:Bool)(r:Option AV):Option AV:=match b with
 |true=>none
 |false=>r
def Z8(C:Cfg)(F:Tk→Res)(ev:Operand→AV)(h:Za)(o:Op):Option (AV×Za) :=
 match o with
 |.alloc t=>ZiT (t==C.bT) t (alloc h (zv C.P t))
 |.box _ x=>alloc h (some (ev x))
 |.store t a v=>Zaz (ZfU C.P t (ev a) (ev v) h)
 |.makeSlice t n m=>Qk C.P t h (ev n) (ev m)
 |.convert a b x=>val h (ZcR h (Zcl C.P a b) (ev x))
 |.buildSlice t n parts=>ZaX h (Zbc (C.wrB t) h ev n parts.toList (es C.P t)) (Zdt (C.wrB t) (ZP C F ev h (.buildSlice t n parts)))
 |.makeMap _ none=>some (.mp h.length,h++[.map []])
 |.mapUpdate t m k x=>Zaz (Zeo C.P t h (ev m) (ev k) (ev x))
 |.insert t m k x=>Zaz (Zwt C.P t h (ev m) (ev k) (ev x))
 |.call c=>ZbK C F ev h c
 |o=>val h (ZP C F ev h o)
def Wu(all:List Oper)(j:Nat):Option Nat :=
 match all[j]? with
 |some o=>o.dst
 |none=>none
def ZdW(fr:Fr):Option Nat→AV
 |some d=>get fr d
 |none=>.any
def J2(C:Cfg)(F:Tk→Res)(all:List Oper):List Oper→Fr→Za→Option (Fr×Za)
 |[],fr,h=>some (fr,h)
 |o::rest,fr,h=>match o.guard with
  |none=>match Z8 C F (ev fr) h o.op with
   |some (v,h)=>J2 C F all rest (put fr o.dst v) h
   |none=>none
  |some (j,want)=>match ZdW fr (Wu all j)with
   |.bool b=>if b=want then(match Z8 C F (ev fr) h o.op with
     |some (v,h)=>J2 C F all rest (put fr o.dst v) h
     |none=>none)else J2 C F all rest (put fr o.dst (.tup [])) h
   |.tup []=>J2 C F all rest (put fr o.dst (.tup [])) h
   |_=>none
def Zq6:Op→Bool
 |.move _|.assign _|.pick _ _ _|.build _ _|.buildSlice _ _ _|.load _ _|.nilCheck _|.binOp _ _ _ _ _|.unOp _ _ _|.convert _ _ _|.makeInterface _ _
 |.makeFunc _ _ _|.slice _ _ _ _ none|.fieldAddr _ _ _|.field _ _ _|.indexAddr _ _ _|.index _ _ _|.extract _ _|.lookup _ _ _ _=>true
 |.call c=>match c.callee with
  |.value _| .builtin .len|.builtin .min|.builtin .max=>true
  |_=>false
 |_=>false
def isQ(dy:List (Nat×Nat))(i:Nat)(o:Op):Bool:=Zq6 o&&!dy.any (fun p=>p.1==i)
def alo:Op→Bool
 |.alloc _|.box _ _|.makeMap _ none|.makeSlice _ _ _=>true
 |_=>false
def fill(h:Za)(l:Nat):Option AV→Option (AV×Za)
 |some a=>match cellsOf a,h[l]? with
  |some cs,some .hole=>some (.ptr l 0,h.set l (.cells cs))
  |_,_=>none
 |none=>none
def Zmv(h:Za)(l:Nat):Option (AV×Za) :=
 match h[l]? with
 |some .hole=>some (.mp l,h.set l (.map []))
 |_=>none
def Znq(h:Za)(l:Nat):Option (AV×Za)→Option (AV×Za)
 |some (.own _ n,[b])=>match h[l]? with
  |some .hole=>some (.own l n,h.set l b)
  |_=>none
 |_=>none
def ZcK(C:Cfg)(ev:Operand→AV)(h:Za)(l:Nat):Op→Option (AV×Za)
 |.alloc t=>fill h l (zv C.P t)
 |.box _ x=>fill h l (some (ev x))
 |.makeMap _ none=>Zmv h l
 |.makeSlice t n m=>Znq h l (Qk C.P t [] (ev n) (ev m))
 |_=>none
def J3:List Oper→Nat
 |[]=>0
 |o::r=>(if alo o.op=true then 1 else 0)+J3 r
def Zle(n:Nat)(ops:List Oper)(i:Nat):Nat:=n+J3 (ops.take i)
def Zz4(keep:Bool):AV:=bif keep then .nils else .rows []
mutual
def Yx(sub:List (List AV)→Option (List (List AV)))(keep:Bool)(k:Nat)(h:Za):AV→Option AV
 |.own l n=>match h[l]? with
  |some (.rows _ rs wr)=>if rs.length=n∧(k≤l∨wr=false)then(match sub rs with
   |some rs=>some (.rows rs)
   |none=>none)else none
  |_=>none
 |.nils=>some (Zz4 keep)
 |.lit rs=>some (.rows rs)
 |.agg cs=>match Yl sub keep k h cs with
  |some cs=>some (.agg cs)
  |none=>none
 |.tup cs=>match Yl sub keep k h cs with
  |some cs=>some (.tup cs)
  |none=>none
 |.fn f cs=>match Yl sub keep k h cs with
  |some cs=>some (.fn f cs)
  |none=>none
 |.bnd f cs=>match Yl sub keep k h cs with
  |some cs=>some (.bnd f cs)
  |none=>none
 |.iface t a=>match Yx sub keep k h a with
  |some a=>some (.iface t a)
  |none=>none
 |.ptr l o=>if l<k then some (.ptr l o)else none
 |.mp l=>if l<k then some (.mp l)else none
 |.tptr t l o=>if l<k then some (.tptr t l o)else none
 |.town _ _ _=>none
 |.vw l n a m=>if l<k then some (.vw l n a m)else match h[l]? with
  |some (.rows _ rs _)=>if rs.length=n∧a+m≤n then(match sub (cut rs a (a+m))with
   |some rs=>some (.rows rs)
   |none=>none)else none
  |_=>none
 |.optr l n i o=>if l<k then some (.optr l n i o)else none
 |a=>some a
def Yl(sub:List (List AV)→Option (List (List AV)))(keep:Bool)(k:Nat)(h:Za):List AV→Option (List AV)
 |[]=>some []
 |a::r=>match Yx sub keep k h a with
  |some a=>match Yl sub keep k h r with
   |some r=>some (a::r)
   |none=>none
  |none=>none
end
def Yp(f:List AV→Option (List AV)):List (List AV)→Option (List (List AV))
 |[]=>some []
 |row::r=>match f row with
  |some row'=>if Zg row'=[]∧(row'.length=row.length∧singles row'=true)then(match Yp f r with
   |some r=>some (row'::r)
   |none=>none)else none
  |none=>none
def XW(f:List (List AV)→Option (List (List AV)))(rs:List (List AV)):Option (List (List AV)):=if Zz rs=[]then some rs else f rs
def ZuV(keep:Bool)(k:Nat)(h:Za):List (List AV)→Option (List (List AV)):=XW fun _=>none
def Zw9(keep:Bool)(k:Nat)(h:Za):List (List AV)→Option (List (List AV)):=XW (Yp (Yl (ZuV keep k h) keep k h))
def ZpE(keep:Bool)(k:Nat)(h:Za):List (List AV)→Option (List (List AV)):=XW (Yp (Yl (Zw9 keep k h) keep k h))
def Zj4(keep:Bool)(k:Nat)(h:Za):AV→Option AV:=Yx (ZpE keep k h) keep k h
def lvR:Res→Res
 |some (r,[])=>some (r,[])
 |some (r,b::hs)=>match Zj4 false 0 (b::hs) r with
  |some a=>some (a,[])
  |none=>none
 |none=>none
def lv(F:Tk→Res):Tk→Res
 |.call g args []=>lvR (F (.call g args []))
 |t=>F t
def Cfg.shut(C:Cfg):Cfg:={C with nlA:=fun f=>((C.nlA f).1,if(C.nlA f).2=2 then 0 else(C.nlA f).2)}
theorem ZlJ(C:Cfg):∀g,(C.shut.nlA g).2≠2:=fun g=>by
 show(if(C.nlA g).2=2 then 0 else(C.nlA g).2)≠2;split
 ·decide
 assumption
def Zrt(dy:List (Nat×Nat))(i:Nat):Op→Bool
 |.call _=>dy.any fun p=>p.1==999&&p.2==i
 |_=>false
def QJ(F:Tk→Res)(n:Nat)(ev:Operand→AV)(h:Za):Op→Option (AV×Za)
 |.call c=>match c.callee with
  |.value f=>match ev f with
   |.fn g caps=>Z0 F g h (List.range n) (evs ev c.args.toList++caps)
   |_=>none
  |_=>none
 |_=>none
def XP(C:Cfg)(F:Tk→Res)(dy:List (Nat×Nat))(pl:Nat→Nat)(i:Nat)(ev:Operand→AV)(h:Za)(o:Op):Option (AV×Za) :=
 if isQ dy i o=true then val h (ZP C (lv F) ev h o)else if alo o=true then ZcK C ev h (pl i) o else if Zrt dy i o=true then QJ F (pl 0) ev h o else Z8 C.shut F ev h o
def ZN(h:Za)(args:List AV):AV→List Nat
 |.fn _ caps=>match ZE h (args++caps)with
  |some _=>[]
  |none=>match Qp h (args++caps)with
   |some l=>Y7 h 100 (Zg l) []
   |none=>[]
 |.bnd _ fs=>match ZE h (fs++args)with
  |some _=>[]
  |none=>match Qp h (fs++args)with
   |some l=>Y7 h 100 (Zg l) []
   |none=>[]
 |_=>[]
def YA(ev:Operand→AV)(h:Za):Op→List Nat
 |.store _ a _=>locs (ev a)
 |.mapUpdate _ m _ _| .insert _ m _ _=>locs (ev m)
 |.call c=>match c.callee with
  |.value f=>ZN h (evs ev c.args.toList) (ev f)
  |_=>Zg (evs ev c.args.toList)
 |_=>[]
def Ys(n:Nat)(dy:List (Nat×Nat))(i:Nat)(ev:Operand→AV)(h:Za)(o:Op):List Nat :=
 if isQ dy i o=true then[]else if alo o=true then[]else if Zrt dy i o=true then List.range n else YA ev h o
def eqK:IntKind→IntKind→Bool:=fun a b=>decide (a=b)
mutual
def eqA:AV→AV→Bool
 |.int k a,.int k' b=>eqK k k'&&a==b
 |.bool a,.bool b| .str a,.str b=>a==b
 |.nilp,.nilp|.nilf,.nilf|.nili,.nili|.nilm,.nilm|.nils,.nils=>true
 |.emp a,.emp b=>a==b
 |.rows a,.rows b| .lit a,.lit b=>eqR a b
 |.rptr a o,.rptr b o'=>eqL a b&&o==o'
 |.agg a,.agg b| .tup a,.tup b=>eqL a b
 |.fn f a,.fn g b| .bnd f a,.bnd g b=>f==g&&eqL a b
 |.iface t a,.iface u b=>t==u&&eqA a b
 |.ptr l o,.ptr l' o'=>l==l'&&o==o'
 |.own l n,.own l' n'=>l==l'&&n==n'
 |.optr l n i o,.optr l' n' i' o'=>l==l'&&(n==n'&&(i==i'&&o==o'))
 |.mp l,.mp l'=>l==l'
 |.tptr t l o,.tptr t' l' o'=>t==t'&&(l==l'&&o==o')
 |.town t l n,.town t' l' n'=>t==t'&&(l==l'&&n==n')
 |.vw l n a m,.vw l' n' a' m'=>(l==l'&&n==n')&&(a==a'&&m==m')
 |_,_=>false
def eqL:List AV→List AV→Bool
 |[],[]=>true
 |a::r,b::s=>eqA a b&&eqL r s
 |_,_=>false
def eqR:List (List AV)→List (List AV)→Bool
 |[],[]=>true
 |a::r,b::s=>eqL a b&&eqR r s
 |_,_=>false
end
def eqE:List (AV×AV)→List (AV×AV)→Bool
 |[],[]=>true
 |a::r,b::s=>eqA a.1 b.1&&(eqA a.2 b.2&&eqE r s)
 |_,_=>false
def eqB:Option Blk→Option Blk→Bool
 |some (.cells a),some (.cells b)=>eqL a b
 |some (.rows z a w),some (.rows z' b w')=>z==z'&&(w==w'&&eqR a b)
 |some (.map a),some (.map b)=>eqE a b
 |some .hole,some .hole=>true
 |_,_=>false
def chg(h h':Za):List Nat→List Nat
 |[]=>[]
 |l::r=>if eqB h[l]? h'[l]?=true then chg h h' r else l::chg h h' r
def QC(dy:List (Nat×Nat))(i:Nat)(fr:Fr)(w:List Nat):Bool :=
 match dy with
 |[]=>true
 |(j,s)::r=>(if j=i then !(locs (get fr s)).any (fun l=>w.contains l)else true)&&QC r i fr w
def X0(C:Cfg)(F:Tk→Res)(dy:List (Nat×Nat))(pl:Nat→Nat)(all:List Oper):Nat→List Oper→Fr→Za→Option (Fr×Za×List (Nat×List Nat))
 |_,[],fr,h=>some (fr,h,[])
 |i,o::rest,fr,h =>
  let go:Option (Fr×Za×List (Nat×List Nat)):=match XP C F dy pl i (ev fr) h o.op with
   |some (v,h')=>match X0 C F dy pl all (i+1) rest (put fr o.dst v) h' with
    |some (fr',h'',l)=>some (fr',h'',(i,chg h h' (Ys (pl 0) dy i (ev fr) h o.op))::l)
    |none=>none
   |none=>none
  match o.guard with
  |none=>go
  |some (j,want)=>match ZdW fr (Wu all j)with
   |.bool b=>if b=want then go else X0 C F dy pl all (i+1) rest (put fr o.dst (.tup [])) h
   |.tup []=>X0 C F dy pl all (i+1) rest (put fr o.dst (.tup [])) h
   |_=>none
def YN(dy:List (Nat×Nat))(fr:Fr):List (Nat×List Nat)→Bool
 |[]=>true
 |(i,w)::r=>QC dy i fr w&&YN dy fr r
def ZgP(dy:List (Nat×Nat)):Option (Fr×Za×List (Nat×List Nat))→Option (Fr×Za)
 |some (fr,h,l)=>if YN dy fr l then some (fr,h)else none
 |none=>none
def unwind(id:Nat):List It→Option (Nat×List It)
 |[]=>none
 |.blk j n::ks=>if j=id then some (n,ks)else unwind id ks
 |_::ks=>unwind id ks
def restr(fr:Fr):List Nat→Fr
 |[]=>[]
 |i::r=>(i,get fr i)::restr fr r
def QR(fr:Fr)(h:Za):List (Nat×Option Nat×Nat×Bool)→Fr×Za
 |[]=>(fr,h)
 |(i,some d,z,q)::r=>match get fr i with
  |.ptr l o=>match h[l]? with
   |some (.cells cs)=>match cs[o+d]? with
    |some .nils=>QR fr ((h++[Blk.rows z [] q]).set l (.cells (cs.set (o+d) (.own h.length 0)))) r
    |_=>QR fr h r
   |_=>QR fr h r
  |_=>QR fr h r
 |(i,none,z,q)::r=>match get fr i with
  |.nils=>QR ((i,.own h.length 0)::fr) (h++[.rows z [] q]) r
  |_=>QR fr h r
def frz(k:Nat)(live:List Nat):List Nat→Fr→Za→Option (Fr×Za)
 |[],fr,h=>some (fr,h)
 |i::r,fr,h=>match get fr i with
  |.own l n=>match h[l]? with
   |some (.rows _ rs _)=>if rs.length=n∧k≤l∧Zz rs=[]∧(Qv (restr ((i,.rows rs)::fr) live)).contains l=false∧(Zk h).contains l=false then frz k live r (restr ((i,.rows rs)::fr) live) (h.set l .hole)else none
   |_=>none
  |.nils=>frz k live r (restr ((i,.rows [])::fr) live) h
  |.lit rs=>frz k live r (restr ((i,.rows rs)::fr) live) h
  |_=>frz k live r fr h
def ZxQ(P:Program)(fr:Fr)(h:Za):ResultVar→Option AV
 |.tmp t=>some (get fr t)
 |.cell a t=>ZgM P t (get fr a) h
def ZlG(P:Program)(fr:Fr)(h:Za):List ResultVar→Option (List AV)
 |[]=>some []
 |r::rs=>match ZxQ P fr h r with
  |some v=>match ZlG P fr h rs with
   |some vs=>some (v::vs)
   |none=>none
  |none=>none
def Zax:List AV→AV
 |[v]=>v
 |vs=>.tup vs
def Ze7(k:Nat)(h:Za)(r:AV):Res :=
 match r with
 |.own l n=>match h[l]? with
  |some (.rows z rs wr)=>if rs.length=n∧k≤l∧Zz rs=[]then some (.own k n,h.take k++[.rows z rs wr])else none
  |_=>none
 |.lit rs=>some (.lit rs,h.take k)
 |.nils=>some (.own k 0,h.take k++[.rows 0 [] false])
 |_=>none
def Zpr(z:Nat)(k:Nat)(h:Za)(r:AV):Res :=
 match r with
 |.nils=>some (.own k 0,h.take k++[.rows z [] false])
 |r=>Ze7 k h r
def Zjl(k:Nat)(h:Za):Option AV→Res
 |some a=>some (a,h.take k)
 |none=>none
def Zb8(k:Nat)(h:Za)(r:Res):Res:=if Zi k (Zk (h.take k))then r else none
def ZoM(h:Za)(ls:List Nat)(r:AV):Res:=match sub h (YQ ls) ls with
 |some hs=>if Zi ls.length (Zk hs)=true∧Zi ls.length ((locs r).map (YQ ls))=true then some (ren (YQ ls) r,hs)else none
 |none=>none
def Zme(k:Nat)(h:Za)(r:AV):Res:=ZoM h (Y7 h 1000 (Zk (h.take k)++locs r) (List.range k)) r
def ZcZ(h:Za):AV→AV×Za
 |.vw l n 0 m=>match h[l]? with
  |some (.rows z rs true)=>if rs.length=n∧m≤n∧0<m then(.own h.length m,h.set l (.rows z (List.replicate (n+1) []) true)++[.rows z (rs.take m) true])else if m=0 then(.rows [],h)else(.vw l n 0 m,h)
  |_=>(.vw l n 0 m,h)
 |v=>(v,h)
def Zfg(mode:Nat)(k:Nat)(h:Za):Option (List AV)→Res
 |some vs=>match mode with
   |0=>Zb8 k h (Zjl k h (Zj4 false k h (Zax vs)))
   |1=>Zb8 k h (Ze7 k h (Zax vs))
   |2=>Zb8 k h (Zjl k h (Zj4 true k h (Zax vs)))
   |3=>Zme k h (Zax vs)
   |5=>some (Zax vs,h)
   |4=>Zme k (ZcZ h (Zax vs)).2 (ZcZ h (Zax vs)).1
   |z=>Zb8 k h (Zpr (z-10) k h (Zax vs))
 |none=>none
def Zfq(C:Cfg)(f:FuncId)(k:Nat)(fr:Fr)(h:Za):Res :=
 match C.P.funcs[f]? with
 |some fn=>Zfg (C.ret f) k h (ZlG C.P fr h fn.results.toList)
 |none=>none
def QS(n:Nat):List AV→Fr
 |[]=>[]
 |a::r=>(n,a)::QS (n+1) r
def ZdL(F:Tk→Res)(f:FuncId)(k:Nat)(ks:List It):Option (Fr×Za)→Res
 |some (fr,h)=>F (.run f k ks fr h)
 |none=>none
def Zpx(k:Nat)(fr:Fr)(i d:Nat)(h:Za):Za :=
 match get fr i with
 |.ptr l0 o=>match h[l0]? with
  |some (.cells cs)=>match cs[o+d]? with
   |some (.own l n)=>match h[l]? with
    |some (.rows _ rs _)=>if rs.length=n∧k≤l∧Zz rs=[]∧(Qv fr).contains l=false∧(Zk (h.set l0 (.cells (cs.set (o+d) (.rows rs))))).contains l=false then(h.set l .hole).set l0 (.cells (cs.set (o+d) (.rows rs)))else h
    |_=>h
   |_=>h
  |_=>h
 |_=>h
def ZdI(fr:Fr)(h:Za)(i d:Nat):Option (Nat×Nat) :=
 match get fr i with
 |.ptr l0 o=>match h[l0]? with
  |some (.cells cs)=>match cs[o+d]? with
   |some (.own l n)=>some (l,n)
   |_=>none
  |_=>none
 |_=>none
def Zm7(k:Nat)(fr:Fr)(h:Za)(j c:Nat):Option (Nat×Nat)→Za
 |some (l,n)=>if j<n then(match h[l]? with
  |some (.rows z rs wr)=>match rs[n-1-j]? with
   |some row=>match row[c]? with
    |some (.own l' n')=>match h[l']? with
     |some (.rows _ ts _)=>if ts.length=n'∧k≤l'∧Zz ts=[]∧(Qv fr).contains l'=false∧(Zk (h.set l (.rows z (rs.set (n-1-j) (row.set c (.rows ts))) wr))).contains l'=false then(h.set l' .hole).set l (.rows z (rs.set (n-1-j) (row.set c (.rows ts))) wr)else h
     |_=>h
    |some .nils=>h.set l (.rows z (rs.set (n-1-j) (row.set c (.rows []))) wr)
    |_=>h
   |none=>h
  |_=>h)else h
 |none=>h
def ZsP(h:Za)(c z:Nat)(q:Bool):Option (Nat×Nat)→Za
 |some (l,n)=>match h[l]? with
  |some (.rows y rs wr)=>match rs[n-1]? with
   |some row=>match row[c]? with
    |some .nils=>(h++[Blk.rows z [] q]).set l (.rows y (rs.set (n-1) (row.set c (.own h.length 0))) wr)
    |_=>h
   |none=>h
  |_=>h
 |none=>h
def Zvu(σ:Nat→Nat):Fr→Fr
 |[]=>[]
 |(i,v)::r=>(i,ren σ v)::Zvu σ r
def ZpJ(fr:Fr)(h:Za)(ls:List Nat):Fr×Za:=match sub h (YQ ls) ls with
 |some hs=>if Zi ls.length (Zk hs)=true∧Zi ls.length ((Qv fr).map (YQ ls))=true then(Zvu (YQ ls) fr,hs)else(fr,h)
 |none=>(fr,h)
def tidy(k:Nat)(fr:Fr)(h:Za):Fr×Za:=ZpJ fr h (Y7 h 1000 (Zk (h.take k)++Qv fr) (List.range k))
def isF:AV→Bool
 |.bool b=>!b
 |_=>false
def ZzO(h:Za)(c:Nat):Option (Nat×Nat)→Bool
 |some (l,n)=>match h[l]? with
  |some (.rows _ rs _)=>match rs[n-1]? with
   |some row=>match row[c]? with
    |some .nils=>true
    |_=>false
   |none=>false
  |_=>false
 |none=>false
def isT:AV→Bool
 |.bool b=>b
 |_=>false
def Zp5(k:Nat)(fr:Fr)(h:Za)(i c:Nat):Za :=
 match get fr i with
 |.optr l n p o=>Zm7 k fr h (n-1-p) (o+c) (some (l,n))
 |_=>h
def ZoB(h:Za)(j c:Nat):Option (Nat×Nat)→Option (Nat×Nat)
 |some (l,n)=>match h[l]? with
  |some (.rows _ rs _)=>match rs[n-1-j]? with
   |some row=>match row[c]? with
    |some (.own l' n')=>some (l',n')
    |_=>none
   |none=>none
  |_=>none
 |none=>none
def Zsg(k:Nat)(fr:Fr)(c:Nat)(x:Option (Nat×Nat)):Nat→Za→Za
 |0,h=>h
 |q+1,h=>Zsg k fr c x q (Zm7 k fr h q c x)
def ZBK:Option (Nat×Nat)→Nat
 |some (_,n)=>n
 |none=>0
def Za4(k:Nat):List Pop→Fr→Za→Fr×Za
 |[],fr,h=>(fr,h)
 |.cell i d::r,fr,h=>Za4 k r fr (Zpx k fr i d h)
 |.row i d j c::r,fr,h=>Za4 k r fr (Zm7 k fr h j c (ZdI fr h i d))
 |.new i d c z q::r,fr,h=>Za4 k r fr (ZsP h c z q (ZdI fr h i d))
 |.tidy::r,fr,h=>Za4 k r (tidy k fr h).1 (tidy k fr h).2
 |.whenF i::r,fr,h=>if isF (get fr i)=true then Za4 k r fr h else(fr,h)
 |.whenN i d c::r,fr,h=>if ZzO h c (ZdI fr h i d)=true then Za4 k r fr h else(fr,h)
 |.whenT i::r,fr,h=>if isT (get fr i)=true then Za4 k r fr h else(fr,h)
 |.opt i c::r,fr,h=>Za4 k r fr (Zp5 k fr h i c)
 |.keep l::r,fr,h=>Za4 k r (restr fr l) h
 |.inner i d j c c2::r,fr,h=>Za4 k r fr (Zsg k fr c2 (ZoB h j c (ZdI fr h i d)) (ZBK (ZoB h j c (ZdI fr h i d))) h)
def ZaW(F:Tk→Res)(f:FuncId)(k:Nat)(ks:List It)(n:Nat)(fr:Fr)(h:Za):Option (List Nat)→Res
 |none=>F (.run f k ks fr h)
 |some l=>if decide (k≤n)&&(Zi n (Qv (restr fr l))&&Zi n (Zk (h.take n)))then F (.run f k ks (restr fr l) (h.take n))else F (.run f k ks (restr fr l) h)
def ZcE(id:Nat)(ks:List It):List (Nat×List Nat×List Pop)→List It
 |[]=>ks
 |(j,l,c)::r=>if j=id then .pst l c::ks else ZcE id ks r
def Zkg(F:Tk→Res)(f:FuncId)(k:Nat)(fr:Fr)(h:Za)(out:Option (List Nat)):Option (Nat×List It)→Res
 |some (n,ks)=>ZaW F f k ks n fr h out
 |none=>none
def ZfS(F:Tk→Res)(f:FuncId)(k:Nat)(ks:List It)(c:Code)(live:List Nat×List Nat)(n:Nat):Option (Fr×Za)→Res
 |some (fr,h)=>if decide (k≤n)&&(Zi n (Qv fr)&&Zi n (Zk (h.take n)))then F (.run f k (.code c::.lp c (some live) n::ks) fr (h.take n))else F (.run f k (.code c::.lp c (some live) n::ks) fr h)
 |none=>none
def ZbN(F:Tk→Res)(f:FuncId)(k:Nat)(ks:List It)(c:Code)(live:List Nat×List Nat)(n:Nat)(fr:Fr)(h:Za):Res :=
 ZfS F f k ks c live n (frz k live.1 live.2 (restr fr live.1) h)
def Zeh(F:Tk→Res)(f:FuncId)(k:Nat)(ks:List It)(id:Nat)(c:Code)(live:List Nat×List Nat):Option (Fr×Za)→Res
 |some (fr,h)=>F (.run f k (.code c::.lp c (some live) h.length::.blk id h.length::ks) fr h)
 |none=>none
def Zdl(C:Cfg)(F:Tk→Res)(f:FuncId)(k:Nat)(ks:List It)(id:Nat)(fr:Fr)(h:Za)(c:Code):Option (List Nat×List (Nat×Option Nat×Nat×Bool)×List Nat)→Res
 |some (live,os,fz)=>match c with
  |.loop b=>Zeh F f k ks id b (live,fz) (frz k live fz (restr (QR fr h os).1 live) (QR fr h os).2)
  |c=>F (.run f k (.code c::.blk id h.length::ks) fr h)
 |none=>F (.run f k (.code c::.blk id h.length::ks) fr h)
def ZcD(F:Tk→Res)(f:FuncId)(k:Nat)(ks:List It)(a b:Code)(fr:Fr)(h:Za)(v:AV):Res :=
 match v with
 |.bool t=>if t=true then F (.run f k (.code a::ks) fr h)else F (.run f k (.code b::ks) fr h)
 |_=>none
def Qy(fr:Fr)(h:Za):List (Nat×Nat×TypeId)→Za
 |[]=>h
 |(i,d,t)::r=>match get fr i with
  |.tptr _ l o=>match h[l]? with
   |some (.cells cs)=>match cs[o+d]? with
    |some .nils=>Qy fr ((h++[Blk.rows 1 [] false]).set l (.cells (cs.set (o+d) (.town t h.length 0)))) r
    |_=>Qy fr h r
   |_=>Qy fr h r
  |_=>Qy fr h r
def enter(F:Tk→Res)(f:FuncId)(args:List AV)(h:Za)(os:List (Nat×Nat×TypeId)):Option Func→Res
 |some fn=>match fn.body with
  |some c=>F (.run f (Qy (QS 0 args) h os).length [.code c] (QS 0 args) (Qy (QS 0 args) h os))
  |none=>none
 |none=>none
def ZbV(C:Cfg)(F:Tk→Res)(f:FuncId)(id:Nat)(ops:List Oper)(draw:Bool)(fr:Fr)(h:Za):Option (Fr×Za) :=
 match draw with
 |false=>J2 C F ops ops fr h
 |true=>ZgP (C.dyn f id) (X0 C F (C.dyn f id) (Zle h.length ops) ops 0 ops fr (h++List.replicate (J3 ops) .hole))
def Xx(C:Cfg)(F:Tk→Res):Tk→Res
 |.call f args h=>match C.prim f args with
  |some v=>(match h with
   |[]=>some (v,[])
   |_=>none)
  |none=>match C.primH f args h with
   |some r=>some r
   |none=>if C.good f then enter F f args h (C.ownA f) C.P.funcs[f]? else none
 |.run f k [] fr h=>Zfq C f k fr h
 |.run f k (.blk id n::ks) fr h=>ZaW F f k ks n fr h (C.out f id)
 |.run f k (.pst l c::ks) fr h=>F (.run f k ks (Za4 k c (restr fr l) h).1 (Za4 k c (restr fr l) h).2)
 |.run f k (.lp c none n::ks) fr h=>F (.run f k (.code c::.lp c none n::ks) fr h)
 |.run f k (.lp c (some live) n::ks) fr h=>ZbN F f k ks c live n fr h
 |.run f k (.code c::ks) fr h=>match c with
  |.skip=>F (.run f k ks fr h)
  |.seq a b=>F (.run f k (.code a::.code b::ks) fr h)
  |.region id ops draw=>ZdL F f k (ZcE id ks (C.post f)) (ZbV C F f id ops.toList draw fr h)
  |.cond c a b=>ZcD F f k ks a b fr h (ev fr c)
  |.block id c=>Zdl C F f k ks id fr h c (C.live f id)
  |.loop c=>F (.run f k (.code c::.lp c none 0::ks) fr h)
  |.exit id=>Zkg F f k fr h (C.out f id) (unwind id ks)
  |.ret=>Zfq C f k fr h
  |_=>none
def runN(C:Cfg):Nat→Tk→Res
 |0,_=>none
 |n+1,t=>Xx C (runN C n) t
def ZDl:List Oper→Option (Nat×FuncId×Array Operand)
 |[o1,o2]=>match o1.dst,o1.op,o1.guard,o2.dst,o2.op,o2.guard with
  |some s,.makeFunc (.func g) first caps,none,none,.defer c,none=>(match c.callee with
   |.value (.tmp s')=>if s=s'∧first=#[]∧c.args=#[]then some (s,g,caps)else none
   |_=>none)
  |_,_,_,_,_,_=>none
 |_=>none
def closed(draw:Bool)(ops:List Oper):Option (Nat×FuncId×Array Operand):=match draw with
 |false=>ZDl ops
 |true=>none
section
variable{Bs:World→Prop}
def Blk.open_:Blk→Nat→Prop
 |.cells _,_=>True
 |.rows z rs wr,o=>wr=true∨z*rs.length≤o
 |.hole,_=>False
 |.map _,_=>True
structure Mp(Bs:World→Prop) where
 map:Nat→Option Nat
 out:Nat→Nat→Prop
 still:Nat→Prop
instance:CoeFun (Mp Bs) (fun _=>Nat→Option Nat):=⟨fun μ=>μ.map⟩
def Mut(μ:Mp Bs)(h:Za)(b o:Nat):Prop:=μ.out b o∨∃l k,h[l]?=some k∧μ l=some b∧k.open_ o
mutual
/-- A value that hangs on memory which nothing writes. -/
def PRep(M:Nat→Nat→Prop)(w:World):AV→Value→Prop
 |.int k n,v=>v=.int k n
 |.bool b,v=>v=.bool b
 |.str s,v=>v=.string ⟨s.toArray⟩
 |.nilp,v=>v=.pointer none
 |.nilf,v=>v=.nilFunc
 |.nili,v=>v=.nilIface
 |.emp b,v=>∃base cap,v=.slice base 0 cap∧base.isNone=b
 |.nilm,v=>v=.map none
 |.nils,v=>v=.slice none 0 0
 |.rows rs,v=>∃base cap,v=.slice base rs.length cap∧rs.length≤cap∧(rs=[]∨∃b o z,base=some ⟨b,o,none⟩∧PRows M w z b rs o)
 |.lit rs,v=>∃base,v=.slice base rs.length rs.length∧(rs=[]∨∃b o z,base=some ⟨b,o,none⟩∧PRows M w z b rs o)
 |.rptr row o,v=>∃b p,v=.pointer (some ⟨b,p+o,none⟩)∧PMem M w b row p
 |.agg cs,v=>∃vs:List Value,v=.agg vs.toArray∧PRepL M w cs vs
 |.tup cs,v=>∃vs:List Value,v=.tuple vs.toArray∧PRepL M w cs vs
 |.fn f cs,v=>∃vs:List Value,v=.func (.func f) #[] vs.toArray∧PRepL M w cs vs
 |.bnd f cs,v=>∃vs:List Value,v=.func (.func f) vs.toArray #[]∧PRepL M w cs vs
 |.iface t a,v=>∃x,v=.iface t x∧PRep M w a x
 |.ptr _ _,_| .own _ _,_| .optr _ _ _ _,_| .mp _,_| .tptr _ _ _,_| .town _ _ _,_| .vw _ _ _ _,_=>False
 |.any,_=>True
def PRepL(M:Nat→Nat→Prop)(w:World):List AV→List Value→Prop
 |[],vs=>vs=[]
 |a::r,vs=>∃v vr,vs=v::vr∧PRep M w a v∧PRepL M w r vr
def PMem(M:Nat→Nat→Prop)(w:World)(b:Nat):List AV→Nat→Prop
 |[],_=>True
 |a::r,o=>(∃v,w.cell? ⟨b,o,none⟩=some v∧¬M b o∧PRep M w a v)∧PMem M w b r (o+1)
def PRows(M:Nat→Nat→Prop)(w:World)(z b:Nat):List (List AV)→Nat→Prop
 |[],_=>True
 |row::r,o=>row.length=z∧singles row=true∧PMem M w b row o∧PRows M w z b r (o+z)
end
def Zcj(M:Nat→Nat→Prop)(w:World)(M':Nat→Nat→Prop)(w':World):Prop :=
 ∀b o v,w.cell? ⟨b,o,none⟩=some v→¬M b o→w'.cell? ⟨b,o,none⟩=some v∧¬M' b o
end
section
variable{Bs:World→Prop}
variable{M M':Nat→Nat→Prop}{w w':World}
mutual
theorem PRep.keep(d:Zcj M w M' w'):∀(a:AV) (v:Value),PRep M w a v→PRep M' w' a v
 |.int _ _,_,h| .bool _,_,h| .str _,_,h| .nilp,_,h| .nilf,_,h| .nili,_,h| .emp _,_,h| .nilm,_,h| .nils,_,h=>h
 |.rows rs,_,h=>by
  obtain⟨base,cap,c,j,h⟩:=h;refine⟨base,cap,c,j,?_⟩;rcases h with h|⟨b,o,z,g,h⟩
  ·exact .inl h
  exact .inr ⟨b,o,z,g,PRows.keep d z b rs o h⟩
 |.lit rs,_,h=>by
  obtain⟨base,c,h⟩:=h;refine⟨base,c,?_⟩;rcases h with h|⟨b,o,z,g,h⟩
  ·exact .inl h
  exact .inr ⟨b,o,z,g,PRows.keep d z b rs o h⟩
 |.rptr row _,_,h=>by obtain⟨b,p,c,h⟩:=h;exact⟨b,p,c,PMem.keep d b row p h⟩
 |.agg cs,_,h=>by obtain⟨vs,c,h⟩:=h;exact⟨vs,c,PRepL.keep d cs vs h⟩
 |.tup cs,_,h=>by obtain⟨vs,c,h⟩:=h;exact⟨vs,c,PRepL.keep d cs vs h⟩
 |.fn _ cs,_,h=>by obtain⟨vs,c,h⟩:=h;exact⟨vs,c,PRepL.keep d cs vs h⟩
 |.bnd _ cs,_,h=>by obtain⟨vs,c,h⟩:=h;exact⟨vs,c,PRepL.keep d cs vs h⟩
 |.iface _ a,_,h=>by obtain⟨x,c,h⟩:=h;exact⟨x,c,PRep.keep d a x h⟩
 |.ptr _ _,_,h| .own _ _,_,h| .optr _ _ _ _,_,h| .mp _,_,h| .tptr _ _ _,_,h| .town _ _ _,_,h| .vw _ _ _ _,_,h| .any,_,h=>h
theorem PRepL.keep(d:Zcj M w M' w'):∀(c:List AV) (vs:List Value),PRepL M w c vs→PRepL M' w' c vs
 |[],_,h=>h
 |a::r,_,h=>by obtain⟨v,g,j,p,h2⟩:=h;exact⟨v,g,j,PRep.keep d a v p,PRepL.keep d r g h2⟩
theorem PMem.keep(c:Zcj M w M' w')(b:Nat):∀(row:List AV) (o:Nat),PMem M w b row o→PMem M' w' b row o
 |[],_,h=>h
 |a::r,o,h=>by obtain⟨⟨v,j,p,q⟩,h2⟩:=h;obtain⟨d,g⟩:=c b o v j p;exact⟨⟨v,d,g,PRep.keep c a v q⟩,PMem.keep c b r (o+1) h2⟩
theorem PRows.keep(c:Zcj M w M' w')(z b:Nat):∀(rs:List (List AV)) (o:Nat),PRows M w z b rs o→PRows M' w' z b rs o
 |[],_,h=>h
 |row::r,o,h=>by obtain⟨d,hs,g,h2⟩:=h;exact⟨d,hs,PMem.keep c b row o g,PRows.keep c z b r (o+z) h2⟩
end
end
section
variable{Bs:World→Prop}
def SomeRow(w:World)(b:Nat)(vs:Array Value)(T:TypeId):Prop:=∃fz,w.heap[b]?=some (.cells vs T fz)
def RowAt(w:World)(b:Nat)(vs:Array Value)(T:TypeId)(wr:Bool)(m:Nat):Prop:=∃fz:Nat×Nat,w.heap[b]?=some (.cells vs T fz)∧(fz=(0,0)∨(wr=false∧fz.2≤m))
theorem SomeRow.eq{w:World}(h:SomeRow w b vs T)(e:w'.heap[b]?=w.heap[b]?):SomeRow w' b vs T:=by obtain⟨c,h⟩:=h;exact⟨c,e.trans h⟩
theorem RowAt.eq{w:World}(h:RowAt w b vs T wr m)(e:w'.heap[b]?=w.heap[b]?):RowAt w' b vs T wr m:=by obtain⟨c,h,d⟩:=h;exact⟨c,e.trans h,d⟩
theorem SomeRow.lt{w:World}(h:SomeRow w b vs T):b<w.heap.size:=by obtain⟨c,h⟩:=h;exact(Uv.1 h).1
theorem RowAt.lt{w:World}(h:RowAt w b vs T wr m):b<w.heap.size:=by obtain⟨c,h,_⟩:=h;exact(Uv.1 h).1
theorem RowAt.free{w:World}(h:w.heap[b]?=some (.cells vs T (0,0))):RowAt w b vs T wr m:=⟨_,h,.inl rfl⟩
def OwnRep(μ:Mp Bs)(h:Za)(w:World)(l n:Nat)(v:Value):Prop :=
 ∃z rs wr base cap,h[l]?=some (.rows z rs wr)∧n≤rs.length∧v=.slice base n cap∧(n=rs.length→n≤cap∧(n=0→cap=0) ∧
  (cap=0∨∃b vs T,base=some ⟨b,0,none⟩∧μ l=some b∧SomeRow w b vs T∧cap*z≤vs.size))
def OptrRep(μ:Mp Bs)(h:Za)(l n i o:Nat)(v:Value):Prop :=
 ∃z rs wr b,h[l]?=some (.rows z rs wr)∧n≤rs.length∧v=.pointer (some ⟨b,i*z+o,none⟩)∧(n=rs.length→μ l=some b)
def MpRep(μ:Mp Bs)(h:Za)(l:Nat)(v:Value):Prop :=
 ∃es b,h[l]?=some (.map es)∧μ l=some b∧v=.map (some b)
def PtrRep(μ:Mp Bs)(h:Za)(l o:Nat)(v:Value):Prop :=
 ∃cs b,h[l]?=some (.cells cs)∧μ l=some b∧v=.pointer (some ⟨b,o,none⟩)
def TptrRep(μ:Mp Bs)(h:Za)(w:World)(t l o:Nat)(v:Value):Prop :=
 ∃cs b,h[l]?=some (.cells cs)∧μ l=some b∧v=.pointer (some ⟨b,o,none⟩)∧∃vs,SomeRow w b vs t
def TownRep(μ:Mp Bs)(h:Za)(w:World)(t l n:Nat)(v:Value):Prop :=
 ∃z rs wr base cap,h[l]?=some (.rows z rs wr)∧n≤rs.length∧v=.slice base n cap∧(n=rs.length→n≤cap∧(n=0→cap=0) ∧
  ((base=none∧cap=0)∨∃b vs,base=some ⟨b,0,none⟩∧μ l=some b∧SomeRow w b vs t∧cap*z≤vs.size))
def VwRep(μ:Mp Bs)(h:Za)(w:World)(l n a m:Nat)(v:Value):Prop :=
 ∃z rs wr base cap,h[l]?=some (.rows z rs wr)∧n≤rs.length∧v=.slice base m cap∧(n=rs.length→a+m≤n∧n≤a+cap ∧
  (a<n→∃b vs T,base=some ⟨b,a*z,none⟩∧μ l=some b∧SomeRow w b vs T∧(a+cap)*z≤vs.size))
theorem TownRep.own{μ:Mp Bs}{h:Za}{w:World}{t:Nat}(r:TownRep μ h w t l n v):OwnRep μ h w l n v:=by obtain⟨z,rs,wr,base,cap,c,d,hs,g⟩:=r;refine⟨z,rs,wr,base,cap,c,d,hs,fun e=>?_⟩;obtain⟨j,h2,h3⟩:=g e;exact⟨j,h2,h3.imp (fun q=>q.2) fun⟨b,vs,q⟩=>⟨b,vs,t,q⟩⟩
mutual
def Rep(μ:Mp Bs)(h:Za)(w:World):AV→Value→Prop
 |.agg cs,v=>∃vs:List Value,v=.agg vs.toArray∧RepL μ h w cs vs
 |.tup cs,v=>∃vs:List Value,v=.tuple vs.toArray∧RepL μ h w cs vs
 |.fn f cs,v=>∃vs:List Value,v=.func (.func f) #[] vs.toArray∧RepL μ h w cs vs
 |.bnd f cs,v=>∃vs:List Value,v=.func (.func f) vs.toArray #[]∧RepL μ h w cs vs
 |.iface t a,v=>∃x,v=.iface t x∧Rep μ h w a x
 |.ptr l o,v=>PtrRep μ h l o v
 |.own l n,v=>OwnRep μ h w l n v
 |.optr l n i o,v=>OptrRep μ h l n i o v
 |.mp l,v=>MpRep μ h l v
 |.tptr t l o,v=>TptrRep μ h w t l o v
 |.town t l n,v=>TownRep μ h w t l n v
 |.vw l n a m,v=>VwRep μ h w l n a m v
 |a,v=>PRep (Mut μ h) w a v
def RepL(μ:Mp Bs)(h:Za)(w:World):List AV→List Value→Prop
 |[],vs=>vs=[]
 |a::r,vs=>∃v vr,vs=v::vr∧Rep μ h w a v∧RepL μ h w r vr
end
structure Ext(μ:Mp Bs)(h:Za)(w:World)(μ':Mp Bs)(h':Za)(w':World):Prop where
 out:μ'.out=μ.out
 still:μ'.still=μ.still
 os:w'.os=w.os
 tape:w'.tape=w.tape
 output:w'.output=w.output
 size:w.heap.size≤w'.heap.size
 len:h.length≤h'.length
 keep:Zcj (Mut μ h) w (Mut μ' h') w'
 outside:∀b,b<w.heap.size→(∀l,l<h.length→μ l≠some b)→w'.heap[b]?=w.heap[b]?∧(∀l,l<h'.length→μ' l≠some b)
 cells:∀l cs,h[l]?=some (.cells cs)→(∃cs',h'[l]?=some (.cells cs'))∧μ' l=μ l
 rows:∀l z rs wr,h[l]?=some (.rows z rs wr)→∃rs' wr',h'[l]?=some (.rows z rs' wr')∧rs.length≤rs'.length∧(rs'.length=rs.length→μ' l=μ l)
 maps:∀l es,h[l]?=some (.map es)→(∃es',h'[l]?=some (.map es'))∧μ' l=μ l
 sizes:∀(b:Nat) (vs:Array Value) (T:TypeId),SomeRow w b vs T→∃vs':Array Value,SomeRow w' b vs' T∧vs'.size=vs.size
end
section
variable{Bs:World→Prop}
variable{μ μ' μ'':Mp Bs}{h h' h'':Za}{w w' w'':World}
theorem Ext.refl(μ:Mp Bs)(h:Za)(w:World):Ext μ h w μ h w where
 out:=rfl
 still:=rfl
 os:=rfl
 tape:=rfl
 output:=rfl
 size:=Vw _
 len:=Vw _
 keep:=fun _ _ _ d g=>⟨d,g⟩
 outside:=fun _ _ j=>⟨rfl,j⟩
 cells:=fun _ cs c=>⟨⟨cs,c⟩,rfl⟩
 rows:=fun _ _ rs wr c=>⟨rs,wr,c,Vw _,fun _=>rfl⟩
 maps:=fun _ es c=>⟨⟨es,c⟩,rfl⟩
 sizes:=fun _ vs _ p=>⟨vs,p,rfl⟩
theorem Ext.trans(a:Ext μ h w μ' h' w')(b:Ext μ' h' w' μ'' h'' w''):Ext μ h w μ'' h'' w'' where
 out:=b.out.trans a.out
 still:=b.still.trans a.still
 os:=b.os.trans a.os
 tape:=b.tape.trans a.tape
 output:=b.output.trans a.output
 size:=Uu a.size b.size
 len:=Uu a.len b.len
 keep:=fun x o v F G=>by obtain⟨c,h2⟩:=a.keep x o v F G;exact b.keep x o v c h2
 outside:=fun x E H=>by obtain⟨c,h2⟩:=a.outside x E H;obtain⟨h3,d⟩:=b.outside x (Ur E a.size) h2;exact⟨h3.trans c,d⟩
 cells:=fun l cs p=>by obtain⟨⟨A,c⟩,h2⟩:=a.cells l cs p;obtain⟨h3,d⟩:=b.cells l A c;exact⟨h3,d.trans h2⟩
 maps:=fun l es p=>by obtain⟨⟨B,c⟩,h2⟩:=a.maps l es p;obtain⟨h3,d⟩:=b.maps l B c;exact⟨h3,d.trans h2⟩
 rows:=fun l z rs wr p=>by
  obtain⟨j,C,c,h2,h3⟩:=a.rows l z rs wr p;obtain⟨g,q,d,J,L⟩:=b.rows l z j C c;refine⟨g,q,d,Uu h2 J,fun e=>?_⟩;have N:j.length=rs.length:=by omega
  have O:g.length=j.length:=by omega
  exact(L O).trans (h3 N)
 sizes:=fun x vs T Q=>by obtain⟨D,c,h2⟩:=a.sizes x vs T Q;obtain⟨s,h3,d⟩:=b.sizes x D T c;exact⟨s,h3,d.trans h2⟩
theorem OwnRep.ext(e:Ext μ h w μ' h' w')(r:OwnRep μ h w l n v):OwnRep μ' h' w' l n v:=by
 obtain⟨z,rs,wr,base,cap,s,J,hs,A⟩:=r;obtain⟨c,d,g,B,C⟩:=e.rows l z rs wr s;refine⟨z,c,d,base,cap,g,by omega,hs,fun D=>?_⟩;have E:c.length=rs.length:=by omega
 obtain⟨h2,h3,j⟩:=A (by omega);refine⟨h2,h3,?_⟩;rcases j with j|⟨b,vs,T,F,G,H,L⟩
 ·exact .inl j
 obtain⟨p,q,hs⟩:=e.sizes b vs T H;exact .inr ⟨b,p,T,F,(C E).trans G,q,by omega⟩
theorem TptrRep.ext(e:Ext μ h w μ' h' w'){t:Nat}(r:TptrRep μ h w t l o v):TptrRep μ' h' w' t l o v:=by obtain⟨cs,b,p,q,s,vs,hs⟩:=r;obtain⟨⟨c,d⟩,A⟩:=e.cells l cs p;obtain⟨g,j,_⟩:=e.sizes b vs t hs;exact⟨c,b,d,A.trans q,s,g,j⟩
theorem TownRep.ext(e:Ext μ h w μ' h' w'){t:Nat}(r:TownRep μ h w t l n v):TownRep μ' h' w' t l n v:=by
 obtain⟨z,rs,wr,base,cap,s,J,hs,A⟩:=r;obtain⟨c,d,g,B,C⟩:=e.rows l z rs wr s;refine⟨z,c,d,base,cap,g,by omega,hs,fun D=>?_⟩;have E:c.length=rs.length:=by omega
 obtain⟨h2,h3,j⟩:=A (by omega);refine⟨h2,h3,?_⟩;rcases j with j|⟨b,vs,F,G,H,L⟩
 ·exact .inl j
 obtain⟨p,q,hs⟩:=e.sizes b vs t H;exact .inr ⟨b,p,F,(C E).trans G,q,by omega⟩
theorem VwRep.ext(e:Ext μ h w μ' h' w'){a:Nat}(r:VwRep μ h w l n a m v):VwRep μ' h' w' l n a m v:=by
 obtain⟨z,rs,wr,base,cap,q,L,hs,s⟩:=r;obtain⟨c,d,g,A,B⟩:=e.rows l z rs wr q;refine⟨z,c,d,base,cap,g,by omega,hs,fun C=>?_⟩;have D:c.length=rs.length:=by omega
 obtain⟨h2,h3,E⟩:=s (by omega);refine⟨h2,h3,fun F=>?_⟩;obtain⟨b,vs,T,G,H,J,N⟩:=E F;obtain⟨j,p,hs⟩:=e.sizes b vs T J;exact⟨b,j,T,G,(B D).trans H,p,by omega⟩
theorem OptrRep.ext(e:Ext μ h w μ' h' w')(r:OptrRep μ h l n i o v):OptrRep μ' h' l n i o v:=by obtain⟨z,rs,wr,b,j,B,hs,p⟩:=r;obtain⟨c,d,g,q,s⟩:=e.rows l z rs wr j;exact⟨z,c,d,b,g,by omega,hs,fun A=>(s (by omega)).trans (p (by omega))⟩
theorem MpRep.ext(e:Ext μ h w μ' h' w')(r:MpRep μ h l v):MpRep μ' h' l v:=by obtain⟨es,b,g,j,p⟩:=r;obtain⟨⟨c,d⟩,q⟩:=e.maps l es g;exact⟨c,b,d,q.trans j,p⟩
theorem PtrRep.ext(e:Ext μ h w μ' h' w')(r:PtrRep μ h l o v):PtrRep μ' h' l o v:=by obtain⟨cs,b,g,j,p⟩:=r;obtain⟨⟨c,d⟩,q⟩:=e.cells l cs g;exact⟨c,b,d,q.trans j,p⟩
mutual
theorem Rep.ext(e:Ext μ h w μ' h' w'):∀(a:AV) (v:Value),Rep μ h w a v→Rep μ' h' w' a v
 |.agg cs,_,r=>by obtain⟨vs,c,r⟩:=r;exact⟨vs,c,RepL.ext e cs vs r⟩
 |.tup cs,_,r=>by obtain⟨vs,c,r⟩:=r;exact⟨vs,c,RepL.ext e cs vs r⟩
 |.fn _ cs,_,r=>by obtain⟨vs,c,r⟩:=r;exact⟨vs,c,RepL.ext e cs vs r⟩
 |.bnd _ cs,_,r=>by obtain⟨vs,c,r⟩:=r;exact⟨vs,c,RepL.ext e cs vs r⟩
 |.iface _ a,_,r=>by obtain⟨x,c,r⟩:=r;exact⟨x,c,Rep.ext e a x r⟩
 |.ptr _ _,_,r=>PtrRep.ext e r
 |.own _ _,_,r=>OwnRep.ext e r
 |.optr _ _ _ _,_,r=>OptrRep.ext e r
 |.mp _,_,r=>MpRep.ext e r
 |.tptr _ _ _,_,r=>TptrRep.ext e r
 |.town _ _ _,_,r=>TownRep.ext e r
 |.vw _ _ _ _,_,r=>VwRep.ext e r
 |.int _ _,_,r| .bool _,_,r| .str _,_,r| .nilp,_,r| .nilf,_,r| .nili,_,r| .emp _,_,r| .nilm,_,r| .nils,_,r=>r
 |.rows rs,v,r=>PRep.keep e.keep (.rows rs) v r
 |.lit rs,v,r=>PRep.keep e.keep (.lit rs) v r
 |.rptr row o,v,r=>PRep.keep e.keep (.rptr row o) v r
 |.any,_,r=>r
theorem RepL.ext(e:Ext μ h w μ' h' w'):∀(c:List AV) (vs:List Value),RepL μ h w c vs→RepL μ' h' w' c vs
 |[],_,r=>r
 |a::r,_,x=>by obtain⟨v,d,g,j,h2⟩:=x;exact⟨v,d,g,Rep.ext e a v j,RepL.ext e r d h2⟩
end
mutual
theorem Rep.pure:∀(a:AV) (v:Value),PRep (Mut μ h) w a v→Rep μ h w a v
 |.agg cs,_,r=>by obtain⟨vs,c,r⟩:=r;exact⟨vs,c,RepL.pure cs vs r⟩
 |.tup cs,_,r=>by obtain⟨vs,c,r⟩:=r;exact⟨vs,c,RepL.pure cs vs r⟩
 |.fn _ cs,_,r=>by obtain⟨vs,c,r⟩:=r;exact⟨vs,c,RepL.pure cs vs r⟩
 |.bnd _ cs,_,r=>by obtain⟨vs,c,r⟩:=r;exact⟨vs,c,RepL.pure cs vs r⟩
 |.iface _ a,_,r=>by obtain⟨x,c,r⟩:=r;exact⟨x,c,Rep.pure a x r⟩
 |.ptr _ _,_,r| .own _ _,_,r| .optr _ _ _ _,_,r| .mp _,_,r| .tptr _ _ _,_,r| .town _ _ _,_,r| .vw _ _ _ _,_,r=>r.elim
 |.int _ _,_,r| .bool _,_,r| .str _,_,r| .nilp,_,r| .nilf,_,r| .nili,_,r| .emp _,_,r| .nilm,_,r| .nils,_,r| .rows _,_,r| .lit _,_,r| .rptr _ _,_,r| .any,_,r=>r
theorem RepL.pure:∀(c:List AV) (vs:List Value),PRepL (Mut μ h) w c vs→RepL μ h w c vs
 |[],_,r=>r
 |a::r,_,x=>by obtain⟨v,d,g,j,h2⟩:=x;exact⟨v,d,g,Rep.pure a v j,RepL.pure r d h2⟩
end
def RowsIn(M:Nat→Nat→Prop)(w:World)(z:Nat)(rs:List (List AV))(vs:Array Value):Prop :=
 ∀i row,rs[i]?=some row→row.length=z∧singles row=true∧∀c a,row[c]?=some a→∃v,vs[i*z+c]?=some v∧PRep M w a v
def RowsN(μ:Mp Bs)(h:Za)(w:World)(z:Nat)(rs:List (List AV))(vs:Array Value):Prop :=
 ∀i row,rs[i]?=some row→row.length=z∧singles row=true∧∀c a,row[c]?=some a→∃v,vs[i*z+c]?=some v∧Rep μ h w a v
mutual
theorem Rep.none:∀(a:AV) (v:Value),locs a=[]→Rep μ h w a v→PRep (Mut μ h) w a v
 |.agg cs,_,c,r=>by obtain⟨vs,d,r⟩:=r;exact⟨vs,d,RepL.none cs vs c r⟩
 |.tup cs,_,c,r=>by obtain⟨vs,d,r⟩:=r;exact⟨vs,d,RepL.none cs vs c r⟩
 |.fn _ cs,_,c,r=>by obtain⟨vs,d,r⟩:=r;exact⟨vs,d,RepL.none cs vs c r⟩
 |.bnd _ cs,_,c,r=>by obtain⟨vs,d,r⟩:=r;exact⟨vs,d,RepL.none cs vs c r⟩
 |.iface _ a,_,c,r=>by obtain⟨x,d,r⟩:=r;exact⟨x,d,Rep.none a x c r⟩
 |.ptr _ _,_,c,_| .own _ _,_,c,_| .optr _ _ _ _,_,c,_| .mp _,_,c,_| .tptr _ _ _,_,c,_| .town _ _ _,_,c,_| .vw _ _ _ _,_,c,_=>by simp[locs]at c
 |.int _ _,_,_,r| .bool _,_,_,r| .str _,_,_,r| .nilp,_,_,r| .nilf,_,_,r| .nili,_,_,r| .emp _,_,_,r| .nilm,_,_,r| .nils,_,_,r| .rows _,_,_,r| .lit _,_,_,r| .rptr _ _,_,_,r| .any,_,_,r=>r
theorem RepL.none:∀(c:List AV) (vs:List Value),Zg c=[]→RepL μ h w c vs→PRepL (Mut μ h) w c vs
 |[],_,_,r=>r
 |a::r,_,d,x=>by obtain⟨v,g,j,p,h2⟩:=x;have d:=Uy.1 (show locs a++Zg r=[]from d);exact⟨v,g,j,Rep.none a v d.1 p,RepL.none r g d.2 h2⟩
end
theorem ZbB:∀{l:List AV} {a:AV},Zg l=[]→a∈l→locs a=[]
 |b::l,a,c,d=>by
  have c:=Uy.1 (show locs b++Zg l=[]from c);rcases Vn.1 d with rfl|d
  ·exact c.1
  exact ZbB c.2 d
theorem Zdm:∀{rs:List (List AV)} {row:List AV},Zz rs=[]→row∈rs→Zg row=[]
 |b::l,a,c,d=>by
  have c:=Uy.1 (show Zg b++Zz l=[]from c);rcases Vn.1 d with rfl|d
  ·exact c.1
  exact Zdm c.2 d
theorem RowsN.none{z:Nat}{rs:List (List AV)}{vs:Array Value}(j:Zz rs=[])(r:RowsN μ h w z rs vs):RowsIn (Mut μ h) w z rs vs:=fun i row d=>by obtain⟨p,h2,h3⟩:=r i row d;refine⟨p,h2,fun c a g=>?_⟩;obtain⟨v,q,s⟩:=h3 c a g;exact⟨v,q,Rep.none a v (ZbB (Zdm j (Ve d)) (Ve g)) s⟩
theorem RowsIn.some(r:RowsIn (Mut μ h) w z rs vs):RowsN μ h w z rs vs:=fun i row d=>by obtain⟨g,h2,h3⟩:=r i row d;refine⟨g,h2,fun c a j=>?_⟩;obtain⟨v,p,q⟩:=h3 c a j;exact⟨v,p,Rep.pure a v q⟩
def EntRep(M:Nat→Nat→Prop)(w:World):List (AV×AV)→List MapEntry→Prop
 |[],ms=>ms=[]
 |(k,v)::r,ms=>∃m mr,ms=m::mr∧PRep M w k m.key∧PRep M w v m.val∧EntRep M w r mr
theorem EntRep.keep{M M':Nat→Nat→Prop}(c:Zcj M w M' w'):∀(es:List (AV×AV)) (ms:List MapEntry),EntRep M w es ms→EntRep M' w' es ms
 |[],_,h=>h
 |(k,v)::r,_,h=>by obtain⟨m,d,g,j,h2,h3⟩:=h;exact⟨m,d,g,PRep.keep c k _ j,PRep.keep c v _ h2,EntRep.keep c r d h3⟩
def ZtQ(es:List (AV×AV)):Prop:=(es.map (·.1)).Pairwise fun a b=>QY a b=true
def EntSet(M:Nat→Nat→Prop)(w:World)(es:List (AV×AV))(ms:List MapEntry):Prop:=ZtQ es∧∃ms':List MapEntry,ms'.Perm ms∧EntRep M w es ms'
theorem EntSet.keep{M M':Nat→Nat→Prop}(d:Zcj M w M' w')(es:List (AV×AV))(ms:List MapEntry)(h:EntSet M w es ms):EntSet M' w' es ms:=by obtain⟨g,c,h2,h3⟩:=h;exact⟨g,c,h2,h3.keep d⟩
theorem EntSet.empty:EntSet M w [] []:=⟨List.Pairwise.nil,[],UU _,rfl⟩
def Blank(rs:List (List AV)):Prop:=∀row∈rs,row=[]
theorem Blank.nil:Blank []:=fun _ h=>by simp at h
theorem Blank.locs:∀{rs:List (List AV)},Blank rs→Zz rs=[]
 |[],_=>rfl
 |r::rs,b=>by simp only[Zz];rw[b r (by simp),Blank.locs (rs:=rs) fun row h=>b row (VD _ h)];rfl
theorem Blank.at(b:Blank rs){row:List AV}(h:rs[i]?=some row):row=[]:=b row (Ve h)
def Zed(μ:Mp Bs)(h:Za)(w:World)(l:Nat):Blk→Prop
 |.cells cs=>∃b vs T,μ l=some b∧w.heap[b]?=some (.cells (List.toArray vs) T (0,0))∧singles cs=true∧RepL μ h w cs vs
 |.rows z rs wr=>(Blank rs∧μ l=none)∨∃b vs T,μ l=some b∧RowAt w b vs T wr (rs.length*z)∧rs.length*z≤vs.size∧RowsN μ h w z rs vs
 |.hole=>μ l=none
 |.map es=>∃b ms clock,μ l=some b∧w.heap[b]?=some (.map (List.toArray ms) clock)∧EntSet (Mut μ h) w es ms
structure Rel(μ:Mp Bs)(h:Za)(w:World):Prop where
 inj:∀l l' b,l<h.length→l'<h.length→μ l=some b→μ l'=some b→l=l'
 blk:∀l k,h[l]?=some k→Zed μ h w l k
 apart:∀l b o,l<h.length→μ l=some b→¬μ.out b o
 old:∀b o,μ.out b o→b<w.heap.size
 still:∀b,μ.still b→b<w.heap.size∧∀l,l<h.length→μ l≠some b
 base:∀w',(∀b,μ.still b→w'.heap[b]?=w.heap[b]?)→Bs w'
theorem Rel.carry(g:Rel μ h w)(e:Ext μ h w μ' h' w'):(∀b,μ'.still b→b<w'.heap.size∧∀l,l<h'.length→μ' l≠some b)∧∀w2:World,(∀b,μ'.still b→w2.heap[b]?=w'.heap[b]?)→Bs w2:=by
 rw[e.still];refine⟨fun b c=>?_,fun w2 h2=>g.base w2 fun b c=>?_⟩
 ·obtain⟨d,h2⟩:=g.still b c;exact⟨Ur d e.size,(e.outside b d h2).2⟩
 obtain⟨d,h3⟩:=g.still b c;rw[h2 b c,(e.outside b d h3).1]
def FrRel(μ:Mp Bs)(h:Za)(w:World)(fr:Fr)(tmps:Array Value):Prop:=∀i,Rep μ h w (get fr i) (tmps.getD i undef)
end
section
variable{Bs:World→Prop}
variable{P:Program}{μ:Mp Bs}{h:Za}{w:World}
theorem W6(b o j:Nat):(⟨b,o,none⟩:Addr).add j=⟨b,o+j,none⟩:=by unfold Addr.add;split<;>simp_all
theorem Zo5(e:sh P t=some (.agg n)):(isAgg t).run P w=.ok true w∧(sizeOf t).run P w=.ok n w:=by
 unfold sh at e;split at e
 ·rename_i fs i c hi;simp only[Va,Sh.agg.injEq]at e;simp[isAgg,sizeOf,typeInfo,underlying,c,hi,e]
 ·rename_i d e' i c hi;simp only[Va,Sh.agg.injEq]at e;simp[isAgg,sizeOf,typeInfo,underlying,c,hi,e]
 ·simp at e
 simp at e
theorem ZvS(e:sh P t=some .one):(isAgg t).run P w=.ok false w:=by
 unfold sh at e;split at e
 ·simp at e
 ·simp at e
 ·rename_i d i c h2 g hi;cases d<;>simp_all[isAgg,underlying]
 simp at e
def ZbX(μ:Mp Bs)(h:Za)(w:World)(f:Nat→Option Value)(cs:List AV):Prop :=
 ∀i a,cs[i]?=some a→∃v,f i=some v∧Rep μ h w a v
theorem RepL.at:∀(cs:List AV) (vs:List Value),RepL μ h w cs vs→vs.length=cs.length∧ZbX μ h w (fun i=>vs[i]?) cs
 |[],vs,r=>by have:vs=[]:=r;subst this;exact⟨rfl,fun i a e=>by simp at e⟩
 |c::cs,vs,r=>by
  obtain⟨v,d,rfl,g,h2⟩:=r;obtain⟨h3,j⟩:=RepL.at cs d h2;refine⟨by simp[h3],fun i a e=>?_⟩;cases i with
  |zero =>
   simp only[Vt,Va]at e;subst e;exact⟨v,by simp,g⟩
  |succ i =>
   simp only[VJ]at e ⊢;exact j i a e
theorem RepL.of_at:∀(cs:List AV) (vs:List Value),vs.length=cs.length→ZbX μ h w (fun i=>vs[i]?) cs→RepL μ h w cs vs
 |[],vs,d,_=>VS.1 d
 |c::cs,vs,d,r=>by
  cases vs with
  |nil=>simp at d
  |cons v g =>
   obtain⟨v',e,j⟩:=r 0 c rfl;simp only[Vt,Va]at e;subst e;exact⟨v,g,rfl,j,RepL.of_at cs g (by simpa using d) fun i a e=>by simpa using r (i+1) a (by simpa using e)⟩
theorem PMem.at{M:Nat→Nat→Prop}{b:Nat}:∀(row:List AV) (p:Nat),PMem M w b row p→∀i a,row[i]?=some a→∃v,w.cell? ⟨b,p+i,none⟩=some v∧¬M b (p+i)∧PRep M w a v
 |[],_,_,i,a,e=>by simp at e
 |c::cs,p,r,i,a,e=>by
  obtain⟨⟨v,d,h2,h3⟩,g⟩:=r;cases i with
  |zero =>
   simp only[Vt,Va]at e;subst e;exact⟨v,d,h2,h3⟩
  |succ i =>
   simp only[VJ]at e;have:=PMem.at cs (p+1) g i a e
   rwa [show p+1+i=p+(i+1)from by omega]at this
theorem PMem.of_at{M:Nat→Nat→Prop}{b:Nat}:∀(row:List AV) (p:Nat),(∀i a,row[i]?=some a→∃v,w.cell? ⟨b,p+i,none⟩=some v∧¬M b (p+i)∧PRep M w a v)→PMem M w b row p
 |[],_,_=>trivial
 |c::cs,p,r=>by
  refine⟨by simpa using r 0 c rfl,PMem.of_at cs (p+1) fun i a e=>?_⟩;have:=r (i+1) a (by simpa using e)
  rwa [show p+(i+1)=p+1+i from by omega]at this
theorem PRows.at{M:Nat→Nat→Prop}{z b:Nat}:∀(rs:List (List AV)) (o:Nat),PRows M w z b rs o→∀i row,rs[i]?=some row→row.length=z∧singles row=true∧PMem M w b row (o+i*z)
 |[],_,_,i,row,e=>by simp at e
 |r::rs,o,x,i,row,e=>by
  obtain⟨c,hs,h2,h3⟩:=x;cases i with
  |zero =>
   simp only[Vt,Va]at e;subst e;exact⟨c,hs,by simpa using h2⟩
  |succ i =>
   simp only[VJ]at e;have:=PRows.at rs (o+z) h3 i row e
   rwa [show o+z+i*z=o+(i+1)*z from by rw[Un];omega]at this
theorem PRows.of_at{M:Nat→Nat→Prop}{z b:Nat}:∀(rs:List (List AV)) (o:Nat),(∀i row,rs[i]?=some row→row.length=z∧singles row=true∧PMem M w b row (o+i*z))→PRows M w z b rs o
 |[],_,_=>trivial
 |r::rs,o,x=>by
  have c:=x 0 r rfl;refine⟨c.1,c.2.1,by simpa using c.2.2,PRows.of_at rs (o+z) fun i row e=>?_⟩;have:=x (i+1) row (by simpa using e)
  rwa [show o+(i+1)*z=o+z+i*z from by rw[Un];omega]at this
theorem ZpG(f:Nat→Option Value)(o:Nat):∀n:Nat,(∀i,i<n→∃v,f (o+i)=some v)→∃vs:List Value,vs.length=n∧∀j v,vs[j]?=some v→f (o+j)=some v
 |0,_=>⟨[],rfl,fun j v e=>by simp at e⟩
 |n+1,g=>by
  obtain⟨vs,c,p⟩:=ZpG f o n fun i hi=>g i (by omega);obtain⟨u,q⟩:=g n (by omega);refine⟨vs++[u],by simp[c],fun j v e=>?_⟩;by_cases s:j<n
  ·rw[Vh (by omega)]at e;exact p j v e
  have d:j=n:=by have:=(Vb.1 e).1;simp[c]at this;omega
  subst d;rw[Vy (by omega)]at e;simp[c]at e;rw[←e];exact q
theorem ZhD{f:Nat→Option Value}(e:part (sh P t) cs o=some x)(d:ZbX μ h w f cs):
  (sh P t=some .one∧∃v,f o=some v∧Rep μ h w x v) ∨
  (∃vs:List Value,sh P t=some (.agg vs.length)∧(∀j v,vs[j]?=some v→f (o+j)=some v)∧Rep μ h w x (.agg vs.toArray)):=by
 unfold part at e;split at e
 ·rename_i hs;obtain⟨v,c,g⟩:=d o x e;exact .inl ⟨hs,v,c,g⟩
 ·rename_i n hs;split at e
  ·rename_i B;simp only[Va]at e;subst e;obtain⟨vs,A,c⟩:=ZpG f o n fun i hi=>by obtain⟨v,c,_⟩:=d (o+i) (cs[o+i]'(by omega)) (VB (by omega));exact⟨v,c⟩
   refine .inr ⟨vs,by rw[A];exact hs,c,vs,rfl,RepL.of_at _ _ (by simp[A];omega) fun i a p=>?_⟩;have hi:i<n:=by have:=(Vb.1 p).1;simp at this;omega
   rw[Us,Vr hi,Uc]at p;obtain⟨v,q,g⟩:=d (o+i) a p;have s:vs[i]?=some (vs[i]'(by omega)):=VB (by omega);have:=c i _ s;refine⟨vs[i]'(by omega),by simp,?_⟩;rw[q]at this;simp only[Va]at this;rw[←this];exact g
  simp at e
 simp at e
theorem Za7{p:Nat}(e:part (sh P t) cs o=some x)
  (g:ZbX μ h w (fun i=>w.cell? ⟨b,p+i,none⟩) cs):∃v,(loadVar t ⟨b,p+o,none⟩).run P w=.ok v w∧Rep μ h w x v:=by
 rcases ZhD e g with⟨hs,v,c,d⟩|⟨vs,hs,c,d⟩
 ·refine⟨v,?_,d⟩;simp only[loadVar,VQ,ZvS hs,VF];simp[c]
 obtain⟨q,h2⟩:=Zo5 (w:=w) hs;refine⟨_,?_,d⟩;have h3:=SU (P:=P) w ⟨b,p+o,none⟩ vs fun j v s=>by rw[W6,UL];exact c j v s
 simp[loadVar,q,h2,h3]
theorem Zgs{p:AV}(J:Rel μ h w)(e:ZgM P t p h=some x)(F:Rep μ h w p v):
  ∃u,(Instr.loadAt t v).run P w=.ok u w∧Rep μ h w x u:=by
 unfold ZgM at e;split at e
 ·rename_i row o;obtain⟨b,q,rfl,A⟩:=F;have B:ZbX μ h w (fun i=>w.cell? ⟨b,q+i,none⟩) row:=fun i a C=>by obtain⟨u,d,_,h3⟩:=PMem.at row q A i a C;exact⟨u,d,Rep.pure a u h3⟩
  obtain⟨u,d,h2⟩:=Za7 e B;exact⟨u,by simp[Instr.loadAt,Instr.sureAddr,d],h2⟩
 ·rename_i l o;split at e
  ·rename_i cs E;obtain⟨N,b,j,A,rfl⟩:=F;obtain⟨b',vs,T,g,G,_,H⟩:=J.blk l _ E;have:b'=b:=by rw[A]at g;simpa using g.symm
   subst this;have B:ZbX μ h w (fun i=>w.cell? ⟨b',0+i,none⟩) cs:=fun i a C=>by obtain⟨u,d,h2⟩:=(RepL.at cs vs H).2 i a C;exact⟨u,by simp only[World.cell?,G];simpa using d,h2⟩
   obtain⟨u,d,h2⟩:=Za7 e B;rw[VZ]at d;exact⟨u,by simp[Instr.loadAt,Instr.sureAddr,d],h2⟩
  simp at e
 ·rename_i l n i o;split at e
  ·rename_i z rs wr E;split at e
   ·rename_i O;split at e
    ·rename_i row D;obtain⟨z',Q,S,b,j,_,rfl,U⟩:=F;rw[E]at j;simp only[Va,Blk.rows.injEq]at j;obtain⟨rfl,rfl,rfl⟩:=j;have A:=U O.symm;rcases J.blk l _ E with⟨_,L⟩|⟨b',vs,T,g,⟨_,G,_⟩,_,s⟩
     ·rw[A]at L;simp at L
     have:b'=b:=by rw[A]at g;simpa using g.symm
     subst this;obtain⟨_,_,s⟩:=s i row D;have B:ZbX μ h w (fun c=>w.cell? ⟨b',i*z+c,none⟩) row:=fun c a C=>by obtain⟨u,d,h2⟩:=s c a C;exact⟨u,by simp only[World.cell?,G];simpa using d,h2⟩
     obtain⟨u,d,h2⟩:=Za7 e B;exact⟨u,by simp[Instr.loadAt,Instr.sureAddr,d],h2⟩
    simp at e
   simp at e
  simp at e
 simp at e
mutual
theorem X9{M:Nat→Nat→Prop}:∀v:Value,PRep M w (JW v) v
 |.int k n| .bool b=>rfl
 |.string s=>by simp[JW,PRep]
 |.pointer none=>rfl
 |.pointer (some _)=>trivial
 |.nilFunc| .nilIface| .map none=>rfl
 |.map (some _)=>trivial
 |.slice none 0 0=>rfl
 |.slice none 0 (_+1)| .slice none (_+1) _| .slice (some _) _ _=>trivial
 |.agg ⟨cs⟩=>⟨cs,rfl,Zjt cs⟩
 |.float _ _| .complex _ _ _| .chan _| .func _ _ _| .iface _ _| .tuple _=>trivial
theorem Zjt{M:Nat→Nat→Prop}:∀vs:List Value,PRepL M w (Zlo vs) vs
 |[]=>rfl
 |v::vs=>⟨v,vs,rfl,X9 v,Zjt vs⟩
end
def XF(μ:Mp Bs)(h:Za)(w:World)(ev:Operand→AV)(ρ:Operand→Value):Prop:=∀y,Rep μ h w (ev y) (ρ y)
theorem Zul{fr:Fr}{a:Act}(c:FrRel μ h w fr a.tmps):XF μ h w (ev fr) a.eval:=by
 intro y;cases y with
 |tmp t=>exact c t
 |const v=>exact Rep.pure _ _ (X9 v)
 |global g=>exact trivial
 |func f=>exact⟨[],rfl,rfl⟩
theorem Jh{ev:Operand→AV}{ρ:Operand→Value}(c:XF μ h w ev ρ):∀xs:List Operand,RepL μ h w (evs ev xs) (xs.map ρ)
 |[]=>rfl
 |x::xs=>⟨ρ x,xs.map ρ,rfl,c x,Jh c xs⟩
theorem ZbL(A:Rel μ h w)(q:h[l]?=some (.rows z rs false))(G:rs.length=n)(Q:Zz rs=[])(B:OwnRep μ h w l n v):
  ∃base cap,v=.slice base rs.length cap∧rs.length≤cap∧(rs=[]∨∃b,base=some ⟨b,0,none⟩∧PRows (Mut μ h) w z b rs 0):=by
 obtain⟨z',S,U,base,cap,j,_,rfl,B⟩:=B;rw[q]at j;simp only[Va,Blk.rows.injEq]at j;obtain⟨rfl,rfl,rfl⟩:=j;obtain⟨hc,_,W⟩:=B G.symm;refine⟨base,cap,by rw[G],by omega,?_⟩;rcases W with rfl|⟨b,vs,T,rfl,H,hw,_⟩
 ·left;exact VS.1 (by omega)
 rcases A.blk l _ q with⟨_,J⟩|⟨b',X,T',d,⟨_,C,_⟩,L,D⟩
 ·rw[H]at J;simp at J
 have e:b'=b:=by rw[H]at d;simpa using d.symm
 subst e;right;refine⟨b',rfl,PRows.of_at rs 0 fun i row g=>?_⟩;obtain⟨N,E,h3⟩:=D.none Q i row g;refine⟨N,E,PMem.of_at row _ fun c a O=>?_⟩;obtain⟨u,Y,Z⟩:=h3 c a O;have hi:i<rs.length:=(Vb.1 g).1;have a0:c<z:=by rw[←N];exact(Vb.1 O).1
 refine⟨u,by simp only[World.cell?,C];simpa using Y,?_,Z⟩;rintro(p|⟨l2,k2,hk2,hm2,p⟩)
 ·exact A.apart l b' _ (Vb.1 q).1 d p
 have F:l2<h.length:=(Vb.1 hk2).1;have s:l<h.length:=(Vb.1 q).1;have e:=A.inj l2 l b' F s hm2 d;subst e;rw[q]at hk2;simp only[Va]at hk2;subst hk2;rcases p with p|p
 ·simp at p
 have:i*z+z≤rs.length*z:=by rw[←Un];exact VT z hi
 rw[SD]at p;omega
mutual
theorem XQ(q:Rel μ h w):∀(a a':AV) (v:Value),ZI h a=some a'→Rep μ h w a v→PRep (Mut μ h) w a' v
 |.own l n,a',v,e,r=>by
  simp only[ZI]at e;split at e
  ·rename_i z rs wr j;split at e
   ·rename_i s;obtain⟨A,rfl,B⟩:=s;simp only[Va]at e;subst e;obtain⟨base,cap,g,s,p⟩:=ZbL q j A B r;exact⟨base,cap,g,s,p.imp id fun⟨b,p,C⟩=>⟨b,0,z,p,C⟩⟩
   simp at e
  simp at e
 |.nils,a',v,e,r=>by simp only[ZI,Va]at e;subst e;have:v=.slice none 0 0:=r;exact⟨none,0,this,Vw _,.inl rfl⟩
 |.lit rs,a',v,e,r=>by simp only[ZI,Va]at e;subst e;obtain⟨base,g,p⟩:=r;exact⟨base,rs.length,g,Vw _,p⟩
 |.agg cs,a',v,e,r=>by
  simp only[ZI]at e;split at e
  ·rename_i c d;simp only[Va]at e;subst e;obtain⟨vs,g,j⟩:=r;exact⟨vs,g,Ws q cs c vs d j⟩
  simp at e
 |.tup cs,a',v,e,r=>by
  simp only[ZI]at e;split at e
  ·rename_i c d;simp only[Va]at e;subst e;obtain⟨vs,g,j⟩:=r;exact⟨vs,g,Ws q cs c vs d j⟩
  simp at e
 |.fn f cs,a',v,e,r=>by
  simp only[ZI]at e;split at e
  ·rename_i c d;simp only[Va]at e;subst e;obtain⟨vs,g,j⟩:=r;exact⟨vs,g,Ws q cs c vs d j⟩
  simp at e
 |.bnd f cs,a',v,e,r=>by
  simp only[ZI]at e;split at e
  ·rename_i c d;simp only[Va]at e;subst e;obtain⟨vs,g,j⟩:=r;exact⟨vs,g,Ws q cs c vs d j⟩
  simp at e
 |.iface t a,a',v,e,r=>by
  simp only[ZI]at e;split at e
  ·rename_i b p;simp only[Va]at e;subst e;obtain⟨x,g,D⟩:=r;exact⟨x,g,XQ q a b x p D⟩
  simp at e
 |.ptr _ _,_,_,e,_| .optr _ _ _ _,_,_,e,_=>by simp[ZI]at e
 |.int _ _,_,_,e,r| .bool _,_,_,e,r| .str _,_,_,e,r| .nilp,_,_,e,r| .nilf,_,_,e,r| .nili,_,_,e,r| .emp _,_,_,e,r| .nilm,_,_,e,r| .rows _,_,_,e,r| .rptr _ _,_,_,e,r=>by simp only[ZI,Va]at e;subst e;exact r
 |.any,_,_,e,_=>by simp only[ZI,Va]at e;subst e;exact trivial
theorem Ws(c:Rel μ h w):∀(l l':List AV) (vs:List Value),ZE h l=some l'→RepL μ h w l vs→PRepL (Mut μ h) w l' vs
 |[],l',vs,e,r=>by simp only[ZE,Va]at e;subst e;exact r
 |a::r,l',vs,e,x=>by
  simp only[ZE]at e;split at e
  ·rename_i g j;split at e
   ·rename_i p h2;simp only[Va]at e;subst e;obtain⟨v,d,q,s,A⟩:=x;exact⟨v,d,q,XQ c a g v j s,Ws c r p d h2 A⟩
   simp at e
  simp at e
end
mutual
theorem Za8(p:Rel μ h w):∀(a a':AV) (v:Value),Z2 h a=some a'→Rep μ h w a v→PRep (Mut μ h) w a' v
 |.own l n,a',v,e,r=>by
  simp only[Z2]at e;split at e
  ·rename_i z rs wr j;split at e
   ·rename_i s;obtain⟨A,rfl,B⟩:=s;simp only[Va]at e;subst e;obtain⟨base,cap,g,s,q⟩:=ZbL p j A B r;exact⟨base,cap,g,s,q.imp id fun⟨b,q,C⟩=>⟨b,0,z,q,C⟩⟩
   simp at e
  simp at e
 |.nils,a',v,e,r=>by simp only[Z2,Va]at e;subst e;exact r
 |.lit rs,a',v,e,r=>by simp only[Z2,Va]at e;subst e;exact r
 |.agg cs,a',v,e,r=>by
  simp only[Z2]at e;split at e
  ·rename_i c d;simp only[Va]at e;subst e;obtain⟨vs,g,j⟩:=r;exact⟨vs,g,X5 p cs c vs d j⟩
  simp at e
 |.tup cs,a',v,e,r=>by
  simp only[Z2]at e;split at e
  ·rename_i c d;simp only[Va]at e;subst e;obtain⟨vs,g,j⟩:=r;exact⟨vs,g,X5 p cs c vs d j⟩
  simp at e
 |.fn f cs,a',v,e,r=>by
  simp only[Z2]at e;split at e
  ·rename_i c d;simp only[Va]at e;subst e;obtain⟨vs,g,j⟩:=r;exact⟨vs,g,X5 p cs c vs d j⟩
  simp at e
 |.bnd f cs,a',v,e,r=>by
  simp only[Z2]at e;split at e
  ·rename_i c d;simp only[Va]at e;subst e;obtain⟨vs,g,j⟩:=r;exact⟨vs,g,X5 p cs c vs d j⟩
  simp at e
 |.iface t a,a',v,e,r=>by
  simp only[Z2]at e;split at e
  ·rename_i b q;simp only[Va]at e;subst e;obtain⟨x,g,D⟩:=r;exact⟨x,g,Za8 p a b x q D⟩
  simp at e
 |.ptr _ _,_,_,e,_| .optr _ _ _ _,_,_,e,_=>by simp[Z2]at e
 |.int _ _,_,_,e,r| .bool _,_,_,e,r| .str _,_,_,e,r| .nilp,_,_,e,r| .nilf,_,_,e,r| .nili,_,_,e,r| .emp _,_,_,e,r| .nilm,_,_,e,r| .rows _,_,_,e,r| .rptr _ _,_,_,e,r=>by simp only[Z2,Va]at e;subst e;exact r
 |.any,_,_,e,_=>by simp only[Z2,Va]at e;subst e;exact trivial
theorem X5(c:Rel μ h w):∀(l l':List AV) (vs:List Value),Xm h l=some l'→RepL μ h w l vs→PRepL (Mut μ h) w l' vs
 |[],l',vs,e,r=>by simp only[Xm,Va]at e;subst e;exact r
 |a::r,l',vs,e,x=>by
  simp only[Xm]at e;split at e
  ·rename_i g j;split at e
   ·rename_i p h2;simp only[Va]at e;subst e;obtain⟨v,d,q,s,A⟩:=x;exact⟨v,d,q,Za8 c a g v j s,X5 c r p d h2 A⟩
   simp at e
  simp at e
end
theorem ZrV(c:Rel μ h w){kn:Bool}{a a':AV}(e:pur kn h a=some a')(r:Rep μ h w a v):PRep (Mut μ h) w a' v:=by
 cases kn with
 |true=>exact Za8 c a a' v e r
 |false=>exact XQ c a a' v e r
theorem ZdR(c:Rel μ h w){nl:Bool}{l l':List AV}{vs:List Value}(e:Zdy nl h l=some l')(r:RepL μ h w l vs):PRepL (Mut μ h) w l' vs:=by
 cases nl with
 |true=>exact X5 c l l' vs e r
 |false=>exact Ws c l l' vs e r
theorem ZpB{c b:AV}{d:Value}(e:pick c a b=some x)(g:Rep μ h w c d)(j:Rep μ h w a va)(p:Rep μ h w b vb):
  ∃t,d=.bool t∧Rep μ h w x (if t then va else vb):=by
 unfold pick at e;split at e
 ·rename_i t;simp only[Va]at e;subst e;refine⟨t,g,?_⟩;cases t
  ·exact p
  exact j
 simp at e
theorem ZjA(e:ZeH i a=some x)(c:Rep μ h w a v):∃u,(Instr.extract v i).run P w=.ok u w∧Rep μ h w x u:=by
 unfold ZeH at e;split at e
 ·rename_i l;obtain⟨vs,rfl,d⟩:=c;obtain⟨u,g,h2⟩:=(RepL.at l vs d).2 i x e;refine⟨u,?_,h2⟩;simp[Instr.extract,g]
 simp at e
theorem ZlS(e:Zlk n a=some x)(d:Rep μ h w a v):∃b o,v=.pointer (some ⟨b,o,none⟩)∧Rep μ h w x (.pointer (some ⟨b,o+n,none⟩)):=by
 unfold Zlk at e;split at e
 ·rename_i l o;simp only[Va]at e;subst e;obtain⟨cs,b,c,h2,rfl⟩:=d;exact⟨b,o,rfl,cs,b,c,h2,rfl⟩
 ·rename_i r o;simp only[Va]at e;subst e;obtain⟨b,p,rfl,c⟩:=d;exact⟨b,p+o,rfl,b,p,by simp[UL],c⟩
 ·rename_i l m i o;simp only[Va]at e;subst e;obtain⟨z,rs,wr,b,c,h2,rfl,h3⟩:=d;exact⟨b,i*z+o,rfl,z,rs,wr,b,c,h2,by simp[UL],h3⟩
 ·rename_i t l o;simp only[Va]at e;subst e;obtain⟨cs,b,c,h2,rfl,_⟩:=d;exact⟨b,o,rfl,cs,b,c,h2,rfl⟩
 simp at e
theorem ZqE(e:fo P t f=some (o,u)):
  ∃fs x i,P.underlying t=some (.struct fs)∧fs[f]?=some x∧x.offset=o∧x.type=u∧P.info? x.type=some i∧i.size≠0:=by
 unfold fo at e;split at e
 ·rename_i fs c;split at e
  ·rename_i x d;split at e
   ·rename_i i hi;split at e
    ·simp at e
    rename_i g;simp only[Va,Vp]at e;exact⟨fs,x,i,c,d,e.1,e.2,hi,g⟩
   simp at e
  simp at e
 simp at e
theorem Zmb(e:Zln a (fo P t f)=some x)(c:Rep μ h w a v):
  ∃u,(Instr.fieldAt t v f).run P w=.ok u w∧Rep μ h w x u:=by
 unfold Zln at e;split at e
 ·rename_i o u d;obtain⟨fs,y,i,g,j,rfl,rfl,hi,q⟩:=ZqE d;obtain⟨b,p,rfl,s⟩:=ZlS e c;refine⟨_,?_,s⟩;simp[Instr.fieldAt,Vs g,j,Instr.sureAddr,fieldPlace,sizeOf,typeInfo,hi,q,W6]
 simp at e
theorem Zok{vs:List Value}(e:part (sh P t) cs o=some x)(p:RepL μ h w cs vs):
  ∃u,(Go.part t vs.toArray o).run P w=.ok u w∧Rep μ h w x u:=by
 obtain⟨_,d⟩:=RepL.at cs vs p;rcases ZhD e d with⟨hs,u,g,h2⟩|⟨us,hs,g,h2⟩
 ·exact⟨u,by simp[Go.part,ZvS hs,g],h2⟩
 refine⟨_,?_,h2⟩;obtain⟨h3,q⟩:=Zo5 (w:=w) hs;simp only[Go.part,VQ,VF,h3,V7,q,V0];congr 2;apply UX;simp only[Pu,S8,Uw];apply UD;intro j;by_cases c:j<us.length
 ·rw[Us,Vr c,Uc];rw[g j us[j] (VB c),VB c]
 rw[Us,Vm c,UG (by omega)]
theorem Zmg(e:Zma P a (fo P t f)=some x)(c:Rep μ h w a v):
  ∃u,(Instr.field t v f).run P w=.ok u w∧Rep μ h w x u:=by
 unfold Zma at e;split at e
 ·rename_i o u d;obtain⟨fs,y,i,g,j,rfl,rfl,hi,s⟩:=ZqE d;split at e
  ·rename_i cs;obtain⟨vs,rfl,p⟩:=c;obtain⟨u,q,h2⟩:=Zok e p;exact⟨u,by simp[Instr.field,Vs g,j,asAgg,q],h2⟩
  simp at e
 simp at e
theorem at?_spec{α:Type}{l:List α}{i:Int}{x:α}(e:at? l i=some x):0≤i∧l[i.toNat]?=some x∧i<(l.length:Int):=by
 unfold at? at e;split at e
 ·rename_i hi;have:=(Vb.1 e).1;exact⟨hi,e,by omega⟩
 simp at e
theorem Zb4(e:es P t=some (z,b)):∃u i y,P.underlying t=some (.slice u)∧P.info? u=some i∧i.size=z∧i.bytes=b∧i.zero=some y∧y.cells.size=z:=by
 unfold es at e;split at e
 ·rename_i u c;split at e
  ·rename_i i hi;split at e
   ·rename_i y d;split at e
    ·rename_i g;simp only[Va,Vp]at e;exact⟨u,i,y,c,hi,e.1,e.2,d,by rw[g];exact e.1⟩
    simp at e
   simp at e
  simp at e
 simp at e
theorem ZlC(e:es P t=some (z,b)):∃u i,P.underlying t=some (.slice u)∧P.info? u=some i∧i.size=z∧i.bytes=b:=by obtain⟨u,i,_,c,h2,h3,d,_⟩:=Zb4 e;exact⟨u,i,c,h2,h3,d⟩
theorem Zqd(e:ar P t=some (n,u,z)):∃i,P.underlying t=some (.array n u)∧P.info? u=some i∧i.size=z:=by
 unfold ar at e;split at e
 ·rename_i g c d;cases hi:P.info? c with
  |none=>simp[hi]at e
  |some i =>
   simp only[hi,Ue,Va,Vp]at e;obtain⟨rfl,rfl,rfl⟩:=e;exact⟨i,d,hi,rfl⟩
 simp at e
theorem Zrw(s:List UInt8)(i:Nat):((⟨s.toArray⟩:ByteArray)[i]?)=s[i]?:=by
 have hs:(⟨s.toArray⟩:ByteArray).size=s.length:=rfl;by_cases hi:i<s.length
 ·rw[getElem?_pos (⟨s.toArray⟩:ByteArray) i (by omega),VB hi];rfl
 rw[getElem?_neg (⟨s.toArray⟩:ByteArray) i (by omega),UG (by omega)]
theorem Zk4{i:AV}{v d:Value}(e:Zl6 P t i a=some x)(A:Rep μ h w a v)(hi:Rep μ h w i d):
  ∃u,(Instr.index t v d).run P w=.ok u w∧Rep μ h w x u:=by
 unfold Zl6 at e;split at e
 ·rename_i k i;have:d=.int k i:=hi;subst this;split at e
  ·rename_i s;have:v=.string ⟨s.toArray⟩:=A;subst this;split at e
   ·rename_i c;split at e
    ·rename_i b B;simp only[Va]at e;subst e;obtain⟨g,h2,_⟩:=at?_spec B;have p:P.underlying t=some .string:=by
      unfold tk at c;split at c
      ·assumption
      ·split at c<;>simp at c
      ·split at c<;>simp at c
      simp at c
     refine⟨.int .u8 (b.toNat:Int),?_,rfl⟩;simp[Instr.index,asIntOf,Vs p,g,Zrw,h2]
    simp at e
   simp at e
  ·rename_i cs;split at e
   ·rename_i n u z q;split at e
    ·rename_i C;obtain⟨j,p,D,rfl⟩:=Zqd q;obtain⟨vs,rfl,E⟩:=A;obtain⟨y,g,h2⟩:=Zok e E;refine⟨y,?_,h2⟩;simp[Instr.index,asIntOf,Vs p,C,sizeOf,typeInfo,D,g]
    simp at e
   simp at e
  simp at e
 simp at e
theorem Zml{i:AV}{v L:Value}(e:Zd2 P t h i a=some x)(F:Rep μ h w a v)(hi:Rep μ h w i L):
  ∃u,(Instr.indexAt t v L).run P w=.ok u w∧Rep μ h w x u:=by
 have g:∀(k:IntKind) (i:Int) (rs:List (List AV)) (z q:Nat) (row:List AV) (base:Option Addr) (cap:Nat),es P t=some (z,q)→at? rs i=some row→Zra z row=some x →
   (rs=[]∨∃b o z,base=some ⟨b,o,none⟩∧PRows (Mut μ h) w z b rs o)→∃u,(Instr.indexAt t (.slice base rs.length cap) (.int k i)).run P w=.ok u w∧Rep μ h w x u:=by
  intro k i rs z q row base cap p N A B;obtain⟨u,j,C,D,rfl,_⟩:=ZlC p;obtain⟨E,h2,h3⟩:=at?_spec N;unfold Zra at A;split at A
  ·rename_i hz;simp only[Va]at A;subst A;rcases B with rfl|⟨b,o,z',rfl,hp⟩
   ·simp at h2
   obtain⟨h4,_,h5⟩:=PRows.at rs o hp i.toNat row h2;have e:z'=j.size:=by omega
   subst e;refine⟨.pointer (some ⟨b,o+i.toNat*j.size,none⟩),?_,⟨b,_,rfl,h5⟩⟩;simp[Instr.indexAt,asIntOf,Vs C,E,h3,sizeOf,typeInfo,D,W6]
  simp at A
 unfold Zd2 at e;split at e
 ·rename_i k i;have:L=.int k i:=hi;subst this;split at e
  ·rename_i rs;split at e
   ·rename_i z q p;split at e
    ·rename_i row d;obtain⟨base,cap,rfl,_,B⟩:=F;exact g k i rs z q row base cap p d e B
    simp at e
   simp at e
  ·rename_i rs;split at e
   ·rename_i z q p;split at e
    ·rename_i row d;obtain⟨base,rfl,B⟩:=F;exact g k i rs z q row base rs.length p d e B
    simp at e
   simp at e
  ·rename_i l n;split at e
   ·rename_i z q p;obtain⟨u,j,C,D,rfl,_⟩:=ZlC p;split at e
    ·rename_i sz rs wr G;split at e
     ·rename_i H;obtain⟨O,rfl⟩:=H;split at e
      ·rename_i row d;simp only[Va]at e;subst e;obtain⟨E,h2,h3⟩:=at?_spec d;obtain⟨z',Q,S,base,cap,s,U,rfl,W⟩:=F;rw[G]at s;simp only[Va,Blk.rows.injEq]at s;obtain⟨rfl,rfl,rfl⟩:=s;obtain⟨Z,_,B⟩:=W O.symm;rcases B with rfl|⟨b,vs,T,rfl,X,hw,_⟩
       ·have:rs.length=0:=by omega
        omega
       refine⟨.pointer (some ⟨b,i.toNat*j.size,none⟩),?_,⟨j.size,rs,wr,b,G,by omega,rfl,fun _=>X⟩⟩;simp[Instr.indexAt,asIntOf,Vs C,E,sizeOf,typeInfo,D,W6];omega
      simp at e
     simp at e
    simp at e
   simp at e
  ·rename_i l n c m;split at e
   ·rename_i z q p;obtain⟨u,j,C,D,rfl,_⟩:=ZlC p;split at e
    ·rename_i sz rs wr G;split at e
     ·rename_i H;obtain⟨O,rfl,a0⟩:=H;split at e
      ·rename_i row d;simp only[Va]at e;subst e;obtain⟨E,h2,h3⟩:=at?_spec d;have J:(cut rs c (c+m)).length=m:=by unfold cut;simp;omega
       obtain⟨z',Q,S,base,cap,s,U,rfl,W⟩:=F;rw[G]at s;simp only[Va,Blk.rows.injEq]at s;obtain⟨rfl,rfl,rfl⟩:=s;obtain⟨_,_,B⟩:=W O.symm;rw[J]at h3;obtain⟨b,vs,T,rfl,X,hw,_⟩:=B (by omega);refine⟨.pointer (some ⟨b,c*j.size+i.toNat*j.size,none⟩),?_,⟨j.size,rs,wr,b,G,by omega,by rw[Uj];rfl,fun _=>X⟩⟩;simp[Instr.indexAt,asIntOf,Vs C,E,sizeOf,typeInfo,D,W6];omega
      simp at e
     simp at e
    simp at e
   simp at e
  ·rename_i l o;split at e
   ·rename_i n u z Y;split at e
    ·rename_i H;simp only[Va]at e;subst e;obtain⟨j,C,D,rfl⟩:=Zqd Y;obtain⟨cs,b,E,h2,rfl⟩:=F;refine⟨.pointer (some ⟨b,o+i.toNat*j.size,none⟩),?_,⟨cs,b,E,h2,rfl⟩⟩;simp[Instr.indexAt,asIntOf,Vs C,Instr.sureAddr,H,sizeOf,typeInfo,D,W6]
    simp at e
   simp at e
  simp at e
 simp at e
def JS(μ:Mp Bs)(h:Za)(w:World):Option AV→Option Value→Prop
 |none,none=>True
 |some a,some v=>Rep μ h w a v
 |_,_=>False
theorem Zix{x:Option AV}{c:Option Value}{r:Option Int}(e:ZhU n x=some r)(d:JS μ h w x c):
  (r=none∧c=none)∨∃k i,r=some i∧c=some (.int k i)∧0≤i∧i≤(n:Int):=by
 unfold ZhU at e;split at e
 ·cases c with
  |none=>simp only[Va]at e;exact .inl ⟨e.symm,rfl⟩
  |some v=>exact d.elim
 ·rename_i k i;split at e
  ·rename_i g;cases c with
   |none=>exact d.elim
   |some v =>
    have:v=.int k i:=d;simp only[Va]at e;exact .inr ⟨k,i,e.symm,by rw[this],g.1,g.2⟩
  simp at e
 simp at e
theorem Qu{a:Nat}{lo:Option AV}(p:Bool)(e:QO n lo hi=some (a,b))(q:JS μ h w lo vl)(hh:JS μ h w hi vh)(C:n≤m):
  (Instr.sliceBounds p n m vl vh none).run P w=.ok (a,b,m) w∧a≤b∧b≤n:=by
 unfold QO at e;split at e
 ·rename_i b' j;split at e
  ·rename_i a' d;simp only[Va,Vp]at e;obtain⟨rfl,rfl⟩:=e;have H:(vh=none∧b'=n)∨∃k i,vh=some (.int k i)∧0≤i∧i≤(n:Int)∧b'=i.toNat:=by
    cases c:ZhU n hi with
    |none=>simp[c,ZvO]at j
    |some r =>
     rcases Zix c hh with⟨rfl,rfl⟩|⟨k,i,rfl,rfl,g,h2⟩
     ·simp only[c,ZvO,Va]at j;exact .inl ⟨rfl,j.symm⟩
     simp only[c,ZvO,Va]at j;exact .inr ⟨k,i,rfl,g,h2,j.symm⟩
   have L:(vl=none∧a'=0)∨∃k i,vl=some (.int k i)∧0≤i∧i≤(b':Int)∧a'=i.toNat:=by
    cases c:ZhU n lo with
    |none=>simp[c,low]at d
    |some r =>
     rcases Zix c q with⟨rfl,rfl⟩|⟨k,i,rfl,rfl,g,h2⟩
     ·simp only[c,low,Va]at d;exact .inl ⟨rfl,d.symm⟩
     simp only[c,low]at d;split at d
     ·rename_i h3;simp only[Va]at d;exact .inr ⟨k,i,rfl,g,h3,d.symm⟩
     simp at d
   rcases H with⟨rfl,rfl⟩|⟨k,i,rfl,g,h2,rfl⟩<;>rcases L with⟨rfl,rfl⟩|⟨k',s,rfl,h3,A,rfl⟩
   ·refine⟨by simp[Instr.sliceBounds],by omega,by omega⟩
   ·refine⟨by simp[Instr.sliceBounds,Instr.sliceBound,asIntOf,h3,A],by omega,by omega⟩
   ·have:i≤(m:Int):=by omega
    refine⟨by simp[Instr.sliceBounds,Instr.sliceBound,asIntOf,g,this],by omega,by omega⟩
   have:i≤(m:Int):=by omega
   have B:¬max i 0<s:=by omega
   refine⟨by simp[Instr.sliceBounds,Instr.sliceBound,asIntOf,g,this,h3,B],by omega,by omega⟩
  simp at e
 simp at e
theorem Zh1{e e':Nat}{c:Bool}{vh:Value}:Instr.sliceBounds c e m vl (some vh) none=Instr.sliceBounds c e' m vl (some vh) none:=rfl
theorem Zow{c k a:Nat}{lo:Option AV}(e:Zex c m lo hi=some (a,b))(d:JS μ h w lo vl)(hh:JS μ h w hi vh)(g:c≤k):
  (Instr.sliceBounds true m k vl vh none).run P w=.ok (a,b,k) w∧a≤b∧b≤c:=by
 cases hi with
 |none =>
  simp only[Zex]at e;split at e
  ·rename_i p;obtain⟨j,h2,h3⟩:=Qu (P:=P) (m:=k) true e d hh (by omega);exact⟨j,h2,by omega⟩
  simp at e
 |some x =>
  simp only[Zex]at e;cases vh with
  |none=>exact hh.elim
  |some v =>
   rw[Zh1 (e':=c)];exact Qu (P:=P) (m:=k) true e d hh g
theorem Zdd{α:Type}(l:List α)(a b i:Nat):(cut l a b)[i]?=if i<b-a then l[a+i]? else none:=by
 unfold cut;rw[Us];split
 ·rw[Uc]
 rfl
theorem Zdu{α:Type}(l:List α)(a b:Nat)(c:b≤l.length):(cut l a b).length=b-a:=by unfold cut;simp;omega
theorem Qw{z:Nat}:∀{rs:List (List AV)},Y1 z rs=true→∀(i:Nat) (row:List AV),rs[i]?=some row→row.length=z
 |[],_,i,row,e=>by simp at e
 |r::rs,c,i,row,e=>by
  simp only[Y1,VA,Up]at c;cases i with
  |zero=>simp only[Vt,Va]at e;rw[←e];exact c.1
  |succ i=>exact Qw c.2 i row (by simpa using e)
theorem Qf(e:tk P t=.slice z b):∃u i,P.underlying t=some (.slice u)∧P.info? u=some i∧i.size=z∧i.bytes=b:=by
 unfold tk at e;split at e
 ·simp at e
 ·rename_i u c;split at e
  ·rename_i i hi;simp only[TK.slice.injEq]at e;exact⟨u,i,c,hi,e.1,e.2⟩
  simp at e
 ·split at e<;>simp at e
 simp at e
theorem Zs2(e:tk P t=.str):P.underlying t=some .string:=by
 unfold tk at e;split at e
 ·assumption
 ·split at e<;>simp at e
 ·split at e<;>simp at e
 simp at e
theorem Zlw{lo:Option AV}{v:Value}(c:tk P t=.str)(e:ZkZ lo hi a=some x)(d:Rep μ h w a v)(g:JS μ h w lo vl)(hh:JS μ h w hi vh):
  ∃u,(Instr.sliceAt t v vl vh none).run P w=.ok u w∧Rep μ h w x u:=by
 have j:=Zs2 c;unfold ZkZ at e;split at e
 ·rename_i s;have:v=.string ⟨s.toArray⟩:=d;subst this;split at e
  ·rename_i p q A;simp only[Va]at e;subst e;obtain⟨B,h2,h3⟩:=Qu (P:=P) (m:=s.length) false A g hh (Vw _);refine⟨.string ((⟨s.toArray⟩:ByteArray).extract p q),?_,?_⟩
   ·have hs:(⟨s.toArray⟩:ByteArray).size=s.length:=rfl;simp[Instr.sliceAt,Vs j,Instr.slice,hs,B]
   show _=_;rw[Lib.extract_eq];rfl
  simp at e
 simp at e
theorem ZkX{bb:Nat}{lo:Option AV}{v:Value}(ht:tk P t=.slice z bb)(hr:Rel μ h w)(e:ZiX h z lo hi a=some x)(N:Rep μ h w a v)(U:JS μ h w lo vl)(hh:JS μ h w hi vh):
  ∃u,(Instr.sliceAt t v vl vh none).run P w=.ok u w∧Rep μ h w x u:=by
 obtain⟨y,j,Z,hj,rfl,_⟩:=Qf ht;have s:∀(rs:List (List AV)) (base:Option Addr) (cap p q:Nat),QO rs.length lo hi=some (p,q)→rs.length≤cap →
   (rs=[]∨∃b o z',base=some ⟨b,o,none⟩∧PRows (Mut μ h) w z' b rs o)→(∀(i:Nat) (row:List AV),rs[i]?=some row→row.length=j.size) →
   ∃u,(Instr.sliceAt t (.slice base rs.length cap) vl vh none).run P w=.ok u w∧Rep μ h w (.rows (cut rs p q)) u:=by
  intro rs base cap p q g A F hz;obtain⟨C,h2,h3⟩:=Qu (P:=P) (m:=cap) true g U hh A;refine⟨.slice (if cap=p then base else base.map (·.add (p*j.size))) (q-p) (cap-p),?_,?_⟩
  ·simp[Instr.sliceAt,Vs Z,Instr.slice,C,sizeOf,typeInfo,hj]
  refine⟨_,cap-p,by rw[Zdu _ _ _ h3],by rw[Zdu _ _ _ h3];omega,?_⟩;by_cases a3:q=p
  ·left;apply VS.1;rw[Zdu _ _ _ h3];omega
  right;have J:cap≠p:=by omega
  rcases F with rfl|⟨b,o,z',rfl,W⟩
  ·simp at h3;omega
  have a0:z'=j.size:=by
   have O:0<rs.length:=by omega
   have X:=(PRows.at rs o W 0 _ (VB O)).1;have h5:=hz 0 _ (VB O);omega
  subst a0;refine⟨b,o+p*j.size,j.size,by simp[J,W6],PRows.of_at _ _ fun i row D=>?_⟩;rw[Zdd]at D;split at D
  ·have:=PRows.at rs o W (p+i) row D
   rwa [show o+(p+i)*j.size=o+p*j.size+i*j.size from by rw[Uj];omega]at this
  simp at D
 have G:∀(l n c m:Nat) (rs:List (List AV)) (Y:Option (Nat×Nat)),VwRep μ h w l n c m v→h[l]?=some (.rows j.size rs true)→rs.length=n →
   (∀p q,Y=some (p,q)→∀cap,n-c≤cap→(Instr.sliceBounds true m cap vl vh none).run P w=.ok (p,q,cap) w∧p≤q∧q≤n-c)→Zge l n c Y=some x →
   ∃u,(Instr.sliceAt t v vl vh none).run P w=.ok u w∧Rep μ h w x u:=by
  intro l n c m rs Y hv d L a1 hx;obtain⟨z2,Q,S,base,cap,C,h2,rfl,X⟩:=hv;rw[d]at C;simp only[Va,Blk.rows.injEq]at C;obtain⟨rfl,rfl,rfl⟩:=C;obtain⟨h5,h6,h7⟩:=X L.symm;cases Y with
  |none=>simp[Zge]at hx
  |some pq =>
   obtain⟨p,q⟩:=pq;simp only[Zge,Va]at hx;subst hx;obtain⟨r1,r2,r3⟩:=a1 p q rfl cap (by omega);refine⟨.slice (if cap=p then base else base.map (·.add (p*j.size))) (q-p) (cap-p),?_,?_⟩
   ·simp[Instr.sliceAt,Vs Z,Instr.slice,r1,sizeOf,typeInfo,hj]
   refine⟨j.size,rs,true,_,cap-p,d,by omega,rfl,fun _=>⟨by omega,by omega,fun h8=>?_⟩⟩;obtain⟨b,vs,T,rfl,s2,s3,s4⟩:=h7 (by omega);have J:cap≠p:=by omega
   refine⟨b,vs,T,?_,s2,s3,?_⟩
   ·simp[J,W6,Uj]
   rw[show c+p+(cap-p)=c+cap by omega];exact s4
 unfold ZiX at e;split at e
 ·rename_i rs;split at e
  ·rename_i p q g;split at e
   ·rename_i B;simp only[Va]at e;subst e;obtain⟨base,cap,rfl,E,F⟩:=N;exact s rs base cap p q g E F (Qw B)
   simp at e
  simp at e
 ·rename_i rs;split at e
  ·rename_i p q g;split at e
   ·rename_i B;simp only[Va]at e;subst e;obtain⟨base,rfl,F⟩:=N;exact s rs base rs.length p q g (Vw _) F (Qw B)
   simp at e
  simp at e
 ·split at e
  ·rename_i pq g;obtain⟨p,q⟩:=pq;simp only[Va]at e;subst e;have hv:v=.slice none 0 0:=N;subst hv;obtain⟨C,h2,h3⟩:=Qu (P:=P) (m:=0) true g U hh (Vw _);obtain rfl:p=0:=by omega
   obtain rfl:q=0:=by omega
   exact⟨.slice none 0 0,by simp[Instr.sliceAt,Vs Z,Instr.slice,C,sizeOf,typeInfo,hj],rfl⟩
  simp at e
 ·rename_i l n;split at e
  ·rename_i y' rs d;split at e
   ·rename_i E;obtain⟨L,rfl,hz⟩:=E;split at e
    ·rename_i p q g;simp only[Va]at e;subst e;obtain⟨base,cap,rfl,E,F⟩:=ZbL hr d L hz N;refine s rs base cap p q g E (F.imp id fun⟨b,g,W⟩=>⟨b,0,_,g,W⟩) fun i row H=>?_;rcases F with rfl|⟨b2,_,a2⟩
     ·simp at H
     exact(PRows.at rs 0 a2 i row H).1
    simp at e
   simp at e
  ·rename_i y' rs d;split at e
   ·rename_i E;obtain⟨L,rfl⟩:=E;refine G l n 0 n _ _ ?_ d L ?_ e
    ·obtain⟨z2,Q,S,base,cap,C,h2,h3,X⟩:=N;refine⟨z2,Q,S,base,cap,C,h2,h3,fun h5=>?_⟩;obtain⟨q1,_,q2⟩:=X h5;refine⟨by omega,by omega,fun h6=>?_⟩;rcases q2 with q2|⟨b,vs,T,q3,q4,q5,q6⟩
     ·omega
     exact⟨b,vs,T,by simpa using q3,q4,q5,by simpa using q6⟩
    intro p q g cap A;exact Qu (P:=P) true g U hh (by omega)
   simp at e
  simp at e
 ·rename_i l n c m;split at e
  ·rename_i y' rs d;split at e
   ·rename_i E;obtain⟨L,rfl⟩:=E;refine G l n c m _ _ N d L ?_ e;intro p q g cap A;exact Zow (P:=P) g U hh (by omega)
   simp at e
  simp at e
 simp at e
theorem Zjn{lo:Option AV}{v:Value}(c:tk P t=.arr n)(e:ZiI n lo hi a=some x)(d:Rep μ h w a v)(g:JS μ h w lo vl)(hh:JS μ h w hi vh):
  ∃u,(Instr.sliceAt t v vl vh none).run P w=.ok u w∧Rep μ h w x u:=by
 cases e
theorem ZkS{lo hi q:AV}{v vl vh d:Value}(e:Zea h lo hi q (tk P t) a=some x)(s:Rep μ h w a v)(A:Rep μ h w lo vl)(hh:Rep μ h w hi vh)(B:Rep μ h w q d):
  ∃u,(Instr.sliceAt t v (some vl) (some vh) (some d)).run P w=.ok u w∧Rep μ h w x u:=by
 unfold Zea at e;split at e
 ·rename_i l n;split at e
  ·rename_i z2 C D z bb g E;obtain⟨y,j,F,G,rfl,_⟩:=Qf E;split at e
   ·rename_i H i1 J i2 L i3;split at e
    ·rename_i N;simp only[Va]at e;subst e;obtain⟨z,rs,wr,base,cap,c,hn,rfl,O⟩:=s;rw[g]at c;simp only[Va,Blk.rows.injEq]at c;obtain⟨rfl,rfl,rfl⟩:=c;have Q:vl=.int H i1:=A;have S:vh=.int J i2:=hh;have U:d=.int L i3:=B;subst Q S U;obtain⟨W,c2,c3,c4,c5⟩:=N;obtain⟨h5,_,_⟩:=O W.symm;have X:0≤i3∧i3≤(cap:Int):=by omega
     have Y:0≤i2∧i2≤((i3.toNat:Nat):Int):=by omega
     have Z:0≤i1∧i1≤((i2.toNat:Nat):Int):=by omega
     have p:(sizeOf y).run P w=.ok j.size w:=by simp[sizeOf,typeInfo,G]
     exact⟨_,by simp only[Instr.sliceAt,VQ,Vs F,VF,Instr.slice,Instr.sliceBounds,Instr.sliceBound,asIntOf,pure_bind,Vr X,Vr Y,Vr Z,V0,p];rfl,trivial⟩
    simp at e
   simp at e
  simp at e
 simp at e
theorem ZjL{hi c:AV}{v vh d:Value}(e:Zrg hi c (tk P t) a=some x)(g:Rep μ h w a v)(hh:Rep μ h w hi vh)(j:Rep μ h w c d):
  ∃u,(Instr.sliceAt t v none (some vh) (some d)).run P w=.ok u w∧Rep μ h w x u:=by
 cases e
theorem Zp2{t:TypeId}(e:Zwd (tk P t) a=some x)(g:Rep μ h w a v)(ty:TypeId):
  ∃u,(Builtin.len_ #[t] ty #[v]).run P w=.ok u w∧Rep μ h w x u:=by
 unfold Zwd at e;split at e
 ·rename_i s c;have:v=.string ⟨s.toArray⟩:=g;subst this;simp only[Va]at e;subst e;have hs:(⟨s.toArray⟩:ByteArray).size=s.length:=rfl;exact⟨.int .i64 (s.length:Int),by simp[Builtin.len_,Vs (Zs2 c),goInt,hs],rfl⟩
 ·rename_i rs c;obtain⟨y,j,d,_⟩:=Qf c;obtain⟨base,cap,rfl,_⟩:=g;simp only[Va]at e;subst e;exact⟨.int .i64 (rs.length:Int),by simp[Builtin.len_,Vs d,goInt],rfl⟩
 ·rename_i rs c;obtain⟨y,j,d,_⟩:=Qf c;obtain⟨base,rfl,_⟩:=g;simp only[Va]at e;subst e;exact⟨.int .i64 (rs.length:Int),by simp[Builtin.len_,Vs d,goInt],rfl⟩
 ·rename_i l n c;obtain⟨y,j,d,_⟩:=Qf c;simp only[Va]at e;subst e;obtain⟨z,rs,wr,base,cap,p,_,rfl,q⟩:=g;exact⟨.int .i64 (n:Int),by simp[Builtin.len_,Vs d,goInt],rfl⟩
 ·rename_i c;obtain⟨y,j,d,_⟩:=Qf c;have:v=.slice none 0 0:=g;subst this;simp only[Va]at e;subst e;exact⟨.int .i64 0,by simp[Builtin.len_,Vs d,goInt],rfl⟩
 ·rename_i b c;obtain⟨y,j,d,_⟩:=Qf c;obtain⟨base,cap,rfl,_⟩:=g;simp only[Va]at e;subst e;exact⟨.int .i64 0,by simp[Builtin.len_,Vs d,goInt],rfl⟩
 ·rename_i t' l n c;obtain⟨y,j,d,_⟩:=Qf c;simp only[Va]at e;subst e;obtain⟨z,rs,wr,base,cap,p,_,rfl,q⟩:=g;exact⟨.int .i64 (n:Int),by simp[Builtin.len_,Vs d,goInt],rfl⟩
 ·rename_i l n a m c;obtain⟨y,j,d,_⟩:=Qf c;simp only[Va]at e;subst e;obtain⟨z,rs,wr,base,cap,p,_,rfl,q⟩:=g;exact⟨.int .i64 (m:Int),by simp[Builtin.len_,Vs d,goInt],rfl⟩
 simp at e
theorem Zpj{t:TypeId}(e:Zt8 (tk P t) a=some x)(c:Rep μ h w a v)(ty:TypeId):
  ∃u,(Builtin.cap_ #[t] ty #[v]).run P w=.ok u w∧Rep μ h w x u:=by
 unfold Zt8 at e;split at e
 ·rename_i d;obtain⟨y,j,g,_⟩:=Qf d;have:v=.slice none 0 0:=c;subst this;simp only[Va]at e;subst e;exact⟨.int .i64 0,by simp[Builtin.cap_,Vs g,goInt],rfl⟩
 simp at e
theorem Zh3:∀(r:List AV) (vs:List Value) (k:IntKind) (x:Int) (a:AV),Zpn k x r=some a→RepL μ h w r vs →
  ∃u,(vs.foldlM Builtin.min2 (.int k x)).run P w=.ok u w∧Rep μ h w a u
 |[],vs,k,x,a,e,c=>by have:vs=[]:=c;subst this;simp only[Zpn,Va]at e;subst e;exact⟨.int k x,rfl,rfl⟩
 |b::r,vs,k,x,a,e,c=>by
  obtain⟨v,d,rfl,g,h2⟩:=c;cases b with
  |int k' y =>
   have:v=.int k' y:=g;subst this;simp only[Zpn]at e;obtain⟨u,h3,j⟩:=Zh3 r d k _ a e h2;exact⟨u,by simpa[Builtin.min2]using h3,j⟩
  |_=>simp[Zpn]at e
theorem Zjs:∀(r:List AV) (vs:List Value) (k:IntKind) (x:Int) (a:AV),ZpD k x r=some a→RepL μ h w r vs →
  ∃u,(vs.foldlM Builtin.max2 (.int k x)).run P w=.ok u w∧Rep μ h w a u
 |[],vs,k,x,a,e,c=>by have:vs=[]:=c;subst this;simp only[ZpD,Va]at e;subst e;exact⟨.int k x,rfl,rfl⟩
 |b::r,vs,k,x,a,e,c=>by
  obtain⟨v,d,rfl,g,h2⟩:=c;cases b with
  |int k' y =>
   have:v=.int k' y:=g;subst this;simp only[ZpD]at e;obtain⟨u,h3,j⟩:=Zjs r d k _ a e h2;exact⟨u,by simpa[Builtin.max2]using h3,j⟩
  |_=>simp[ZpD]at e
theorem ZpF{l:List AV}{vs:List Value}{a:AV}(e:Zwv l=some a)(d:RepL μ h w l vs)(c:Array TypeId)(ty:TypeId):
  ∃u,(Builtin.min_ c ty vs.toArray).run P w=.ok u w∧Rep μ h w a u:=by
 cases l with
 |nil=>simp[Zwv]at e
 |cons b r =>
  obtain⟨v,g,rfl,j,h2⟩:=d;cases b with
  |int k y =>
   have:v=.int k y:=j;subst this;obtain⟨u,h3,p⟩:=Zh3 (P:=P) r g k y a e h2;exact⟨u,by simpa[Builtin.min_]using h3,p⟩
  |_=>simp[Zwv]at e
theorem Zph{l:List AV}{vs:List Value}{a:AV}(e:Zun l=some a)(d:RepL μ h w l vs)(c:Array TypeId)(ty:TypeId):
  ∃u,(Builtin.max_ c ty vs.toArray).run P w=.ok u w∧Rep μ h w a u:=by
 cases l with
 |nil=>simp[Zun]at e
 |cons b r =>
  obtain⟨v,g,rfl,j,h2⟩:=d;cases b with
  |int k y =>
   have:v=.int k y:=j;subst this;obtain⟨u,h3,p⟩:=Zjs (P:=P) r g k y a e h2;exact⟨u,by simpa[Builtin.max_]using h3,p⟩
  |_=>simp[Zun]at e
theorem Zgy(op:BinOp)(t:TypeId)(x y:Operand)(k k':IntKind)(a b:Int):(eqGuard op t x y (.int k a) (.int k' b)).run P w=.ok () w:=by cases op<;>simp[eqGuard]
theorem ZoC(op:BinOp)(t:TypeId)(x y:Operand)(a b:ByteArray):(eqGuard op t x y (.string a) (.string b)).run P w=.ok () w:=by cases op<;>simp[eqGuard]
theorem Zo3{a b:Int}(e:ZxK op k a b=some x):
  ∃u,(binOp op t (.int k a) (.int k b)).run P w=.ok u w∧Rep μ h w x u:=by
 cases op<;>simp only[ZxK,reduceCtorEq,Va]at e
 case add=>subst e;exact⟨_,by simp[binOp,Op.intArith];rfl,rfl⟩
 case sub=>subst e;exact⟨_,by simp[binOp,Op.intArith];rfl,rfl⟩
 case mul=>subst e;exact⟨_,by simp[binOp,Op.intArith];rfl,rfl⟩
 case quo =>
  split at e
  ·simp at e
  rename_i c;simp only[Va]at e;subst e;exact⟨_,by simp[binOp,Op.intDiv,c];rfl,rfl⟩
 case rem =>
  split at e
  ·simp at e
  rename_i c;simp only[Va]at e;subst e;exact⟨_,by simp[binOp,Op.intDiv,c],rfl⟩
 case eql=>subst e;exact⟨_,by simp[binOp,Op.intCmp],rfl⟩
 case neq=>subst e;exact⟨_,by simp[binOp,Op.intCmp],rfl⟩
 case lss=>subst e;exact⟨_,by simp[binOp,Op.intCmp],rfl⟩
 case leq=>subst e;exact⟨_,by simp[binOp,Op.intCmp],rfl⟩
 case gtr=>subst e;exact⟨_,by simp[binOp,Op.intCmp],rfl⟩
 case geq=>subst e;exact⟨_,by simp[binOp,Op.intCmp],rfl⟩
 case shl =>
  split at e
  ·simp at e
  rename_i c;simp only[Va]at e;subst e;exact⟨_,by simp[binOp,Op.shift,c];rfl,rfl⟩
 case shr =>
  split at e
  ·simp at e
  rename_i c;simp only[Va]at e;subst e;exact⟨_,by simp[binOp,Op.shift,c];rfl,rfl⟩
 case and=>subst e;exact⟨_,by simp[binOp,Op.intBits];rfl,rfl⟩
 case or=>subst e;exact⟨_,by simp[binOp,Op.intBits];rfl,rfl⟩
 case xor=>subst e;exact⟨_,by simp[binOp,Op.intBits];rfl,rfl⟩
theorem Zlr{k k':IntKind}{a b:Int}(e:Zlc op k a b=some x):
  ∃u,(binOp op t (.int k a) (.int k' b)).run P w=.ok u w∧Rep μ h w x u:=by
 cases op<;>simp only[Zlc,reduceCtorEq]at e
 case shl =>
  split at e
  ·simp at e
  rename_i c;simp only[Va]at e;subst e;exact⟨_,by simp[binOp,Op.shift,c];rfl,rfl⟩
 case shr =>
  split at e
  ·simp at e
  rename_i c;simp only[Va]at e;subst e;exact⟨_,by simp[binOp,Op.shift,c];rfl,rfl⟩
theorem Zp0{a b:List UInt8}(e:Zyt op a b=some x):
  ∃u,(binOp op t (.string ⟨a.toArray⟩) (.string ⟨b.toArray⟩)).run P w=.ok u w∧Rep μ h w x u:=by
 have c:(⟨a.toArray⟩:ByteArray).size=a.length:=rfl;have d:(⟨b.toArray⟩:ByteArray).size=b.length:=rfl;cases op<;>simp only[Zyt,reduceCtorEq,Va]at e
 case add =>
  split at e
  ·rename_i g;simp only[Va]at e;subst e;have j:¬(((a.length+b.length:Nat):Int)>IntKind.i64.max):=by
    have:IntKind.i64.max=9223372036854775807:=by decide
    rw[this];simp only[Xa]at g;omega
   refine⟨.string ((⟨a.toArray⟩:ByteArray)++⟨b.toArray⟩),?_,?_⟩
   ·simp only[binOp,Op.stringOp,c,d,Vm j,V0]
   show _=_;have p:(⟨a.toArray⟩:ByteArray)++⟨b.toArray⟩=⟨(a++b).toArray⟩:=by apply ByteArray.ext;rw[ByteArray.data_append];apply UX;simp
   rw[p]
  simp at e
 case eql=>subst e;exact⟨_,by simp[binOp,Op.stringOp],rfl⟩
 case neq=>subst e;exact⟨_,by simp[binOp,Op.stringOp],rfl⟩
 case lss=>subst e;exact⟨_,by simp[binOp,Op.stringOp],rfl⟩
 case leq=>subst e;exact⟨_,by simp[binOp,Op.stringOp],rfl⟩
 case gtr=>subst e;exact⟨_,by simp[binOp,Op.stringOp],rfl⟩
 case geq=>subst e;exact⟨_,by simp[binOp,Op.stringOp],rfl⟩
theorem ZAC(e:ZiQ P t=some .int):∃k,P.underlying t=some (.int k):=by unfold ZiQ at e;split at e<;>simp_all
theorem ZyL(e:ZiQ P t=some .bool):P.underlying t=some .bool:=by unfold ZiQ at e;split at e<;>simp_all
theorem ZBL(e:ZiQ P t=some .str):P.underlying t=some .string:=by unfold ZiQ at e;split at e<;>simp_all
theorem Zfo{k:FK}(e:ZiQ P t=some k):(isAgg t).run P w=.ok false w:=by unfold ZiQ at e;split at e<;>simp_all[isAgg,underlying]
theorem Zfi{k:FK}{b:AV}(d:Nat)(j:ZiQ P t=some k)(e:Zhv k a b=some r)(p:Rep μ h w a va)(q:Rep μ h w b vb):
  (Op.equalIn (d+1) t va vb).run P w=.ok r w:=by
 unfold Zhv at e;split at e
 ·rename_i A x B y;obtain⟨C,D⟩:=ZAC j;have c:va=.int A x:=p;have g:vb=.int B y:=q;split at e
  ·rename_i s;subst s c g;simp only[Va]at e;subst e;exact run_equalIn_int w d t A C x y D
  simp at e
 ·rename_i x y;have c:va=.bool x:=p;have g:vb=.bool y:=q;subst c g;simp only[Va]at e;subst e;exact PF w d t x y (ZyL j)
 ·rename_i x y;have c:va=.string ⟨x.toArray⟩:=p;have g:vb=.string ⟨y.toArray⟩:=q;subst c g;simp only[Va]at e;subst e;rw[run_equalIn_string w d t _ _ (ZBL j)];simp
 simp at e
theorem ZcO(d:Nat)(xs ys:List Value):∀(fs:List Field) (n:Nat) (ks:List FK) (a b:List AV) (r:Bool),Jd P n fs=some ks→XE ks a b=some r →
  RepL μ h w a (xs.drop n)→RepL μ h w b (ys.drop n)→(Op.eqFields (d+1) xs.toArray ys.toArray fs).run P w=.ok r w
 |[],n,ks,a,b,r,c,e,_,_=>by simp only[Jd,Va]at c;subst c;cases a<;>cases b<;>simp[XE]at e;subst e;simp[Op.eqFields]
 |f::fs,n,ks,a,b,r,c,e,H,J=>by
  simp only[Jd]at c;split at c
  ·rename_i g;split at c
   ·rename_i k j;split at c
    ·rename_i p q;simp only[Va]at c;subst c;cases a with
     |nil=>simp[XE]at e
     |cons a0 a =>
      cases b with
      |nil=>simp[XE]at e
      |cons Y b =>
       simp only[XE]at e;split at e
       ·rename_i x L;split at e
        ·rename_i y N;simp only[Va]at e;obtain⟨va,O,F,h2,h3⟩:=H;obtain⟨vb,Q,G,S,U⟩:=J;have s:xs[n]?=some va:=by have:=congrArg (fun l=>l[0]?) F;simpa using this
         have A:ys[n]?=some vb:=by have:=congrArg (fun l=>l[0]?) G;simpa using this
         have B:xs.drop (n+1)=O:=by rw[←Sx,F];rfl
         have C:ys.drop (n+1)=Q:=by rw[←Sx,G];rfl
         have W:=ZcO d xs ys fs (n+1) p a b y q N (by rw[B];exact h3) (by rw[C];exact U);have D:(Go.part f.type xs.toArray f.offset).run P w=.ok va w:=by simp[Go.part,Zfo j,g.1,s]
         have E:(Go.part f.type ys.toArray f.offset).run P w=.ok vb w:=by simp[Go.part,Zfo j,g.1,A]
         have X:=Zfi d j L h2 S;rw[Op.eqFields,Vr g.2];simp only[VQ,D,E,X,VF,Se];cases x
         ·simp[←e]
         simp[W,←e]
        simp at e
       simp at e
    simp at c
   simp at c
  simp at c
theorem ZcA:∀(ks l:List FK) (a b:List AV) (r:Bool),XE (ks++l) a b=some r→∃c g d j p q,a=c++g∧b=d++j∧c.length=ks.length∧d.length=ks.length∧XE ks c d=some p∧XE l g j=some q∧r=(p&&q)
 |[],l,a,b,r,e=>⟨[],a,[],b,true,r,rfl,rfl,rfl,rfl,rfl,e,by simp⟩
 |k::ks,l,[],b,r,e=>by cases b<;>simp[XE]at e
 |k::ks,l,a0::a,[],r,e=>by simp[XE]at e
 |k::ks,l,a0::a,s::b,r,e=>by
  simp only[Vl,XE]at e;split at e
  ·rename_i x A;split at e
   ·rename_i y B;obtain⟨c,g,d,j,p,q,rfl,rfl,h3,C,D,E,rfl⟩:=ZcA ks l a b y B;refine⟨a0::c,g,s::d,j,x&&p,q,rfl,rfl,by simp[h3],by simp[C],by simp only[XE,A,D],E,?_⟩;simp only[Va]at e;rw[←e,Bool.and_assoc]
   simp at e
  simp at e
theorem Zec:∀(d g:List AV) (vs:List Value),RepL μ h w (d++g) vs→∃c j,vs=c++j∧c.length=d.length∧RepL μ h w d c∧RepL μ h w g j
 |[],g,vs,r=>⟨[],vs,rfl,rfl,rfl,r⟩
 |a::d,g,vs,r=>by obtain⟨v,p,rfl,q,h2⟩:=r;obtain⟨c,j,rfl,h3,s,A⟩:=Zec d g p h2;exact⟨v::c,j,rfl,by simp[h3],⟨v,c,rfl,q,s⟩,A⟩
theorem Zly{ks:List FK}(e:Zls P t=some ks):∃fs:Array Field,P.underlying t=some (.struct fs)∧sh P t=some (.agg ks.length)∧P.stoodInHeld t=false∧Jd P 0 fs.toList=some ks:=by
 unfold Zls at e;split at e
 ·rename_i fs n c hs;split at e
  ·rename_i d;split at e
   ·rename_i l g;split at e
    ·rename_i j;obtain rfl:=Ux e;exact⟨fs,c,by rw[j];exact hs,d,g⟩
    simp at e
   simp at e
  simp at e
 simp at e
theorem JL(d:Nat)(xs ys:List Value):∀(fs:List Field) (n:Nat) (ks:List FK) (a b:List AV) (r:Bool),WE P n fs=some ks→XE ks a b=some r →
  RepL μ h w a (xs.drop n)→RepL μ h w b (ys.drop n)→(Op.eqFields (d+2) xs.toArray ys.toArray fs).run P w=.ok r w
 |[],n,ks,a,b,r,c,e,_,_=>by simp only[WE,Va]at c;subst c;cases a<;>cases b<;>simp[XE]at e;subst e;simp[Op.eqFields]
 |f::fs,n,ks,a,b,r,c,e,ha,hb=>by
  simp only[WE]at c;split at c
  ·rename_i B;split at c
   ·rename_i k N;split at c
    ·rename_i g j;simp only[Va]at c;subst c;obtain⟨O,G,Q,H,x,y,rfl,rfl,l1,l2,C,S,rfl⟩:=ZcA [k] g a b r e;obtain⟨a0,rfl⟩:=Pg.1 l1;obtain⟨b0,rfl⟩:=Pg.1 l2;obtain⟨va,xr,D,h2,h3⟩:=ha;obtain⟨vb,yr,E,U,W⟩:=hb;have X:Zhv k a0 b0=some x:=by
      simp only[XE]at C;split at C
      ·rename_i z hz;simpa[hz]using C
      simp at C
     have Y:xs[n]?=some va:=by have:=congrArg (fun l=>l[0]?) D;simpa using this
     have Z:ys[n]?=some vb:=by have:=congrArg (fun l=>l[0]?) E;simpa using this
     have p:xs.drop (n+1)=xr:=by rw[←Sx,D];rfl
     have q:ys.drop (n+1)=yr:=by rw[←Sx,E];rfl
     have ih:=JL d xs ys fs (n+1) g G H y j S (by rw[p];exact h3) (by rw[q];exact W);have s:(Go.part f.type xs.toArray f.offset).run P w=.ok va w:=by simp[Go.part,Zfo N,B.1,Y]
     have A:(Go.part f.type ys.toArray f.offset).run P w=.ok vb w:=by simp[Go.part,Zfo N,B.1,Z]
     have he:=Zfi (d+1) N X h2 U;rw[Op.eqFields,Vr B.2];simp only[VQ,s,A,he,VF,Se];cases x
     ·simp
     simp[ih]
    simp at c
   split at c
   ·rename_i l hl;split at c
    ·rename_i g j;simp only[Va]at c;subst c;obtain⟨gs,hu,a3,a4,a5⟩:=Zly hl;obtain⟨O,G,Q,H,x,y,rfl,rfl,l1,l2,C,S,rfl⟩:=ZcA l g a b r e;obtain⟨J,v2,D,n1,h2,h3⟩:=Zec O G _ ha;obtain⟨L,u2,E,n2,U,W⟩:=Zec Q H _ hb;have p:xs.drop (n+l.length)=v2:=by rw[←Sx,D,List.drop_left' (by omega)]
     have q:ys.drop (n+l.length)=u2:=by rw[←Sx,E,List.drop_left' (by omega)]
     have ih:=JL d xs ys fs (n+l.length) g G H y j S (by rw[p];exact h3) (by rw[q];exact W);obtain⟨g1,g2⟩:=Zo5 (P:=P) (w:=w) a3;have a6:xs.toArray.extract n (n+l.length)=J.toArray:=by apply UX;simp only[Pu,S8,Uw];rw[D,PT (by omega)]
     have a7:ys.toArray.extract n (n+l.length)=L.toArray:=by apply UX;simp only[Pu,S8,Uw];rw[E,PT (by omega)]
     have s:(Go.part f.type xs.toArray f.offset).run P w=.ok (.agg J.toArray) w:=by simp only[Go.part,VQ,VF,g1,V7,g2,V0,B.1,a6]
     have A:(Go.part f.type ys.toArray f.offset).run P w=.ok (.agg L.toArray) w:=by simp only[Go.part,VQ,VF,g1,V7,g2,V0,B.1,a7]
     have F:P.fieldsOf f.type=gs:=by unfold Program.fieldsOf;rw[hu]
     have he:(Op.equalIn (d+2) f.type (.agg J.toArray) (.agg L.toArray)).run P w=.ok x w:=by rw[run_equalIn_agg (P:=P) w (d+1) f.type _ _ (by rw[F];exact hu) a4,F];exact ZcO d J L gs.toList 0 l O Q x a5 C (by simpa using h2) (by simpa using U)
     rw[Op.eqFields,Vr B.2];simp only[VQ,s,A,he,VF,Se];cases x
     ·simp
     simp[ih]
    simp at c
   simp at c
  simp at c
theorem ZrX{ks:List FK}(e:flat P t=some ks):∃fs:Array Field,P.underlying t=some (.struct fs)∧P.stoodInHeld t=false∧P.eqGuardType P.depth t=false∧WE P 0 fs.toList=some ks:=by
 unfold flat at e;split at e
 ·rename_i fs d;split at e
  ·rename_i c;exact⟨fs,d,c.1,c.2,e⟩
  simp at e
 simp at e
theorem ZxY:match ck P t with
  |.bool=>P.underlying t=some .bool
  |.iface=>∃ms,P.underlying t=some (.interface ms)
  |.ptr=>∃e,P.underlying t=some (.pointer e)
  |.fn=>∃a b c,P.underlying t=some (.func a b c)
  |.map=>∃a b,P.underlying t=some (.map a b)
  |.flat ks=>flat P t=some ks
  |.no=>True:=by
 unfold ck;cases g:P.underlying t with
 |none=>simp only[];cases flat P t<;>simp
 |some d=>cases d<;>simp only[]<;>first
  |exact⟨_,rfl⟩
  |exact⟨_,_,rfl⟩
  |exact⟨_,_,_,rfl⟩
  |rfl
  |(cases flat P t<;>simp)
theorem ZC3(d:Nat){ms}(c:P.underlying t=some (.interface ms)):(Op.equalIn (d+1) t .nilIface .nilIface).run P w=.ok true w:=by simp[Op.equalIn,Vs c]
theorem ZCh(d:Nat){ms}(c:P.underlying t=some (.interface ms))(u:TypeId)(x:Value):(Op.equalIn (d+1) t .nilIface (.iface u x)).run P w=.ok false w:=by simp[Op.equalIn,Vs c]
theorem ZCy(d:Nat){ms}(c:P.underlying t=some (.interface ms))(u:TypeId)(x:Value):(Op.equalIn (d+1) t (.iface u x) .nilIface).run P w=.ok false w:=by simp[Op.equalIn,Vs c]
theorem ZCm(d:Nat)(c:P.underlying t=some (.pointer e)):(Op.equalIn (d+1) t (.pointer none) (.pointer none)).run P w=.ok true w:=by simp[Op.equalIn,Vs c]
theorem ZCw(d:Nat)(c:P.underlying t=some (.pointer e))(a:Addr):(Op.equalIn (d+1) t (.pointer none) (.pointer (some a))).run P w=.ok false w:=by simp[Op.equalIn,Vs c]
theorem ZqR(d:Nat)(c:P.underlying t=some (.pointer e))(a:Addr):(Op.equalIn (d+1) t (.pointer (some a)) (.pointer none)).run P w=.ok false w:=by simp[Op.equalIn,Vs c]
theorem ZCu(d:Nat){x y z}(c:P.underlying t=some (.func x y z)):(Op.equalIn (d+1) t .nilFunc .nilFunc).run P w=.ok true w:=by simp[Op.equalIn,Vs c]
theorem Zz9(d:Nat){x y z}(c:P.underlying t=some (.func x y z))(f:Fn)(a b:Array Value):(Op.equalIn (d+1) t (.func f a b) .nilFunc).run P w=.ok false w:=by simp[Op.equalIn,Vs c]
theorem ZDn(d:Nat){x y z}(c:P.underlying t=some (.func x y z))(f:Fn)(a b:Array Value):(Op.equalIn (d+1) t .nilFunc (.func f a b)).run P w=.ok false w:=by simp[Op.equalIn,Vs c]
theorem ZCl(d:Nat){x y}(c:P.underlying t=some (.map x y)):(Op.equalIn (d+1) t (.map none) (.map none)).run P w=.ok true w:=by simp[Op.equalIn,Vs c]
theorem ZC0(d:Nat){x y}(c:P.underlying t=some (.map x y))(b:Nat):(Op.equalIn (d+1) t (.map (some b)) (.map none)).run P w=.ok false w:=by simp[Op.equalIn,Vs c]
theorem XT(c:binOp .eql t va vb=(do pure (.bool (←Op.equal t va vb))))(h2:(Op.equalIn (9999+1) t va vb).run P w=.ok r w):∀z,z=r→(binOp .eql t va vb).run P w=.ok (.bool z) w:=by rintro z rfl;rw[c];simp only[Op.equal,Op.maxDepth,VQ];rw[h2];rfl
theorem XS(c:binOp .neq t va vb=(do pure (.bool (!(←Op.equal t va vb)))))(h2:(Op.equalIn (9999+1) t va vb).run P w=.ok r w):(binOp .neq t va vb).run P w=.ok (.bool (!r)) w:=by rw[c];simp only[Op.equal,Op.maxDepth,VQ];rw[h2];rfl
theorem ZjO{kc:Bool}{x:Operand}{b:AV}(op:BinOp)(F:kc=(Qx x||Qx y))(e:eqV kc (ck P t) a b=some r)(s:Rep μ h w a va)(A:Rep μ h w b vb):
  (eqGuard op t x y va vb).run P w=.ok () w∧(∀z,z=r→(binOp .eql t va vb).run P w=.ok (.bool z) w)∧(binOp .neq t va vb).run P w=.ok (.bool (!r)) w:=by
 have hs:=ZxY (P:=P) (t:=t);unfold eqV at e;split at e
 ·rename_i p q c;rw[c]at hs;have j:va=.bool p:=s;have B:vb=.bool q:=A;subst j B;simp only[Va]at e;subst e;refine⟨by cases op<;>simp[eqGuard],?_,?_⟩
  ·exact XT rfl (PF w 9999 t p q hs)
  exact XS rfl (PF w 9999 t p q hs)
 ·rename_i ks p q c;rw[c]at hs;obtain⟨fs,g,O,h2,h3⟩:=ZrX hs;obtain⟨xs,rfl,G⟩:=s;obtain⟨ys,rfl,H⟩:=A;have C:P.fieldsOf t=fs:=by unfold Program.fieldsOf;rw[g]
  have d:=run_equalIn_agg (P:=P) w 9999 t xs.toArray ys.toArray (by rw[C];exact g) O;rw[C,JL (P:=P) 9997 xs ys fs.toList 0 ks p q r h3 e (by simpa using G) (by simpa using H)]at d;refine⟨run_eqGuard_agg w op t x y _ _ h2,?_,?_⟩
  ·rintro z rfl;rw[run_eql_struct,d];rfl
  rw[run_neq_struct,d];rfl
 ·rename_i c;rw[c]at hs;obtain⟨ms,g⟩:=hs;have j:va=.nilIface:=s;have B:vb=.nilIface:=A;subst j B;split at e
  ·rename_i N;simp only[Va]at e;subst e;have d:=ZC3 (P:=P) (w:=w) 9999 g;refine⟨?_,?_,?_⟩
   ·rw[F]at N;cases x<;>cases y<;>simp[Qx]at N<;>cases op<;>simp[eqGuard]
   ·exact XT rfl d
   exact XS rfl d
  simp at e
 ·rename_i u q c;rw[c]at hs;obtain⟨ms,g⟩:=hs;have j:va=.nilIface:=s;obtain⟨J,rfl,_⟩:=A;subst j;simp only[Va]at e;subst e;have d:=ZCh (P:=P) (w:=w) 9999 g u J;exact⟨by cases op<;>simp[eqGuard],XT rfl d,XS rfl d⟩
 ·rename_i u q c;rw[c]at hs;obtain⟨ms,g⟩:=hs;have j:vb=.nilIface:=A;obtain⟨J,rfl,_⟩:=s;subst j;simp only[Va]at e;subst e;have d:=ZCy (P:=P) (w:=w) 9999 g u J;exact⟨by cases op<;>simp[eqGuard],XT rfl d,XS rfl d⟩
 ·rename_i c;rw[c]at hs;obtain⟨u,g⟩:=hs;have j:va=.pointer none:=s;have B:vb=.pointer none:=A;subst j B;simp only[Va]at e;subst e;have d:=ZCm (P:=P) (w:=w) 9999 g;exact⟨by cases op<;>simp[eqGuard],XT rfl d,XS rfl d⟩
 ·rename_i l o c;rw[c]at hs;obtain⟨u,g⟩:=hs;have j:va=.pointer none:=s;obtain⟨_,b,_,_,rfl⟩:=A;subst j;simp only[Va]at e;subst e;have d:=ZCw (P:=P) (w:=w) 9999 g ⟨b,o,none⟩;exact⟨by cases op<;>simp[eqGuard],XT rfl d,XS rfl d⟩
 ·rename_i l o c;rw[c]at hs;obtain⟨u,g⟩:=hs;have j:vb=.pointer none:=A;obtain⟨_,b,_,_,rfl⟩:=s;subst j;simp only[Va]at e;subst e;have d:=ZqR (P:=P) (w:=w) 9999 g ⟨b,o,none⟩;exact⟨by cases op<;>simp[eqGuard],XT rfl d,XS rfl d⟩
 ·rename_i l n i o c;rw[c]at hs;obtain⟨u,g⟩:=hs;have j:vb=.pointer none:=A;obtain⟨z,rs,wr,b,_,_,rfl,_⟩:=s;subst j;simp only[Va]at e;subst e;have d:=ZqR (P:=P) (w:=w) 9999 g ⟨b,i*z+o,none⟩;exact⟨by cases op<;>simp[eqGuard],XT rfl d,XS rfl d⟩
 ·rename_i row o c;rw[c]at hs;obtain⟨u,g⟩:=hs;have j:vb=.pointer none:=A;obtain⟨b,p,rfl,_⟩:=s;subst j;simp only[Va]at e;subst e;have d:=ZqR (P:=P) (w:=w) 9999 g ⟨b,p+o,none⟩;exact⟨by cases op<;>simp[eqGuard],XT rfl d,XS rfl d⟩
 ·rename_i Q l o c;rw[c]at hs;obtain⟨u,g⟩:=hs;have j:vb=.pointer none:=A;obtain⟨_,b,_,_,rfl,_⟩:=s;subst j;simp only[Va]at e;subst e;have d:=ZqR (P:=P) (w:=w) 9999 g ⟨b,o,none⟩;exact⟨by cases op<;>simp[eqGuard],XT rfl d,XS rfl d⟩
 ·rename_i c;rw[c]at hs;obtain⟨D,E,L,g⟩:=hs;have j:va=.nilFunc:=s;have B:vb=.nilFunc:=A;subst j B;simp only[Va]at e;subst e;have d:=ZCu (P:=P) (w:=w) 9999 g;exact⟨by cases op<;>simp[eqGuard],XT rfl d,XS rfl d⟩
 ·rename_i f cs c;rw[c]at hs;obtain⟨D,E,L,g⟩:=hs;have B:vb=.nilFunc:=A;obtain⟨vs,rfl,_⟩:=s;subst B;simp only[Va]at e;subst e;have d:=Zz9 (P:=P) (w:=w) 9999 g (.func f) #[] vs.toArray;exact⟨by cases op<;>simp[eqGuard],XT rfl d,XS rfl d⟩
 ·rename_i f cs c;rw[c]at hs;obtain⟨D,E,L,g⟩:=hs;have B:vb=.nilFunc:=A;obtain⟨vs,rfl,_⟩:=s;subst B;simp only[Va]at e;subst e;have d:=Zz9 (P:=P) (w:=w) 9999 g (.func f) vs.toArray #[];exact⟨by cases op<;>simp[eqGuard],XT rfl d,XS rfl d⟩
 ·rename_i f cs c;rw[c]at hs;obtain⟨D,E,L,g⟩:=hs;have B:va=.nilFunc:=s;obtain⟨vs,rfl,_⟩:=A;subst B;simp only[Va]at e;subst e;have d:=ZDn (P:=P) (w:=w) 9999 g (.func f) #[] vs.toArray;exact⟨by cases op<;>simp[eqGuard],XT rfl d,XS rfl d⟩
 ·rename_i c;rw[c]at hs;obtain⟨D,E,g⟩:=hs;have j:va=.map none:=s;have B:vb=.map none:=A;subst j B;simp only[Va]at e;subst e;have d:=ZCl (P:=P) (w:=w) 9999 g;exact⟨by cases op<;>simp[eqGuard],XT rfl d,XS rfl d⟩
 ·rename_i l c;rw[c]at hs;obtain⟨D,E,g⟩:=hs;obtain⟨es,b,_,_,rfl⟩:=s;have B:vb=.map none:=A;subst B;simp only[Va]at e;subst e;have d:=ZC0 (P:=P) (w:=w) 9999 g b;exact⟨by cases op<;>simp[eqGuard],XT rfl d,XS rfl d⟩
 simp at e
theorem ZpN{t ty:TypeId}{kc:Bool}{x:Operand}{b z:AV}(op:BinOp)(g:kc=(Qx x||Qx y))(e:Zvl P op t kc a b=some z)(j:Rep μ h w a va)(s:Rep μ h w b vb):
  ∃u,(do eqGuard op t x y va vb;binOp op t va vb:Sem Value).run P w=.ok u w∧Rep μ h w z u:=by
 unfold Zvl at e;split at e
 ·rename_i k p k' q;have A:va=.int k p:=j;have B:vb=.int k' q:=s;subst A B;split at e
  ·rename_i C;subst C;obtain⟨u,c,h2⟩:=Zo3 (P:=P) (t:=t) (μ:=μ) (h:=h) (w:=w) e;exact⟨u,by simp[Zgy,c],h2⟩
  obtain⟨u,c,h2⟩:=Zlr (P:=P) (t:=t) (k':=k') (μ:=μ) (h:=h) (w:=w) e;exact⟨u,by simp[Zgy,c],h2⟩
 ·rename_i p q;have A:va=.string ⟨p.toArray⟩:=j;have B:vb=.string ⟨q.toArray⟩:=s;subst A B;obtain⟨u,c,h2⟩:=Zp0 (P:=P) (t:=t) (μ:=μ) (h:=h) (w:=w) e;exact⟨u,by simp[ZoC,c],h2⟩
 unfold Zvs at e;split at e
 ·cases d:eqV kc (ck P t) a b with
  |none=>simp[d,Zsd]at e
  |some r =>
   simp only[d,Zsd,Va]at e;subst e;obtain⟨c,h2,_⟩:=ZjO (P:=P) .eql g d j s;exact⟨.bool r,by simp[c,h2 r rfl],rfl⟩
 ·cases d:eqV kc (ck P t) a b with
  |none=>simp[d,ZrJ]at e
  |some r =>
   simp only[d,ZrJ,Va]at e;subst e;obtain⟨c,_,h3⟩:=ZjO (P:=P) .neq g d j s;exact⟨.bool (!r),by simp[c,h3],rfl⟩
 simp at e
theorem ZzP(d:Nat)(g:P.underlying t=some (.slice e))(base:Option Addr)(n c:Nat):(Op.equalIn (d+1) t (.slice base n c) (.slice none 0 0)).run P w=.ok base.isNone w:=by cases base<;>simp[Op.equalIn,Vs g]
theorem Zjq{b:Bool}{p:Za}(hh:p=h∨p=[])(e:ZiM p a=some b)(j:Rep μ h w a v):∃base n c,v=.slice base n c∧base.isNone=b:=by
 unfold ZiM at e;split at e
 ·simp only[Va]at e;subst e;have:v=.slice none 0 0:=j;exact⟨none,0,0,this,rfl⟩
 ·simp only[Va]at e;subst e;obtain⟨base,cap,s,h2⟩:=j;exact⟨base,0,cap,s,h2⟩
 ·split at e
  ·simp at e
  rename_i rs d;simp only[Va]at e;subst e;obtain⟨base,cap,rfl,_,q⟩:=j;rcases q with rfl|⟨b,o,z,rfl,_⟩
  ·simp at d
  exact⟨_,_,_,rfl,rfl⟩
 ·split at e
  ·simp at e
  rename_i rs d;simp only[Va]at e;subst e;obtain⟨base,rfl,q⟩:=j;rcases q with rfl|⟨b,o,z,rfl,_⟩
  ·simp at d
  exact⟨_,_,_,rfl,rfl⟩
 ·rename_i l n;rcases hh with rfl|rfl
  case inr=>simp at e
  split at e
  ·rename_i z rs wr A;split at e
   ·rename_i B;simp only[Va]at e;subst e;obtain⟨z',C,D,base,cap,g,_,rfl,E⟩:=j;rw[A]at g;simp only[Va,Blk.rows.injEq]at g;obtain⟨rfl,rfl,rfl⟩:=g;obtain⟨s,_,h3⟩:=E B.1.symm;rcases h3 with⟨rfl,F⟩|⟨b,vs,T,rfl,_⟩
    ·omega
    exact⟨_,_,_,rfl,rfl⟩
   simp at e
  simp at e
 simp at e
theorem ZoJ{t ty:TypeId}{x:Operand}{b z:AV}{p:Za}(hh:p=h∨p=[])(op:BinOp)(e:Zis P op t p a b=some z)(B:Rep μ h w a va)(D:Rep μ h w b vb):
  ∃u,(do eqGuard op t x y va vb;binOp op t va vb:Sem Value).run P w=.ok u w∧Rep μ h w z u:=by
 unfold Zis at e;split at e
 ·split at e
  ·rename_i d;have s:vb=.slice none 0 0:=D;subst s;unfold ZoX at d;split at d
   ·rename_i E C;unfold Zvs at e;split at e
    ·cases g:ZiM p a with
     |none=>simp[g,Zsd]at e
     |some r =>
      simp only[g,Zsd,Va]at e;subst e;obtain⟨base,n,c,rfl,j⟩:=Zjq hh g B;have q:=ZzP (P:=P) (w:=w) 9999 C base n c;rw[j]at q;have A:(eqGuard .eql t x y (.slice base n c) (.slice none 0 0)).run P w=.ok () w:=by simp[eqGuard]
      exact⟨.bool r,by simp only[VQ,A,VF];exact XT rfl q r rfl,rfl⟩
    ·cases g:ZiM p a with
     |none=>simp[g,ZrJ]at e
     |some r =>
      simp only[g,ZrJ,Va]at e;subst e;obtain⟨base,n,c,rfl,j⟩:=Zjq hh g B;have q:=ZzP (P:=P) (w:=w) 9999 C base n c;rw[j]at q;have A:(eqGuard .neq t x y (.slice base n c) (.slice none 0 0)).run P w=.ok () w:=by simp[eqGuard]
      exact⟨.bool (!r),by simp only[VQ,A,VF];exact XS rfl q,rfl⟩
    simp at e
   simp at d
  simp at e
 simp at e
theorem Zr0{op:UnOp}(e:aUn op a=some x)(c:Rep μ h w a v):∃u,(Op.unary op v).run P w=.ok u w∧Rep μ h w x u:=by
 unfold aUn at e;split at e
 ·rename_i b;have:v=.bool b:=c;subst this;simp only[Va]at e;subst e;exact⟨_,by simp[Op.unary],rfl⟩
 ·rename_i k n;have:v=.int k n:=c;subst this;simp only[Va]at e;subst e;exact⟨.int k (k.wrap (0-n)),by simp[Op.unary,Op.intArith],rfl⟩
 simp at e
theorem Ext.alloc(s:Rel μ h w)(o:Obj):Ext μ h w μ h (w.alloc o) where
 out:=rfl
 still:=rfl
 os:=rfl
 tape:=rfl
 output:=rfl
 size:=by simp
 len:=Vw _
 maps:=fun _ es d=>⟨⟨es,d⟩,rfl⟩
 keep:=fun b A v g j=>by
  refine⟨?_,j⟩;have c:b<w.heap.size:=by
   by_cases c:b<w.heap.size
   ·exact c
   simp[World.cell?,Uz (S6 c)]at g
  rw[World.cell?_alloc_lt _ _ _ c];exact g
 outside:=fun b c p=>⟨by simp only[World.alloc];rw[SL,Vm (by omega)],p⟩
 cells:=fun _ cs d=>⟨⟨cs,d⟩,rfl⟩
 rows:=fun _ _ rs wr d=>⟨rs,wr,d,Vw _,fun _=>rfl⟩
 sizes:=fun b vs T c=>by refine⟨vs,?_,rfl⟩;have q:=c.lt;refine c.eq ?_;simp only[World.alloc];rw[SL,Vm (by omega)]
theorem RowsIn.keep{M M':Nat→Nat→Prop}{w':World}{z:Nat}{rs:List (List AV)}{vs:Array Value}(g:Zcj M w M' w')(hi:RowsIn M w z rs vs):RowsIn M' w' z rs vs:=by intro i row d;obtain⟨j,h2,h3⟩:=hi i row d;refine⟨j,h2,fun c a p=>?_⟩;obtain⟨v,q,s⟩:=h3 c a p;exact⟨v,q,PRep.keep g a v s⟩
theorem RowsN.ext{μ':Mp Bs}{h':Za}{w':World}{z:Nat}{rs:List (List AV)}{vs:Array Value}(e:Ext μ h w μ' h' w')(hi:RowsN μ h w z rs vs):RowsN μ' h' w' z rs vs:=by intro i row d;obtain⟨g,h2,h3⟩:=hi i row d;refine⟨g,h2,fun c a j=>?_⟩;obtain⟨v,p,q⟩:=h3 c a j;exact⟨v,p,Rep.ext e a v q⟩
theorem Rel.ext_same(j:Rel μ h w)(e:Ext μ h w μ h w')(p:∀l b,l<h.length→μ l=some b→w'.heap[b]?=w.heap[b]?):Rel μ h w' where
 inj:=j.inj
 apart:=j.apart
 old:=fun b o A=>Ur (j.old b o A) e.size
 still:=(j.carry e).1
 base:=(j.carry e).2
 blk:=fun l k s=>by
  have g:l<h.length:=(Vb.1 s).1;have:=j.blk l k s;cases k with
  |cells cs =>
   obtain⟨b,vs,T,d,h2,h3,q⟩:=this;exact⟨b,vs,T,d,by rw[p l b g d];exact h2,h3,RepL.ext e cs vs q⟩
  |rows z rs wr =>
   rcases this with B|⟨b,vs,T,d,h2,h3,q⟩
   ·exact .inl B
   exact .inr ⟨b,vs,T,d,h2.eq (p l b g d),h3,q.ext e⟩
  |hole=>exact this
  |map es =>
   obtain⟨b,ms,c,d,h2,h3⟩:=this;exact⟨b,ms,c,d,by rw[p l b g d];exact h2,h3.keep e.keep⟩
theorem Rel.mapped(q:Rel μ h w)(s:l<h.length)(g:μ l=some b):b<w.heap.size:=by
 have:=q.blk l _ (VB s);cases p:h[l]with
 |cells cs =>
  rw[p]at this;obtain⟨b',vs,T,d,h2,_⟩:=this;have e:b'=b:=by rw[g]at d;simpa using d.symm
  subst e;exact(Uv.1 h2).1
 |rows z rs wr =>
  rw[p]at this;rcases this with⟨_,j⟩|⟨b',vs,T,d,h2,_⟩
  ·rw[g]at j;simp at j
  have e:b'=b:=by rw[g]at d;simpa using d.symm
  subst e;exact h2.lt
 |hole =>
  rw[p]at this;have j:μ l=none:=this;rw[g]at j;simp at j
 |map es =>
  rw[p]at this;obtain⟨b',ms,c,d,h2,_⟩:=this;have e:b'=b:=by rw[g]at d;simpa using d.symm
  subst e;exact(Uv.1 h2).1
theorem Rel.alloc(c:Rel μ h w)(o:Obj):Rel μ h (w.alloc o) :=
 c.ext_same (Ext.alloc c o) fun l b d g=>by have:=c.mapped d g;simp only[World.alloc];rw[SL,Vm (by omega)]
theorem Ext.heap_eq(d:w'.heap=w.heap)(h2:w'.os=w.os)(h3:w'.tape=w.tape)(g:w'.output=w.output):Ext μ h w μ h w' where
 out:=rfl
 still:=rfl
 os:=h2
 tape:=h3
 output:=g
 size:=by rw[d];exact Vw _
 len:=Vw _
 maps:=fun _ es c=>⟨⟨es,c⟩,rfl⟩
 keep:=fun b o v j p=>⟨by simpa only[World.cell?,d]using j,p⟩
 outside:=fun b _ q=>⟨by rw[d],q⟩
 cells:=fun _ cs c=>⟨⟨cs,c⟩,rfl⟩
 rows:=fun _ _ rs wr c=>⟨rs,wr,c,Vw _,fun _=>rfl⟩
 sizes:=fun b vs T s=>⟨vs,s.eq (by rw[d]),rfl⟩
theorem Rel.heap_eq{w':World}(d:Rel μ h w)(c:w'.heap=w.heap)(h2:w'.os=w.os)(h3:w'.tape=w.tape)(g:w'.output=w.output):Rel μ h w' :=
 d.ext_same (Ext.heap_eq c h2 h3 g) fun _ _ _ _=>by rw[c]
def Quiet(P:Program)(μ:Mp Bs)(h:Za)(w:World)(s:Sem Value)(x:AV):Prop :=
 ∃u w',s.run P w=.ok u w'∧Rel μ h w'∧Ext μ h w μ h w'∧Rep μ h w' x u
theorem Quiet.of_same(c:Rel μ h w){s:Sem Value}(d:∃u,s.run P w=.ok u w∧Rep μ h w x u):Quiet P μ h w s x:=by obtain⟨u,g,h2⟩:=d;exact⟨u,w,g,c,Ext.refl _ _ _,h2⟩
theorem ZhS(e:Zdb a=some x)(g:Rep μ h w a v):((∃p,v=.pointer (some p))∨∃f cs,v=.func (.func f) #[] cs)∧Rep μ h w x v:=by
 unfold Zdb at e;split at e
 ·rename_i l o;simp only[Va]at e;subst e;obtain⟨cs,b,d,h2,rfl⟩:=g;exact⟨.inl ⟨_,rfl⟩,cs,b,d,h2,rfl⟩
 ·rename_i l n i o;simp only[Va]at e;subst e;obtain⟨z,rs,wr,b,d,h2,rfl,h3⟩:=g;exact⟨.inl ⟨_,rfl⟩,z,rs,wr,b,d,h2,rfl,h3⟩
 ·rename_i r o;simp only[Va]at e;subst e;obtain⟨b,p,rfl,d⟩:=g;exact⟨.inl ⟨_,rfl⟩,b,p,rfl,d⟩
 ·rename_i f c;simp only[Va]at e;subst e;obtain⟨vs,rfl,d⟩:=g;exact⟨.inr ⟨f,_,rfl⟩,vs,rfl,d⟩
 ·rename_i t l o;simp only[Va]at e;subst e;obtain⟨cs,b,d,h2,rfl,hh⟩:=g;exact⟨.inl ⟨_,rfl⟩,cs,b,d,h2,rfl,hh⟩
 simp at e
theorem ZmA(e:Zo8 P t a=some x)(g:Rep μ h w a v):∃u,(Instr.makeInterface t v).run P w=.ok u w∧Rep μ h w x u:=by
 unfold Zo8 at e;split at e
 ·simp at e
 ·rename_i d c j;simp only[Va]at e;subst e;refine⟨.iface t v,?_,v,rfl,g⟩;cases d<;>first
   |exact(c _ rfl).elim
   |simp[Instr.makeInterface,Vs j]
 simp at e
theorem ZeW(e:zv P t=some a):∃i z,P.info? t=some i∧i.zero=some z∧a=JW z∧(zeroValue t).run P w=.ok z w:=by
 unfold zv at e;split at e
 ·rename_i i hi;cases c:i.zero with
  |none=>simp[c]at e
  |some z =>
   simp only[c,Ue,Va]at e;exact⟨i,z,hi,c,e.symm,by simp[zeroValue,typeInfo,hi,c]⟩
 simp at e
theorem Zdo(o:Nat):∀(us:List Value) (k:Nat) (cs:Array Value),o+k+us.length≤cs.size →
  ((us.zipIdx k).foldl (fun cs (x:Value×Nat)=>cs.setIfInBounds (o+x.2) x.1) cs).toList=cs.toList.take (o+k)++us++cs.toList.drop (o+k+us.length)
 |[],k,cs,_=>by simp
 |u::us,k,cs,c=>by simp only[VC]at c;simp only[PN,List.foldl_cons];rw[Zdo o us (k+1) _ (by simp;omega)];have:=list_seg_step cs.toList (o+k) u us (by simp;omega);simp only[Array.toList_setIfInBounds,VC];rw[←this];simp only[UL,Nat.add_comm 1]
theorem XX(e:cellsOf a=some cs)(d:Rep μ h w a v):singles cs=true∧RepL μ h w cs v.cells.toList:=by
 cases a with
 |agg l =>
  simp only[cellsOf]at e;split at e
  ·rename_i hs;simp only[Va]at e;subst e;obtain⟨vs,rfl,p⟩:=d;exact⟨hs,p⟩
  simp at e
 |tup _| any=>simp[cellsOf]at e
 |int k n| bool b| str s| nilp| nilf| nili=>simp only[cellsOf,Va]at e;subst e;have:v=_:=d;subst this;exact⟨rfl,_,_,rfl,rfl,rfl⟩
 |emp _=>simp only[cellsOf,Va]at e;subst e;obtain⟨b,c,rfl,hh⟩:=d;exact⟨rfl,_,_,rfl,⟨b,c,rfl,hh⟩,rfl⟩
 |nilm| nils=>simp only[cellsOf,Va]at e;subst e;have:v=_:=d;subst this;exact⟨rfl,_,_,rfl,rfl,rfl⟩
 |rows rs=>simp only[cellsOf,Va]at e;subst e;obtain⟨b,c,rfl,hh⟩:=d;exact⟨rfl,_,_,rfl,⟨b,c,rfl,hh⟩,rfl⟩
 |lit rs=>simp only[cellsOf,Va]at e;subst e;obtain⟨b,rfl,hh⟩:=d;exact⟨rfl,_,_,rfl,⟨b,rfl,hh⟩,rfl⟩
 |rptr r o=>simp only[cellsOf,Va]at e;subst e;obtain⟨b,c,rfl,hh⟩:=d;exact⟨rfl,_,_,rfl,⟨b,c,rfl,hh⟩,rfl⟩
 |fn f j| bnd f j| iface t a=>simp only[cellsOf,Va]at e;subst e;obtain⟨b,rfl,hh⟩:=d;exact⟨rfl,_,_,rfl,⟨b,rfl,hh⟩,rfl⟩
 |ptr l o=>simp only[cellsOf,Va]at e;subst e;obtain⟨b,c,g,h2,rfl⟩:=d;exact⟨rfl,_,_,rfl,⟨b,c,g,h2,rfl⟩,rfl⟩
 |tptr t l o=>simp only[cellsOf,Va]at e;subst e;obtain⟨b,c,g,h2,rfl,hh⟩:=d;exact⟨rfl,_,_,rfl,⟨b,c,g,h2,rfl,hh⟩,rfl⟩
 |town t l n| vw l n a m=>simp only[cellsOf,Va]at e;subst e;obtain⟨z,rs,wr,b,c,g,h2,rfl,h3⟩:=d;exact⟨rfl,_,_,rfl,⟨z,rs,wr,b,c,g,h2,rfl,h3⟩,rfl⟩
 |mp l=>simp only[cellsOf,Va]at e;subst e;obtain⟨es,b,g,h2,rfl⟩:=d;exact⟨rfl,_,_,rfl,⟨es,b,g,h2,rfl⟩,rfl⟩
 |own l n=>simp only[cellsOf,Va]at e;subst e;obtain⟨z,rs,wr,b,c,g,h2,rfl,h3⟩:=d;exact⟨rfl,_,_,rfl,⟨z,rs,wr,b,c,g,h2,rfl,h3⟩,rfl⟩
 |optr l n i o=>simp only[cellsOf,Va]at e;subst e;obtain⟨z,rs,wr,b,g,h2,rfl,h3⟩:=d;exact⟨rfl,_,_,rfl,⟨z,rs,wr,b,g,h2,rfl,h3⟩,rfl⟩
theorem RepL.len{vs:List Value}(r:RepL μ h w cs vs):vs.length=cs.length:=(RepL.at cs vs r).1
theorem RepL.append:∀{a b:List AV} {va vb:List Value},RepL μ h w a va→RepL μ h w b vb→RepL μ h w (a++b) (va++vb)
 |[],_,va,_,c,d=>by have:va=[]:=c;subst this;exact d
 |_::_,_,_,_,c,d=>by obtain⟨v,j,rfl,g,h2⟩:=c;exact⟨v,_,rfl,g,RepL.append h2 d⟩
theorem RepL.take:∀{a:List AV} {va:List Value} (n:Nat),RepL μ h w a va→RepL μ h w (a.take n) (va.take n)
 |_,_,0,_=>by simp[RepL]
 |[],va,n+1,c=>by have:va=[]:=c;subst this;rfl
 |_::_,_,n+1,c=>by obtain⟨v,g,rfl,d,h2⟩:=c;exact⟨v,_,rfl,d,RepL.take n h2⟩
theorem RepL.drop:∀{a:List AV} {va:List Value} (n:Nat),RepL μ h w a va→RepL μ h w (a.drop n) (va.drop n)
 |_,_,0,c=>by simpa using c
 |[],va,n+1,c=>by have:va=[]:=c;subst this;rfl
 |_::_,_,n+1,c=>by obtain⟨v,d,rfl,g,h2⟩:=c;simpa using RepL.drop n h2
theorem RepL.splice{cs c:List AV}{vs us:List Value}(o:Nat)(d:RepL μ h w cs vs)(g:RepL μ h w c us):RepL μ h w (splice cs o c) (vs.take o++us++vs.drop (o+us.length)):=by unfold Go.Ab.splice;rw[g.len];exact((d.take o).append g).append (d.drop _)
theorem ZaF:∀{a b:List AV},singles a=true→singles b=true→singles (a++b)=true
 |[],_,_,c=>c
 |x::a,b,d,c=>by simp only[singles,VA,Vl]at d ⊢;exact⟨d.1,ZaF d.2 c⟩
theorem Zeu:∀{a:List AV} (n:Nat),singles a=true→singles (a.take n)=true
 |_,0,_=>by simp[singles]
 |[],n+1,_=>rfl
 |x::a,n+1,c=>by simp only[singles,VA,UH]at c ⊢;exact⟨c.1,Zeu n c.2⟩
theorem ZeI:∀{a:List AV} (n:Nat),singles a=true→singles (a.drop n)=true
 |_,0,c=>by simpa using c
 |[],n+1,_=>rfl
 |x::a,n+1,c=>by simp only[singles,VA]at c;simpa using ZeI n c.2
theorem ZcX{c:List AV}(o:Nat)(d:singles cs=true)(g:singles c=true):singles (splice cs o c)=true :=
 ZaF (ZaF (Zeu o d) g) (ZeI _ d)
theorem ZbQ{ev:Operand→AV}{ρ:Operand→Value}(E:XF μ h w ev ρ)(pl g:Nat→Option (Nat×Nat))(F:∀i,g i=pl i):∀(c:List (Nat×Operand)) (cs:List AV) (vs:Array Value) (x:AV),
  Zaq pl ev cs c=some x→RepL μ h w cs vs.toList→∃us:Array Value,Instr.fill g vs (c.map fun p=>(p.1,ρ p.2))=some us∧Rep μ h w x (.agg us)
 |[],cs,vs,x,e,q=>by simp only[Zaq,Va]at e;subst e;exact⟨vs,rfl,vs.toList,by simp,q⟩
 |(i,y)::c,cs,vs,x,e,q=>by
  simp only[Zaq]at e;split at e
  ·rename_i o z s;split at e
   ·rename_i A B;split at e
    ·rename_i O;obtain⟨_,G⟩:=XX B (E y);have C:(ρ y).cells.toList.length=A.length:=G.len;have D:vs.toList.length=cs.length:=q.len;have H:(ρ y).cells.size=A.length:=by simpa using C
     have J:vs.size=cs.length:=by simpa using D
     have j:=Zdo o (ρ y).cells.toList 0 vs (by simp;omega);have L:=ZbQ E pl g F c (splice cs o A) ((ρ y).cells.zipIdx.foldl (fun cs (x:Value×Nat)=>cs.setIfInBounds (o+x.2) x.1) vs) x e (by rw[←SV,SM,j];simpa using RepL.splice o q G)
     obtain⟨us,N,h2⟩:=L;refine⟨us,?_,h2⟩;have d:¬((ρ y).cells.size≠z∨o+(ρ y).cells.size>vs.size):=by omega
     simp only[Vz,Instr.fill,F,s,U0,VK,ne_eq,gt_iff_lt]at d ⊢;rw[Vm (by simpa using d)];exact N
    simp at e
   simp at e
  simp at e
theorem ZgV:∀(fs:List Field) (l:List (Nat×Nat)),ZcH P fs=some l→(fs.mapM (fun f=>do pure (f.offset,←sizeOf f.type):Field→Sem (Nat×Nat))).run P w=.ok l w
 |[],l,e=>by simp only[ZcH,Va]at e;subst e;simp
 |f::fs,l,e=>by
  simp only[ZcH]at e;split at e
  ·rename_i i hi;split at e
   ·rename_i l' c;simp only[Va]at e;subst e;have d:=ZgV fs l' c;have hs:(sizeOf f.type).run P w=.ok i.size w:=by simp[sizeOf,typeInfo,hi]
    simp only[List.mapM_cons,VQ,hs,VF,V0];rw[d];rfl
   simp at e
  simp at e
theorem ZnN{ev:Operand→AV}{ρ:Operand→Value}{c:Array (Nat×Operand)}(C:XF μ h w ev ρ)(e:Zeg ev c.toList (plc P t) (zv P t)=some x):
  ∃u,(Instr.build t (c.map fun(i,x)=>(i,ρ x))).run P w=.ok u w∧Rep μ h w x u:=by
 unfold Zeg at e;split at e
 ·rename_i p cs d E;obtain⟨i,z,hi,F,s,g⟩:=ZeW (w:=w) E;have q:Rep μ h w (JW z) z:=Rep.pure _ _ (X9 z);rw[←s]at q;obtain⟨vs,rfl,D⟩:=q;unfold plc at d;split at d
  ·rename_i fs A;split at d
   ·rename_i l G;simp only[Va]at d;subst d;obtain⟨us,B,h2⟩:=ZbQ C (Zfn (.fields l)) (fun i=>l.toArray[i]?) (fun i=>by simp[Zfn]) c.toList cs vs.toArray x e (by simpa using D);refine⟨.agg us,?_,h2⟩;have H:(fs.mapM (fun f=>do pure (f.offset,←sizeOf f.type):Field→Sem (Nat×Nat))).run P w=.ok l.toArray w:=by obtain⟨fl⟩:=fs;rw[List.mapM_toArray,Sem.run_map,ZgV fl l G];rfl
    simp only[Instr.build,VQ,g,VF,Vs A,Value.cells];rw[H];simp only[VF,SP];rw[B];rfl
   simp at d
  ·rename_i n L A;split at d
   ·rename_i j J;simp only[Va]at d;subst d;obtain⟨us,B,h2⟩:=ZbQ C (Zfn (.elems j.size)) (fun i=>some (i*j.size,j.size)) (fun i=>rfl) c.toList cs vs.toArray x e (by simpa using D);refine⟨.agg us,?_,h2⟩;simp only[Instr.build,VQ,g,VF,Vs A,Value.cells,sizeOf,typeInfo,PG,J,V0,SP];rw[B];rfl
   simp at d
  simp at d
 simp at e
theorem PRepL.len{M:Nat→Nat→Prop}:∀{cs:List AV} {vs:List Value},PRepL M w cs vs→vs.length=cs.length
 |[],vs,r=>by have:vs=[]:=r;subst this;rfl
 |_::_,_,r=>by obtain⟨v,c,rfl,_,h2⟩:=r;simp[PRepL.len h2]
theorem PRepL.at{M:Nat→Nat→Prop}:∀{cs:List AV} {vs:List Value},PRepL M w cs vs→∀(i:Nat) (a:AV),cs[i]?=some a→∃v,vs[i]?=some v∧PRep M w a v
 |[],_,_,i,a,e=>by simp at e
 |c::cs,_,r,i,a,e=>by
  obtain⟨v,g,rfl,d,h2⟩:=r;cases i with
  |zero =>
   simp only[Vt,Va]at e;subst e;exact⟨v,rfl,d⟩
  |succ i=>simpa using PRepL.at h2 i a (by simpa using e)
theorem Zb1(e:cellsOf a=some cs)(d:PRep M w a v):singles cs=true∧PRepL M w cs v.cells.toList:=by
 cases a with
 |agg l =>
  simp only[cellsOf]at e;split at e
  ·rename_i hs;simp only[Va]at e;subst e;obtain⟨vs,rfl,j⟩:=d;exact⟨hs,j⟩
  simp at e
 |tup _| any=>simp[cellsOf]at e
 |int k n| bool b| str s| nilp| nilf| nili=>simp only[cellsOf,Va]at e;subst e;have:v=_:=d;subst this;exact⟨rfl,_,_,rfl,rfl,rfl⟩
 |emp _=>simp only[cellsOf,Va]at e;subst e;obtain⟨b,c,rfl,hh⟩:=d;exact⟨rfl,_,_,rfl,⟨b,c,rfl,hh⟩,rfl⟩
 |nilm| nils=>simp only[cellsOf,Va]at e;subst e;have:v=_:=d;subst this;exact⟨rfl,_,_,rfl,rfl,rfl⟩
 |rows rs=>simp only[cellsOf,Va]at e;subst e;obtain⟨b,c,rfl,hh⟩:=d;exact⟨rfl,_,_,rfl,⟨b,c,rfl,hh⟩,rfl⟩
 |lit rs=>simp only[cellsOf,Va]at e;subst e;obtain⟨b,rfl,hh⟩:=d;exact⟨rfl,_,_,rfl,⟨b,rfl,hh⟩,rfl⟩
 |rptr r o=>simp only[cellsOf,Va]at e;subst e;obtain⟨b,c,rfl,hh⟩:=d;exact⟨rfl,_,_,rfl,⟨b,c,rfl,hh⟩,rfl⟩
 |fn f g| bnd f g| iface t a=>simp only[cellsOf,Va]at e;subst e;obtain⟨b,rfl,hh⟩:=d;exact⟨rfl,_,_,rfl,⟨b,rfl,hh⟩,rfl⟩
 |ptr l o| mp _| tptr _ _ _| town _ _ _| vw _ _ _ _| own l n| optr l n i o=>exact d.elim
theorem Zfw{kn:Bool}{ev:Operand→AV}{ρ:Operand→Value}(N:Rel μ h w)(O:XF μ h w ev ρ)(z:Nat):∀(d:List (Nat×Operand)) (k:Nat) (rs:List (List AV)),Q3 kn h ev z k d=some rs →
  ∃flat:List Value,flat.length=rs.length*z∧RowsIn (Mut μ h) w z rs flat.toArray ∧
   ∀arr:Array Value,(k+rs.length)*z≤arr.size→∃us:Array Value,Instr.fill (fun i=>some (i*z,z)) arr (d.map fun p=>(p.1,ρ p.2))=some us ∧
    us.toList=arr.toList.take (k*z)++flat++arr.toList.drop ((k+rs.length)*z)
 |[],k,rs,e=>by simp only[Q3,Va]at e;subst e;refine⟨[],by simp,fun i row e=>by simp at e,fun arr B=>⟨arr,rfl,by simp⟩⟩
 |(j,x)::d,k,rs,e=>by
  simp only[Q3]at e;split at e
  ·rename_i W;subst W;split at e
   ·rename_i v X;split at e
    ·rename_i cs D;split at e
     ·rename_i E;split at e
      ·rename_i q F;simp only[Va]at e;subst e;obtain⟨flat,G,H,J⟩:=Zfw N O z d (k+1) q F;obtain⟨hs,Q⟩:=Zb1 D (ZrV N X (O x));have s:(ρ x).cells.toList.length=z:=by rw[Q.len];exact E
       have S:(ρ x).cells.size=z:=by simpa using s
       refine⟨(ρ x).cells.toList++flat,by simp only[Vu,s,G,VC,Un];omega,?_,?_⟩
       ·intro i row g;cases i with
        |zero =>
         simp only[Vt,Va]at g;subst g;refine⟨E,hs,fun c a B=>?_⟩;obtain⟨u,C,h2⟩:=Q.at c a B;refine⟨u,?_,h2⟩;have Z:c<z:=by rw[←E];exact(Vb.1 B).1
         simp only[Ph,VZ,VU];rw[Vh (by omega)];exact C
        |succ i =>
         simp only[VJ]at g;obtain⟨C,h2,h3⟩:=H i row g;refine⟨C,h2,fun c a B=>?_⟩;obtain⟨u,U,Y⟩:=h3 c a B;refine⟨u,?_,Y⟩;simp only[VU]at U ⊢;rw[Vy (by rw[s,Un];omega),s,show(i+1)*z+c-z=i*z+c from by rw[Un];omega];exact U
       intro arr B;simp only[VC]at B;have hA:k*z+z≤arr.size:=by have:(k+1)*z≤(k+(q.length+1))*z:=VT z (by omega);rw[Un]at this;omega
       have A:=Zdo (k*z) (ρ x).cells.toList 0 arr (by simp;omega);obtain⟨us,C,h2⟩:=J ((ρ x).cells.zipIdx.foldl (fun cs (y:Value×Nat)=>cs.setIfInBounds (k*z+y.2) y.1) arr) (by
        have:((ρ x).cells.zipIdx.foldl (fun cs (y:Value×Nat)=>cs.setIfInBounds (k*z+y.2) y.1) arr).toList.length=arr.size:=by rw[←SV,SM,A];simp;omega
        rw[SN]at this;rw[this,show k+1+q.length=k+(q.length+1)from by omega];exact B)
       refine⟨us,?_,?_⟩
       ·simp only[Vz,Instr.fill];rw[Vm (by simp;omega)];exact C
       rw[h2,←SV,SM,A];have L:(arr.toList.take (k*z+0)++(ρ x).cells.toList).length=(k+1)*z:=by simp only[Vu,Sv,SN,s,Un];omega
       rw[Sn (by rw[L];exact Vw _),VM (by rw[L];exact Vw _)];rw[show(k+1+q.length)*z=(arr.toList.take (k*z+0)++(ρ x).cells.toList).length+q.length*z from by rw[L,Uj (k+1)]];rw[List.drop_append,List.drop_eq_nil_of_le (by omega),Uw,Sx,Vi];simp only[Ug,Vo,s,VC];congr 4;rw[Uj,Uj,Nat.one_mul];omega
      simp at e
     simp at e
    simp at e
   simp at e
  simp at e
theorem PRows.new(g:Rel μ h w)(j:RowsIn (Mut μ h) w z rs vs)(e:TypeId):
  PRows (Mut μ h) (w.alloc (.cells vs e)) z w.heap.size rs 0:=by
 refine PRows.of_at rs 0 fun i row d=>?_;obtain⟨q,p,h3⟩:=j i row d;refine⟨q,p,PMem.of_at row _ fun c a s=>?_⟩;obtain⟨u,A,B⟩:=h3 c a s;refine⟨u,?_,?_,PRep.keep (Ext.alloc g _).keep a u B⟩
 ·rw[World.cell?_alloc_new,VZ];exact A
 rintro(ho|⟨l,k,hl,hm,_⟩)
 ·have:=g.old _ _ ho;omega
 have:=g.mapped (Vb.1 hl).1 hm;omega
theorem Zf8{kn:Bool}{ev:Operand→AV}{ρ:Operand→Value}{c:Array (Nat×Operand)}(q:Rel μ h w)(L:XF μ h w ev ρ)(s:es P t=some (z,b))(e:Zho n z (Q3 kn h ev z 0 c.toList)=some x):
  Quiet P μ h w (Instr.buildSlice t n (c.map fun(i,x)=>(i,ρ x))) x:=by
 obtain⟨u,i,y,F,hi,G,_,N,_⟩:=Zb4 s;unfold Zho at e;split at e
 ·rename_i rs A;split at e
  ·rename_i O;obtain⟨B,H⟩:=O;simp only[Va]at e;subst e;obtain⟨flat,Q,C,D⟩:=Zfw q L z c.toList 0 rs A;have d:∀zero:Array Value,∃us:Array Value,Instr.fill (fun i=>some (i*z,z)) ((Array.range (n*z)).map (zero[· % zero.size]!)) (c.toList.map fun p=>(p.1,ρ p.2))=some us∧us=flat.toArray:=by intro zero;obtain⟨us,g,h2⟩:=D ((Array.range (n*z)).map (zero[· % zero.size]!)) (by simp[B]);refine⟨us,g,?_⟩;apply UX;rw[h2];simp[B]
   have j:¬n*z>2^24:=by omega
   refine⟨.slice (some ⟨w.heap.size,0,none⟩) n n,w.alloc (.cells flat.toArray u),?_,q.alloc _,Ext.alloc q _,?_⟩
   ·by_cases J:n*z=0
    ·obtain⟨us,g,rfl⟩:=d #[];simp only[Instr.buildSlice,VQ,Vs F,VF,sizeOf,typeInfo,PG,hi,V0,G,Vm j,Vr J,SP];rw[g];rfl
    obtain⟨us,g,rfl⟩:=d y.cells;have E:(zeroValue u).run P w=.ok y w:=by simp[zeroValue,typeInfo,hi,N]
    simp only[Instr.buildSlice,VQ,Vs F,VF,sizeOf,typeInfo,PG,hi,V0,G,Vm j,Vm J,E,SP];rw[g];rfl
   refine⟨some ⟨w.heap.size,0,none⟩,by rw[B],.inr ⟨w.heap.size,0,z,rfl,PRows.new q C u⟩⟩
  simp at e
 simp at e
theorem ZgU:∀(s:List UInt8) (i:Nat) (row:List AV),(Ya s)[i]?=some row→∃b,s[i]?=some b∧row=[.int .u8 (b.toNat:Int)]
 |[],i,row,e=>by simp[Ya]at e
 |b::s,0,row,e=>by simp only[Ya,Vt,Va]at e;exact⟨b,rfl,e.symm⟩
 |b::s,i+1,row,e=>by simp only[Ya,VJ]at e;simpa using ZgU s i row e
theorem JX:∀s:List UInt8,(Ya s).length=s.length
 |[]=>rfl
 |_::s=>by simp[Ya,JX s]
theorem ZAf{a b:TypeId}(e:Zcl P a b=.int k):(∃j,P.underlying a=some (.int j))∧P.underlying b=some (.int k):=by unfold Zcl at e;split at e<;>(try split at e)<;>simp_all
theorem Zur{a b:TypeId}(e:Zcl P a b=.str):((∃j,P.underlying a=some (.int j))∨P.underlying a=some .string)∧P.underlying b=some .string:=by unfold Zcl at e;split at e<;>(try split at e)<;>simp_all
theorem ZtX{a b:TypeId}(e:Zcl P a b=.bytes):P.underlying a=some .string∧∃u,P.underlying b=some (.slice u)∧P.underlying u=some (.int .u8):=by unfold Zcl at e;split at e<;>(try split at e)<;>simp_all
theorem ZdY{a b:TypeId}(e:Zcl P a b=.ofBytes):P.underlying b=some .string∧∃u,P.underlying a=some (.slice u)∧P.underlying u=some (.int .u8):=by unfold Zcl at e;split at e<;>(try split at e)<;>simp_all
theorem Zm6(w:World)(a:Addr)(n b o:Nat):(w.freeze a n).cell? ⟨b,o,none⟩=w.cell? ⟨b,o,none⟩:=by
 unfold World.freeze;by_cases c:n=0
 ·rw[Vr c]
 rw[Vm c];simp only[World.cell?,S0];by_cases d:a.block=b
 ·simp only[Vr d];cases w.heap[b]? with
  |none=>rfl
  |some x=>cases x<;>rfl
 simp only[Vm d]
theorem Ext.freeze{w1:World}(e:Ext μ h w μ h w1)(B:Rel μ h w)(g:∀l b,l<h.length→μ l=some b→w1.heap[b]?=w.heap[b]?){b:Nat}(H:w.heap.size≤b)(a:Addr)(F:a.block=b)(n:Nat):Ext μ h w μ h (w1.freeze a n)∧Rel μ h (w1.freeze a n):=by
 subst F;by_cases j:n=0
 ·have:w1.freeze a n=w1:=by simp[World.freeze,j]
  rw[this];exact⟨e,B.ext_same e g⟩
 have c:∀k,k≠a.block→(w1.freeze a n).heap[k]?=w1.heap[k]?:=by intro k J;simp only[World.freeze,Vm j,S0];rw[Vm (by omega)]
 have C:(w1.freeze a n).heap.size=w1.heap.size:=by simp[World.freeze,j]
 have E:Ext μ h w μ h (w1.freeze a n):={
  out:=rfl
  still:=rfl
  os:=by rw[←e.os];simp[World.freeze,j]
  tape:=by rw[←e.tape];simp[World.freeze,j]
  output:=by rw[←e.output];simp[World.freeze,j]
  size:=by rw[C];exact e.size
  len:=Vw _
  maps:=fun _ es s=>⟨⟨es,s⟩,rfl⟩
  keep:=fun b o v q A=>by
   have d:b<w.heap.size:=by
    by_cases d:b<w.heap.size
    ·exact d
    simp[World.cell?,Uz (S6 d)]at q
   obtain⟨p,h2⟩:=e.keep b o v q A;exact⟨by simp only[World.cell?]at p ⊢;rw[c b (by omega)];exact p,h2⟩
  outside:=fun b d G=>by obtain⟨p,h2⟩:=e.outside b d G;exact⟨by rw[c b (by omega)];exact p,h2⟩
  cells:=e.cells
  rows:=e.rows
  sizes:=fun b vs T q=>by
   have d:b<w.heap.size:=by
    by_cases d:b<w.heap.size
    ·exact d
    exact q.lt
   obtain⟨D,p,h2⟩:=e.sizes b vs T q;exact⟨D,p.eq (c b (by omega)),h2⟩}
 refine⟨E,?_⟩;refine B.ext_same E fun l b s A=>?_;have:=B.mapped s A;rw[c b (by omega)];exact g l b s A
theorem ZbM:∀(rs:List (List AV)) (l:List UInt8),Zda rs=some l→∃xs:List Int,rs=xs.map (fun n=>[AV.int .u8 n])∧l=xs.map fun n=>UInt8.ofNat n.toNat
 |[],l,e=>by simp only[Zda,Va]at e;exact⟨[],rfl,e.symm⟩
 |row::rs,l,e=>by
  unfold Zda at e;split at e
  ·rename_i c;simp at c
  ·rename_i n r c;obtain⟨rfl,rfl⟩:=PM c;split at e
   ·rename_i l' d;simp only[Va]at e;obtain⟨xs,rfl,rfl⟩:=ZbM _ _ d;exact⟨n::xs,rfl,by rw[←e];rfl⟩
   simp at e
  simp at e
theorem Zkf{a b:TypeId}(c:P.underlying a=some (.slice u))(d:P.underlying u=some (.int .u8))(g:P.underlying b=some .string)(xs:List Int)(base:Option Addr)(cap:Nat)
  (s:xs.map (fun n=>[AV.int .u8 n])=[]∨∃b o z,base=some ⟨b,o,none⟩∧PRows (Mut μ h) w z b (xs.map (fun n=>[AV.int .u8 n])) o) :
  (convert a b (.slice base xs.length cap)).run P w=.ok (.string ⟨(xs.map fun n=>UInt8.ofNat n.toNat).toArray⟩) w:=by
 rcases s with A|⟨B,o,z,rfl,j⟩
 ·have:xs=[]:=by simpa using A
  subst this;cases base with
  |none=>exact run_convert_bytes_nil w a u c d _ _ b g
  |some p =>
   rw[run_convert_bytes_string w a b u (some p) _ cap c d g,run_bytesToString w p _ cap [] (by simp[loadCells,loadCellsFrom,V0])];rfl
 refine run_convert_bytes_arg w a u c d B o xs.length cap xs rfl (fun i hi=>?_) b g;have C:z=1:=by have D:=(PRows.at _ o j 0 [AV.int .u8 (xs[0]'(by omega))] (by simp[show 0<xs.length by omega])).1;simpa using D.symm
 subst C;have E:=(PRows.at _ o j i [AV.int .u8 (xs[i]'hi)] (by simp[hi])).2.2;obtain⟨v,q,_,F⟩:=PMem.at _ _ E 0 _ rfl;have G:v=.int .u8 (xs[i]'hi):=F;subst G;rw[Nat.mul_one,Ug]at q;rw[q];simp[List.getD,hi]
theorem ZdM{a b:TypeId}{y:AV}(q:Rel μ h w)(e:Zcv (Zcl P a b) y=some x)(C:Rep μ h w y v):Quiet P μ h w (convert a b v) x:=by
 unfold Zcv at e;split at e
 ·rename_i k j n p;obtain⟨⟨j',d⟩,g⟩:=ZAf p;have:v=.int j n:=C;subst this;simp only[Va]at e;subst e;exact Quiet.of_same q ⟨_,by simp only[convert,VQ,Vs d,Vs g,VF,Conv.intToInt,V0];rfl,rfl⟩
 ·rename_i s p;obtain⟨d,g⟩:=Zur p;have:v=.string ⟨s.toArray⟩:=C;subst this;simp only[Va]at e;subst e;rcases d with⟨j,d⟩|d
  ·exact Quiet.of_same q ⟨_,by simp only[convert,VQ,Vs d,Vs g,VF,V0],rfl⟩
  exact Quiet.of_same q ⟨_,by simp only[convert,VQ,Vs d,Vs g,VF,V0],rfl⟩
 ·rename_i k n p;obtain⟨d,g⟩:=Zur p;have:v=.int k n:=C;subst this;simp only[Va]at e;subst e;rcases d with⟨j,d⟩|d
  ·exact Quiet.of_same q ⟨.string (Utf8.encode n),by simp only[convert,VQ,Vs d,Vs g,VF,Conv.intToString,V0],by simp[Rep,PRep]⟩
  exact Quiet.of_same q ⟨.string (Utf8.encode n),by simp only[convert,VQ,Vs d,Vs g,VF,Conv.intToString,V0],by simp[Rep,PRep]⟩
 ·rename_i s p;obtain⟨d,u,g,D⟩:=ZtX p;have:v=.string ⟨s.toArray⟩:=C;subst this;simp only[Va]at e;subst e;have hs:(⟨s.toArray⟩:ByteArray).size=s.length:=rfl;obtain⟨cap,w0,E,B,A,G,H,J⟩:∃cap w0,(choose (.appendCap s.length 0 u)).run P w=.ok cap w0∧s.length≤cap∧w0.heap=w.heap∧w0.os=w.os∧w0.tape=w.tape∧w0.output=w.output:=by refine⟨_,{w with drawn:=w.drawn+1},by simp only[run_choose,Question.forced,V6,UA];rfl,?_,rfl,rfl,rfl,rfl⟩;simp only[Question.cut];omega
  let cells:Array Value:=(s.toArray.map fun b=>Value.int .u8 b.toNat)++Array.replicate (cap-s.length) (.int .u8 0);have L:Rel μ h w0:=q.heap_eq A G H J;have Y:Ext μ h w μ h w0:=Ext.heap_eq A G H J;let w1:=w0.alloc (.cells cells u);have Z:Ext μ h w μ h w1:=Y.trans (Ext.alloc L _);have N:∀l b,l<h.length→μ l=some b→w1.heap[b]?=w.heap[b]?:=fun l b O F=>by have:=q.mapped O F;show(w0.heap.push _)[b]?=_;rw[A,SL,Vm (by omega)]
  obtain⟨e2,S⟩:=Ext.freeze Z q N (b:=w.heap.size) (Vw _) ⟨w.heap.size,cells.size,none⟩ rfl 1;have U:RowsIn (Mut μ h) w0 1 (Ya s) cells:=fun i row Q=>by
   obtain⟨b,g,rfl⟩:=ZgU s i row Q;refine⟨rfl,rfl,fun c a d=>?_⟩;cases c with
   |zero =>
    simp only[Vt,Va]at d;subst d;have hi:i<s.length:=(Vb.1 g).1;refine⟨.int .u8 b.toNat,?_,rfl⟩;simp only[cells,Nat.mul_one,Ug];rw[S1 (by simpa using hi)];simp[g]
   |succ c=>simp at d
  have X:=PRows.new L U u;refine⟨.slice (some ⟨w.heap.size,0,none⟩) s.length cap,w1.freeze ⟨w.heap.size,cells.size,none⟩ 1,?_,S,e2,?_⟩
  ·simp only[convert,VQ,Vs d,Vs g,Vs D,VF,Conv.stringToBytes,hs,E,newRow,PS,V0,markStringish,run_shape];have h1:World.shape? {w0 with heap:=w0.heap.push (.cells ((s.toArray.map fun b=>Value.int .u8 b.toNat)++Array.replicate (cap-s.length) (.int .u8 0)) u)} w0.heap.size=some (u,cells.size):=by simp[World.shape?,cells]
   have W:w0.heap.size=w.heap.size:=by rw[A]
   rw[h1];simp only[run_freeze,VF,W];rfl
  refine⟨some ⟨w.heap.size,0,none⟩,cap,by rw[JX],by rw[JX];exact B,.inr ⟨w.heap.size,0,1,rfl,?_⟩⟩;rw[A]at X;refine PRows.keep ?_ _ _ _ _ X;intro b o v p F;refine⟨?_,F⟩;rw[Zm6];exact p
 ·rename_i rs p;obtain⟨g,u,d,D⟩:=ZdY p;unfold Zni at e;split at e
  ·rename_i l O;simp only[Va]at e;subst e;obtain⟨xs,rfl,rfl⟩:=ZbM _ _ O;obtain⟨base,cap,rfl,B,F⟩:=C;refine Quiet.of_same q ⟨.string ⟨(List.map (fun n:Int=>UInt8.ofNat n.toNat) xs).toArray⟩,?_,rfl⟩;rw[Vd];exact Zkf d D g xs base cap F
  simp at e
 ·rename_i rs p;obtain⟨g,u,d,D⟩:=ZdY p;unfold Zni at e;split at e
  ·rename_i l O;simp only[Va]at e;subst e;obtain⟨xs,rfl,rfl⟩:=ZbM _ _ O;obtain⟨base,rfl,F⟩:=C;refine Quiet.of_same q ⟨.string ⟨(List.map (fun n:Int=>UInt8.ofNat n.toNat) xs).toArray⟩,?_,rfl⟩;simp only[Vd];exact Zkf d D g xs base _ F
  simp at e
 ·rename_i p;obtain⟨g,u,d,D⟩:=ZdY p;simp only[Va]at e;subst e;have:v=.slice none 0 0:=C;subst this;exact Quiet.of_same q ⟨.string ByteArray.empty,run_convert_bytes_nil w a u d D _ _ b g,rfl⟩
 simp at e
def ZoZ(P:Program)(kk:KK)(t:TypeId):Prop :=
 match kk with
 |.int=>∃k,P.underlying t=some (.int k)
 |.str=>P.underlying t=some .string
 |.arr n=>∃e k,P.underlying t=some (.array n e)∧P.underlying e=some (.int k)∧∃i,P.info? e=some i∧i.size=1
theorem Zrn(h:ZyQ P t=some (kk,e)):∃k,P.underlying t=some (.map k e)∧ZoZ P kk k:=by
 unfold ZyQ at h;split at h
 ·rename_i k e' d;split at h
  ·rename_i i c;simp only[Va,Vp]at h;obtain⟨rfl,rfl⟩:=h;exact⟨k,d,i,c⟩
  ·rename_i c;simp only[Va,Vp]at h;obtain⟨rfl,rfl⟩:=h;exact⟨k,d,c⟩
  ·rename_i n i c;split at h
   ·rename_i j hi;split at h
    ·rename_i y p;split at h
     ·rename_i g;simp only[Va,Vp]at h;obtain⟨rfl,rfl⟩:=h;exact⟨k,d,i,j,c,hi,y,p,g⟩
     simp at h
    simp at h
   simp at h
  simp at h
 simp at h
theorem ZjE(d:ZoZ P kk t)(g:∀n,kk≠.arr n)(b:Bool)(v:Value)(n:Nat):(Instr.checkKey b (n+1) t v).run P w=.ok () w:=by
 cases kk with
 |int =>
  obtain⟨k,c⟩:=d;simp[Instr.checkKey,Vs c]
 |str =>
  have c:P.underlying t=some .string:=d;simp[Instr.checkKey,Vs c]
 |arr m=>exact absurd rfl (g m)
theorem ZmK{f:Nat→PUnit→Sem (ForInStep PUnit)}:∀(l:List Nat),(∀i,i∈l→(f i ⟨⟩).run P w=.ok (.yield ⟨⟩) w)→(forIn l PUnit.unit f:Sem PUnit).run P w=.ok ⟨⟩ w
 |[],_=>by simp
 |i::l,h=>by simp only[List.forIn_cons,VQ,h i (by simp),VF];exact ZmK l fun j c=>h j (VD _ c)
theorem Zk6{i:TypeInfo}(q:P.underlying t=some (.array n e))(p:P.underlying e=some (.int k))(hi:P.info? e=some i)(hs:i.size=1)(b:Bool)(cs:Array Value)(C:n≤cs.size)(d:Nat):
  (Instr.checkKey b (d+2) t (.agg cs)).run P w=.ok () w:=by
 have s:(sizeOf e).run P w=.ok 1 w:=by simp[sizeOf,typeInfo,hi,hs]
 have c:∀v:Value,(Instr.checkKey b (d+1) e v).run P w=.ok () w:=fun v=>by simp[Instr.checkKey,Vs p]
 rw[Instr.checkKey];simp only[VQ,Vs q,VF];have:=ZmK (P:=P) (w:=w) (f:=fun i _=>do
  Instr.checkKey b (d+1) e (←Go.part e cs (i*(←sizeOf e)))
  pure (ForInStep.yield PUnit.unit)) (List.range' 0 n) (fun j A=>by
   have g:j<cs.size:=by have:=(U3.1 A).2;omega
   have B:(Go.part e cs (j*1)).run P w=.ok cs[j] w:=by simp[Go.part,isAgg,Vs p,g]
   simp only[VQ,s,B,c,VF,V0])
 rw[Std.Legacy.Range.forIn_eq_forIn_range'];simp only[Std.Legacy.Range.size,V4,PC,Nat.div_one];rw[this];simp
theorem Zey(c:ZoZ P kk t)(d:∀n,kk≠.arr n)(b:Bool)(v:Value):(Instr.checkKey b 10000 t v).run P w=.ok () w:=ZjE c d b v 9999
def Zd4(kk:KK)(i:IntKind):TypeDesc :=
 match kk with
 |.int=>.int i
 |.str| .arr _=>.string
theorem J4{i:IntKind}{b:AV}(e:Zao kk a b=some r)(j:PRep M w a va)(p:PRep M w b vb):Instr.sameNow (Zd4 kk i) va vb=some r∧(r=true→vb=va∧a=b)∧(r=false→QY a b=true):=by
 unfold Zao at e;split at e
 ·rename_i k x k' y;have d:va=.int k x:=j;have g:vb=.int k' y:=p;subst d g;split at e
  ·rename_i q;subst q;simp only[Va]at e;subst e;exact⟨by simp[Instr.sameNow,Zd4],fun c=>by rw[show x=y by simpa using c];exact⟨rfl,rfl⟩,fun c=>by simp[QY,c]⟩
  simp at e
 ·rename_i x y;have d:va=.string ⟨x.toArray⟩:=j;have g:vb=.string ⟨y.toArray⟩:=p;subst d g;simp only[Va]at e;subst e;have s:((⟨x.toArray⟩:ByteArray)==⟨y.toArray⟩)=(x==y):=by show((x.toArray==y.toArray):Bool)=_;simp
  exact⟨by simp only[Instr.sameNow,Zd4,s],fun c=>by rw[show x=y by simpa using c];exact⟨rfl,rfl⟩,fun c=>by simp[QY,c]⟩
 simp at e
theorem ZnU{k k' q:AV}(c:Zao kk k k'=some true)(h2:QY k' q=true∨QY q k'=true):Zao kk k q=some false:=by
 unfold Zao at c;split at c
 ·rename_i j x A y;split at c
  ·rename_i p;subst p;have d:x=y:=by simpa using c
   subst d;cases q with
   |int s b =>
    simp only[QY,VA,VK,Sq,VR]at h2;have p:j=s:=by rcases h2 with h|h;exact h.1;exact h.1.symm
    have g:x≠b:=by rcases h2 with h|h;exact h.2;exact fun e=>h.2 e.symm
    subst p;simp[Zao,g]
   |_=>simp[QY]at h2
  simp at c
 ·rename_i x y;have d:x=y:=by simpa using c
  subst d;cases q with
  |str b =>
   simp only[QY,Sq,VR]at h2;have g:x≠b:=by rcases h2 with h|h;exact h;exact fun e=>h e.symm
   simp[Zao,g]
  |_=>simp[QY]at h2
 simp at c
theorem Zgg{kk:KK}{k:AV}:∀(es:List (AV×AV)) (n:Nat),JA kk k es n=some none→∀p,p∈es→Zao kk k p.1=some false
 |[],_,_,p,c=>by simp at c
 |(k',v)::es,n,e,p,c=>by
  simp only[JA]at e;split at e
  ·simp at e
  ·rename_i d;rcases Vn.1 c with rfl|c
   ·exact d
   exact Zgg es (n+1) e p c
  simp at e
theorem Zdi{kk:KK}{k v:AV}{i:Nat}:∀(es:List (AV×AV)) (n:Nat),JA kk k es n=some (some (i,v))→n≤i∧∃k',es[i-n]?=some (k',v)∧Zao kk k k'=some true
 |[],_,e=>by simp[JA]at e
 |(k',u)::es,n,e=>by
  simp only[JA]at e;split at e
  ·rename_i c;simp only[Va,Vp]at e;obtain⟨rfl,rfl⟩:=e;exact⟨Vw _,k',by simp,c⟩
  ·obtain⟨g,d,h2,h3⟩:=Zdi es (n+1) e;refine⟨by omega,d,?_,h3⟩;rw[show i-n=(i-(n+1))+1 by omega,VJ];exact h2
  simp at e
theorem EntRep.at{M:Nat→Nat→Prop}:∀(es:List (AV×AV)) (ms:List MapEntry) (i:Nat),EntRep M w es ms→(∀p,es[i]?=some p→∃m,ms[i]?=some m∧PRep M w p.1 m.key∧PRep M w p.2 m.val)∧(∀m,ms[i]?=some m→∃p,es[i]?=some p∧PRep M w p.1 m.key∧PRep M w p.2 m.val)
 |[],ms,i,h=>by have:ms=[]:=h;subst this;simp
 |(k,v)::es,ms,i,h=>by
  obtain⟨m,c,rfl,d,h2,h3⟩:=h;cases i with
  |zero=>simp[d,h2]
  |succ i=>simpa using EntRep.at es c i h3
theorem Znt{desc:TypeDesc}{vk:Value}:∀(ms:List MapEntry) (n:Nat),(∀m,m∈ms→Instr.sameNow desc vk m.key=some false)→Instr.findNow desc vk ms n=some none
 |[],_,_=>rfl
 |m::ms,n,h=>by simp only[Instr.findNow,h m (by simp)];exact Znt ms (n+1) fun m' c=>h m' (VD _ c)
theorem Zn0{desc:TypeDesc}{vk:Value}:∀(ms:List MapEntry) (n:Nat),(∀m,m∈ms→∃b,Instr.sameNow desc vk m.key=some b)→(∃m,m∈ms∧Instr.sameNow desc vk m.key=some true)→∃j m,ms[j]?=some m∧Instr.sameNow desc vk m.key=some true∧Instr.findNow desc vk ms n=some (some (n+j,m.val))
 |[],_,_,h=>by obtain⟨m,g,_⟩:=h;simp at g
 |m::ms,n,q,h2=>by
  obtain⟨b,d⟩:=q m (by simp);cases b with
  |true=>exact⟨0,m,rfl,d,by simp[Instr.findNow,d]⟩
  |false =>
   obtain⟨m',c,p⟩:=h2;obtain⟨j,s,h3,A,B⟩:=Zn0 ms (n+1) (fun m g=>q m (VD _ g)) ⟨m',by
    rcases Vn.1 c with rfl|c
    ·rw[d]at p;simp at p
    exact c,p⟩
   exact⟨j+1,s,by simpa using h3,A,by simp only[Instr.findNow,d,B];congr 3;omega⟩
theorem ZkT{α:Type}{m:α}:∀(l:List α) (i:Nat),l[i]?=some m→l.Perm (m::l.eraseIdx i)
 |[],i,h=>by simp at h
 |a::l,0,h=>by simp only[Vt,Va]at h;subst h;exact UU _
 |a::l,i+1,h=>by simp only[VJ]at h;simp only[SQ];exact((ZkT l i h).cons a).trans (List.Perm.swap _ _ _)
end
end Go.Ab
