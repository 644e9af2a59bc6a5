/- What is proved: contracts of the program's and the reference's functions in the evaluator, and plain laws on them. Conditions: as each states. -/
import Derived.Test.YtaebljhlgbbjnaaGreatDoorMQ2
set_option linter.unusedSimpArgs false
set_option linter.unusedSectionVars false
set_option linter.unusedVariables false
set_option maxRecDepth 100000
namespace Go.Ab
open Go Go.Proofs
section
variable (x:List Tbl) (hx:x.length≤1000000) (t:Tbl) (kv:AV) (k:Bool)
include hx
theorem s_for (hk:KvOk t kv) (hC:t.fgn.length≤1000000) (l:List UInt8) (hl:l.length≤1000000) (ws:List (List UInt8)) (h:splitC 32 l=forW::ws) :
  ∃ (f:Fgn) (b':Bool),R K (.call 26 [.ptr 0 0,.ptr 1 0,.str l,.ptr 2 0] (HB false x t kv k))=some (.tup [],HB b' x (putL t (.foreign f)) kv k) ∧
   (((match (generalizing:=false) ws with
    | n::m::cs=>if (nmB n&&nmB m&&cs.all nmB)=true then some (Ln.foreign ⟨n,cs,m⟩) else none
    | _=>none)=some (.foreign f)∧b'=false)∨((match (generalizing:=false) ws with
    | n::m::cs=>if (nmB n&&nmB m&&cs.all nmB)=true then some (Ln.foreign ⟨n,cs,m⟩) else none
    | _=>none)=none∧b'=true)):=by
 have hc:=p_Cut l (by omega)
 have hv:=kv_locs hk
 obtain ⟨z1,z2⟩:=splitC_len 32 l
 rw [h] at z1 z2
 have dl:(((x.length+1:Nat):Int)==0)=false:=by simp;omega
 have wi:=sub_one x hx
 have tg:=tl_get x (rowT t kv) []
 have ta:=tl_at x (rowT t kv) []
 have ts:=fun r'=>tl_set x (rowT t kv) r' []
 have q_table:(([102,111,114,101,105,103,110]:List UInt8)==[116,97,98,108,101])=false:=rfl
 have q_column:(([102,111,114,101,105,103,110]:List UInt8)==[99,111,108,117,109,110])=false:=rfl
 have q_key:(([102,111,114,101,105,103,110]:List UInt8)==[107,101,121])=false:=rfl
 rcases line_cut l with ⟨w,r,e1,e2,e3,e4⟩ | ⟨e1,e2⟩
 ·rw [h] at e2
  obtain ⟨rfl,rfl⟩:=List.cons.inj e2
  rw [e1] at hc
  simp only at hc
  have hs:=p_Split r 32 (by have:=congrArg List.length e3;simp at this;omega)
  simp only [rowT,forW] at tg ta ts e4 hc
  have rm:((t.fgn.length+1)*57≤roomMax)=True:=eq_true (by unfold roomMax;omega)
  generalize hw:splitC 32 r=ws at *
  cases ws with
  | nil=>exact absurd hw (splitC_ne 32 r)
  | cons n ws =>
   have t1:=c_take false n ws
   have p1:=c_part false n (by have:=z2 n (by simp);omega)
   simp only [SLs,List.map_cons] at t1 hs
   cases ws with
   | nil =>
    have t2:=c_take0 (!nmB n)
    have p2:=c_part true [] (by simp)
    have h1:=c_talls true [] (by simp) (by simp)
    simp only [SLs,List.map_nil] at h1 t1 hs
    refine ⟨⟨n,[],[]⟩,true,?_,.inr ⟨rfl,rfl⟩⟩
    have ca:=fgns_app t.fgn ⟨n,[],[]⟩
    simp only [fgnC,SLs,List.map_nil] at ca
    rw [call_26]
    simp -implicitDefEqProofs only [go_sem,simprocAttr,Tryz.f26,e4,hs,HB,rB,rowT,hc,dl,wi,ta,tg,ts,hv,beq_self_eq_true,bne,Int.toNat_natCast,List.length_append,List.length_map,SLs_len,locsR_SLs,locsR_app,locsR_tbls,locsR_cols,locsR_fgns,locsR_idx,or_true,ne_eq,not_false_eq_true,false_or,reduceCtorEq,q_table,q_column,q_key,forW,t1,p1,t2,p2,h1,ca,rm,putL,List.map_cons,List.map_nil]
    all_goals rfl
   | cons m cs =>
    have t2:=c_take (!nmB n) m cs
    have p2:=c_part (!nmB n) m (by have:=z2 m (by simp);omega)
    have h1:=c_talls (!nmB n||!nmB m) cs (by simp only [List.length_cons] at z1;omega) (fun w hw=>by have:=z2 w (by simp [hw]);omega)
    simp only [SLs,List.map_cons] at t1 t2 hs h1
    refine ⟨⟨n,cs,m⟩,!nmB n||!nmB m||!cs.all nmB,?_,?_⟩
    ·have ca:=fgns_app t.fgn ⟨n,cs,m⟩
     simp only [fgnC,SLs] at ca
     rw [call_26]
     simp -implicitDefEqProofs only [go_sem,simprocAttr,Tryz.f26,e4,hs,HB,rB,rowT,hc,dl,wi,ta,tg,ts,hv,beq_self_eq_true,bne,Int.toNat_natCast,List.length_append,List.length_map,SLs_len,locsR_SLs,locsR_app,locsR_tbls,locsR_cols,locsR_fgns,locsR_idx,or_true,ne_eq,not_false_eq_true,false_or,reduceCtorEq,q_table,q_column,q_key,forW,t1,p1,t2,p2,h1,ca,rm,putL,List.map_cons,List.map_nil]
     all_goals rfl
    ·simp only
     cases nmB n<;>cases nmB m<;>cases cs.all nmB<;>simp
 ·rw [h] at e2
  obtain ⟨rfl,rfl⟩:=List.cons.inj e2
  rw [e1] at hc
  simp only at hc
  simp only [rowT,forW] at tg ta ts hc
  have t1:=c_takeN false
  have p1:=c_part true [] (by simp)
  have t2:=c_takeN true
  have h1:=c_talls true [] (by simp) (by simp)
  simp only [SLs,List.map_nil] at h1
  refine ⟨⟨[],[],[]⟩,true,?_,.inr ⟨rfl,rfl⟩⟩
  have ca:=fgns_app t.fgn ⟨[],[],[]⟩
  have rm:((t.fgn.length+1)*57≤roomMax)=True:=eq_true (by unfold roomMax;omega)
  simp only [fgnC,SLs,List.map_nil] at ca
  rw [call_26]
  simp -implicitDefEqProofs only [go_sem,simprocAttr,Tryz.f26,HB,rB,rowT,hc,dl,wi,ta,tg,ts,hv,beq_self_eq_true,bne,Int.toNat_natCast,List.length_append,List.length_map,SLs_len,locsR_SLs,locsR_app,locsR_tbls,locsR_cols,locsR_fgns,locsR_idx,or_true,ne_eq,not_false_eq_true,false_or,reduceCtorEq,q_table,q_column,q_key,forW,t1,p1,t2,h1,ca,rm,putL,List.map_cons,List.map_nil]
  all_goals rfl
theorem s_index (hk:KvOk t kv) (hC:t.idx.length≤1000000) (l:List UInt8) (hl:l.length≤1000000) (ws:List (List UInt8)) (h:splitC 32 l=indW::ws) :
  ∃ (f:Idx) (b':Bool),R K (.call 26 [.ptr 0 0,.ptr 1 0,.str l,.ptr 2 0] (HB false x t kv k))=some (.tup [],HB b' x (putL t (.index f)) kv k) ∧
   (((match (generalizing:=false) ws with
    | n::cs=>if (nmB n&&cs.all nmB)=true then some (Ln.index ⟨n,cs,false⟩) else none
    | []=>none)=some (.index f)∧b'=false)∨((match (generalizing:=false) ws with
    | n::cs=>if (nmB n&&cs.all nmB)=true then some (Ln.index ⟨n,cs,false⟩) else none
    | []=>none)=none∧b'=true)):=by
 have hc:=p_Cut l (by omega)
 have hv:=kv_locs hk
 obtain ⟨z1,z2⟩:=splitC_len 32 l
 rw [h] at z1 z2
 have dl:(((x.length+1:Nat):Int)==0)=false:=by simp;omega
 have wi:=sub_one x hx
 have tg:=tl_get x (rowT t kv) []
 have ta:=tl_at x (rowT t kv) []
 have ts:=fun r'=>tl_set x (rowT t kv) r' []
 have q_table:(([105,110,100,101,120]:List UInt8)==[116,97,98,108,101])=false:=rfl
 have q_column:(([105,110,100,101,120]:List UInt8)==[99,111,108,117,109,110])=false:=rfl
 have q_key:(([105,110,100,101,120]:List UInt8)==[107,101,121])=false:=rfl
 have q_foreign:(([105,110,100,101,120]:List UInt8)==[102,111,114,101,105,103,110])=false:=rfl
 have qu:(([105,110,100,101,120]:List UInt8)==[117,110,105,113,117,101])=false:=rfl
 rcases line_cut l with ⟨w,r,e1,e2,e3,e4⟩ | ⟨e1,e2⟩
 ·rw [h] at e2
  obtain ⟨rfl,rfl⟩:=List.cons.inj e2
  rw [e1] at hc
  simp only at hc
  have hs:=p_Split r 32 (by have:=congrArg List.length e3;simp at this;omega)
  simp only [rowT,indW] at tg ta ts e4 hc
  have rm:((t.idx.length+1)*49≤roomMax)=True:=eq_true (by unfold roomMax;omega)
  generalize hw:splitC 32 r=ws at *
  cases ws with
  | nil=>exact absurd hw (splitC_ne 32 r)
  | cons n cs =>
   have t1:=c_take false n cs
   have p1:=c_part false n (by have:=z2 n (by simp);omega)
   have h1:=c_talls (!nmB n) cs (by simp only [List.length_cons] at z1;omega) (fun w hw=>by have:=z2 w (by simp [hw]);omega)
   simp only [SLs,List.map_cons] at t1 hs h1
   refine ⟨⟨n,cs,false⟩,!nmB n||!cs.all nmB,?_,?_⟩
   ·have ca:=idx_app t.idx ⟨n,cs,false⟩
    simp only [idxC,SLs] at ca
    rw [call_26]
    simp -implicitDefEqProofs only [go_sem,simprocAttr,Tryz.f26,e4,hs,HB,rB,rowT,hc,dl,wi,ta,tg,ts,hv,beq_self_eq_true,bne,Int.toNat_natCast,List.length_append,List.length_map,SLs_len,locsR_SLs,locsR_app,locsR_tbls,locsR_cols,locsR_fgns,locsR_idx,or_true,ne_eq,not_false_eq_true,false_or,reduceCtorEq,q_table,q_column,q_key,q_foreign,qu,indW,t1,p1,h1,ca,rm,putL,List.map_cons,List.map_nil]
    all_goals rfl
   ·simp only
    cases nmB n<;>cases cs.all nmB<;>simp
 ·rw [h] at e2
  obtain ⟨rfl,rfl⟩:=List.cons.inj e2
  rw [e1] at hc
  simp only at hc
  simp only [rowT,indW] at tg ta ts hc
  have t1:=c_takeN false
  have p1:=c_part true [] (by simp)
  have h1:=c_talls true [] (by simp) (by simp)
  simp only [SLs,List.map_nil] at h1
  refine ⟨⟨[],[],false⟩,true,?_,.inr ⟨rfl,rfl⟩⟩
  have ca:=idx_app t.idx ⟨[],[],false⟩
  have rm:((t.idx.length+1)*49≤roomMax)=True:=eq_true (by unfold roomMax;omega)
  simp only [idxC,SLs,List.map_nil] at ca
  rw [call_26]
  simp -implicitDefEqProofs only [go_sem,simprocAttr,Tryz.f26,HB,rB,rowT,hc,dl,wi,ta,tg,ts,hv,beq_self_eq_true,bne,Int.toNat_natCast,List.length_append,List.length_map,SLs_len,locsR_SLs,locsR_app,locsR_tbls,locsR_cols,locsR_fgns,locsR_idx,or_true,ne_eq,not_false_eq_true,false_or,reduceCtorEq,q_table,q_column,q_key,q_foreign,qu,indW,t1,p1,h1,ca,rm,putL,List.map_cons,List.map_nil]
  all_goals rfl
theorem s_unique (hk:KvOk t kv) (hC:t.idx.length≤1000000) (l:List UInt8) (hl:l.length≤1000000) (ws:List (List UInt8)) (h:splitC 32 l=uniW::ws) :
  ∃ (f:Idx) (b':Bool),R K (.call 26 [.ptr 0 0,.ptr 1 0,.str l,.ptr 2 0] (HB false x t kv k))=some (.tup [],HB b' x (putL t (.index f)) kv k) ∧
   (((match (generalizing:=false) ws with
    | n::cs=>if (nmB n&&cs.all nmB)=true then some (Ln.index ⟨n,cs,true⟩) else none
    | []=>none)=some (.index f)∧b'=false)∨((match (generalizing:=false) ws with
    | n::cs=>if (nmB n&&cs.all nmB)=true then some (Ln.index ⟨n,cs,true⟩) else none
    | []=>none)=none∧b'=true)):=by
 have hc:=p_Cut l (by omega)
 have hv:=kv_locs hk
 obtain ⟨z1,z2⟩:=splitC_len 32 l
 rw [h] at z1 z2
 have dl:(((x.length+1:Nat):Int)==0)=false:=by simp;omega
 have wi:=sub_one x hx
 have tg:=tl_get x (rowT t kv) []
 have ta:=tl_at x (rowT t kv) []
 have ts:=fun r'=>tl_set x (rowT t kv) r' []
 have q_table:(([117,110,105,113,117,101]:List UInt8)==[116,97,98,108,101])=false:=rfl
 have q_column:(([117,110,105,113,117,101]:List UInt8)==[99,111,108,117,109,110])=false:=rfl
 have q_key:(([117,110,105,113,117,101]:List UInt8)==[107,101,121])=false:=rfl
 have q_foreign:(([117,110,105,113,117,101]:List UInt8)==[102,111,114,101,105,103,110])=false:=rfl
 have q_index:(([117,110,105,113,117,101]:List UInt8)==[105,110,100,101,120])=false:=rfl
 rcases line_cut l with ⟨w,r,e1,e2,e3,e4⟩ | ⟨e1,e2⟩
 ·rw [h] at e2
  obtain ⟨rfl,rfl⟩:=List.cons.inj e2
  rw [e1] at hc
  simp only at hc
  have hs:=p_Split r 32 (by have:=congrArg List.length e3;simp at this;omega)
  simp only [rowT,uniW] at tg ta ts e4 hc
  have rm:((t.idx.length+1)*49≤roomMax)=True:=eq_true (by unfold roomMax;omega)
  generalize hw:splitC 32 r=ws at *
  cases ws with
  | nil=>exact absurd hw (splitC_ne 32 r)
  | cons n cs =>
   have t1:=c_take false n cs
   have p1:=c_part false n (by have:=z2 n (by simp);omega)
   have h1:=c_talls (!nmB n) cs (by simp only [List.length_cons] at z1;omega) (fun w hw=>by have:=z2 w (by simp [hw]);omega)
   simp only [SLs,List.map_cons] at t1 hs h1
   refine ⟨⟨n,cs,true⟩,!nmB n||!cs.all nmB,?_,?_⟩
   ·have ca:=idx_app t.idx ⟨n,cs,true⟩
    simp only [idxC,SLs] at ca
    rw [call_26]
    simp -implicitDefEqProofs only [go_sem,simprocAttr,Tryz.f26,e4,hs,HB,rB,rowT,hc,dl,wi,ta,tg,ts,hv,beq_self_eq_true,bne,Int.toNat_natCast,List.length_append,List.length_map,SLs_len,locsR_SLs,locsR_app,locsR_tbls,locsR_cols,locsR_fgns,locsR_idx,or_true,ne_eq,not_false_eq_true,false_or,reduceCtorEq,q_table,q_column,q_key,q_foreign,q_index,uniW,t1,p1,h1,ca,rm,putL,List.map_cons,List.map_nil]
    all_goals rfl
   ·simp only
    cases nmB n<;>cases cs.all nmB<;>simp
 ·rw [h] at e2
  obtain ⟨rfl,rfl⟩:=List.cons.inj e2
  rw [e1] at hc
  simp only at hc
  simp only [rowT,uniW] at tg ta ts hc
  have t1:=c_takeN false
  have p1:=c_part true [] (by simp)
  have h1:=c_talls true [] (by simp) (by simp)
  simp only [SLs,List.map_nil] at h1
  refine ⟨⟨[],[],true⟩,true,?_,.inr ⟨rfl,rfl⟩⟩
  have ca:=idx_app t.idx ⟨[],[],true⟩
  have rm:((t.idx.length+1)*49≤roomMax)=True:=eq_true (by unfold roomMax;omega)
  simp only [idxC,SLs,List.map_nil] at ca
  rw [call_26]
  simp -implicitDefEqProofs only [go_sem,simprocAttr,Tryz.f26,HB,rB,rowT,hc,dl,wi,ta,tg,ts,hv,beq_self_eq_true,bne,Int.toNat_natCast,List.length_append,List.length_map,SLs_len,locsR_SLs,locsR_app,locsR_tbls,locsR_cols,locsR_fgns,locsR_idx,or_true,ne_eq,not_false_eq_true,false_or,reduceCtorEq,q_table,q_column,q_key,q_foreign,q_index,uniW,t1,p1,h1,ca,rm,putL,List.map_cons,List.map_nil]
  all_goals rfl
end
abbrev newR0 (nm:List UInt8):List AV:=[.str nm,.nils,.nils,.nils,.nils]
abbrev HN (b:Bool) (x:List Tbl) (t:Tbl) (kv:AV) (nm:List UInt8):Heap:=[rB b,.cells [.own 3 (x.length+1+1)],.cells [.bool false],.rows 5 (x.map tblC++rowT t kv::[newR0 nm]) true,.rows 6 (t.cols.map colC) true,.rows 3 (t.fgn.map fgnC) true,.rows 3 (t.idx.map idxC) true]
abbrev HA (b k:Bool):Heap:=[rB b,.cells [.own 3 0],.cells [.bool k],.rows 5 [] true]
abbrev HA1 (b:Bool) (nm:List UInt8):Heap:=[rB b,.cells [.own 3 1],.cells [.bool false],.rows 5 [newR0 nm] true]
section
variable (x:List Tbl) (hx:x.length≤1000000) (t:Tbl) (kv:AV) (k:Bool)
include hx
theorem s_tab_true (hk:KvOk t kv) (l:List UInt8) (hl:l.length≤1000000) (ws:List (List UInt8)) (h:splitC 32 l=tabW::ws) :
  ∃ (nm:List UInt8) (b':Bool),R K (.call 26 [.ptr 0 0,.ptr 1 0,.str l,.ptr 2 0] (HB false x t kv true))=some (.tup [],HN b' x t kv nm)∧(((match (generalizing:=false) ws with
    | [n]=>if nmB n=true then some (Ln.table n) else none
    | _=>none)=some (.table nm)∧b'=false)∨((match (generalizing:=false) ws with
    | [n]=>if nmB n=true then some (Ln.table n) else none
    | _=>none)=none∧b'=true)):=by
 have hc:=p_Cut l (by omega)
 have hv:=kv_locs hk
 obtain ⟨z1,z2⟩:=splitC_len 32 l
 rw [h] at z1 z2
 have dl:(((x.length+1:Nat):Int)==0)=false:=by simp;omega
 have wi:=sub_one x hx
 have tg:=tl_get x (rowT t kv) []
 have ta:=tl_at x (rowT t kv) []
 have ts:=fun r'=>tl_set x (rowT t kv) r' []
 have dg:((0:Int) < ((x.length+1:Nat):Int))=True:=eq_true (by omega)
 have rm:((x.length+1+1)*113≤roomMax)=True:=eq_true (by unfold roomMax;omega)
 rcases line_cut l with ⟨w,r,e1,e2,e3,e4⟩ | ⟨e1,e2⟩
 ·rw [h] at e2
  obtain ⟨rfl,rfl⟩:=List.cons.inj e2
  rw [e1] at hc
  simp only at hc
  have hs:=p_Split r 32 (by have:=congrArg List.length e3;simp at this;omega)
  simp only [rowT,tabW] at tg ta ts e4 hc
  generalize hw:splitC 32 r=ws at *
  cases ws with
  | nil=>exact absurd hw (splitC_ne 32 r)
  | cons n ws =>
   have t1:=c_take false n ws
   have p1:=c_part false n (by have:=z2 n (by simp);omega)
   cases ws with
   | nil =>
    have d1:=c_done0 (!nmB n)
    simp only [SLs,List.map_cons,List.map_nil] at t1 hs
    refine ⟨n,!nmB n,?_,?_⟩
    ·rw [call_26]
     simp -implicitDefEqProofs only [go_sem,simprocAttr,Tryz.f26,e4,hs,HB,rB,rowT,hc,dl,wi,ta,tg,ts,hv,beq_self_eq_true,bne,Int.toNat_natCast,List.length_append,List.length_map,SLs_len,locsR_SLs,locsR_app,locsR_tbls,locsR_cols,locsR_fgns,locsR_idx,or_true,ne_eq,not_false_eq_true,false_or,reduceCtorEq,List.append_assoc,tabW,t1,p1,d1,dg,rm,List.map_cons,List.map_nil]
     all_goals rfl
    ·simp only
     cases nmB n<;>simp
   | cons m ws =>
    have d1:=c_done1 (!nmB n) m ws
    simp only [SLs,List.map_cons] at t1 hs d1
    refine ⟨n,true,?_,.inr ⟨rfl,rfl⟩⟩
    rw [call_26]
    simp -implicitDefEqProofs only [go_sem,simprocAttr,Tryz.f26,e4,hs,HB,rB,rowT,hc,dl,wi,ta,tg,ts,hv,beq_self_eq_true,bne,Int.toNat_natCast,List.length_append,List.length_map,SLs_len,locsR_SLs,locsR_app,locsR_tbls,locsR_cols,locsR_fgns,locsR_idx,or_true,ne_eq,not_false_eq_true,false_or,reduceCtorEq,List.append_assoc,tabW,t1,p1,d1,dg,rm,List.map_cons]
    all_goals rfl
 ·rw [h] at e2
  obtain ⟨rfl,rfl⟩:=List.cons.inj e2
  rw [e1] at hc
  simp only at hc
  simp only [rowT,tabW] at tg ta ts hc
  have t1:=c_takeN false
  have p1:=c_part true [] (by simp)
  have d1:=c_done0 true
  refine ⟨[],true,?_,.inr ⟨rfl,rfl⟩⟩
  rw [call_26]
  simp -implicitDefEqProofs only [go_sem,simprocAttr,Tryz.f26,HB,rB,rowT,hc,dl,wi,ta,tg,ts,hv,beq_self_eq_true,bne,Int.toNat_natCast,List.length_append,List.length_map,SLs_len,locsR_SLs,locsR_app,locsR_tbls,locsR_cols,locsR_fgns,locsR_idx,or_true,ne_eq,not_false_eq_true,false_or,reduceCtorEq,List.append_assoc,tabW,t1,p1,d1,dg,rm]
  all_goals rfl
theorem s_tab_false (hk:KvOk t kv) (l:List UInt8) (hl:l.length≤1000000) (ws:List (List UInt8)) (h:splitC 32 l=tabW::ws) :
  ∃ (nm:List UInt8) (b':Bool),R K (.call 26 [.ptr 0 0,.ptr 1 0,.str l,.ptr 2 0] (HB false x t kv false))=some (.tup [],HN b' x t kv nm)∧b'=true:=by
 have hc:=p_Cut l (by omega)
 have hv:=kv_locs hk
 obtain ⟨z1,z2⟩:=splitC_len 32 l
 rw [h] at z1 z2
 have dl:(((x.length+1:Nat):Int)==0)=false:=by simp;omega
 have wi:=sub_one x hx
 have tg:=tl_get x (rowT t kv) []
 have ta:=tl_at x (rowT t kv) []
 have ts:=fun r'=>tl_set x (rowT t kv) r' []
 have dg:((0:Int) < ((x.length+1:Nat):Int))=True:=eq_true (by omega)
 have rm:((x.length+1+1)*113≤roomMax)=True:=eq_true (by unfold roomMax;omega)
 rcases line_cut l with ⟨w,r,e1,e2,e3,e4⟩ | ⟨e1,e2⟩
 ·rw [h] at e2
  obtain ⟨rfl,rfl⟩:=List.cons.inj e2
  rw [e1] at hc
  simp only at hc
  have hs:=p_Split r 32 (by have:=congrArg List.length e3;simp at this;omega)
  simp only [rowT,tabW] at tg ta ts e4 hc
  generalize hw:splitC 32 r=ws at *
  cases ws with
  | nil=>exact absurd hw (splitC_ne 32 r)
  | cons n ws =>
   have t1:=c_take true n ws
   have p1:=c_part true n (by have:=z2 n (by simp);omega)
   cases ws with
   | nil =>
    have d1:=c_done0 (true)
    simp only [SLs,List.map_cons,List.map_nil] at t1 hs
    refine ⟨n,true,?_,?_⟩
    ·rw [call_26]
     simp -implicitDefEqProofs only [go_sem,simprocAttr,Tryz.f26,e4,hs,HB,rB,rowT,hc,dl,wi,ta,tg,ts,hv,beq_self_eq_true,bne,Int.toNat_natCast,List.length_append,List.length_map,SLs_len,locsR_SLs,locsR_app,locsR_tbls,locsR_cols,locsR_fgns,locsR_idx,or_true,ne_eq,not_false_eq_true,false_or,reduceCtorEq,List.append_assoc,tabW,t1,p1,d1,dg,rm,List.map_cons,List.map_nil]
     all_goals rfl
    ·rfl
   | cons m ws =>
    have d1:=c_done1 (true) m ws
    simp only [SLs,List.map_cons] at t1 hs d1
    refine ⟨n,true,?_,rfl⟩
    rw [call_26]
    simp -implicitDefEqProofs only [go_sem,simprocAttr,Tryz.f26,e4,hs,HB,rB,rowT,hc,dl,wi,ta,tg,ts,hv,beq_self_eq_true,bne,Int.toNat_natCast,List.length_append,List.length_map,SLs_len,locsR_SLs,locsR_app,locsR_tbls,locsR_cols,locsR_fgns,locsR_idx,or_true,ne_eq,not_false_eq_true,false_or,reduceCtorEq,List.append_assoc,tabW,t1,p1,d1,dg,rm,List.map_cons]
    all_goals rfl
 ·rw [h] at e2
  obtain ⟨rfl,rfl⟩:=List.cons.inj e2
  rw [e1] at hc
  simp only at hc
  simp only [rowT,tabW] at tg ta ts hc
  have t1:=c_takeN true
  have p1:=c_part true [] (by simp)
  have d1:=c_done0 true
  refine ⟨[],true,?_,rfl⟩
  rw [call_26]
  simp -implicitDefEqProofs only [go_sem,simprocAttr,Tryz.f26,HB,rB,rowT,hc,dl,wi,ta,tg,ts,hv,beq_self_eq_true,bne,Int.toNat_natCast,List.length_append,List.length_map,SLs_len,locsR_SLs,locsR_app,locsR_tbls,locsR_cols,locsR_fgns,locsR_idx,or_true,ne_eq,not_false_eq_true,false_or,reduceCtorEq,List.append_assoc,tabW,t1,p1,d1,dg,rm]
  all_goals rfl
theorem s_other (hk:KvOk t kv) (l:List UInt8) (hl:l.length≤1000000) (w0:List UInt8) (ws:List (List UInt8)) (h:splitC 32 l=w0::ws) (hw:w0≠tabW∧w0≠colW∧w0≠keyW∧w0≠forW∧w0≠indW∧w0≠uniW) :
  R K (.call 26 [.ptr 0 0,.ptr 1 0,.str l,.ptr 2 0] (HB false x t kv k))=some (.tup [],HB true x t kv k):=by
 have hc:=p_Cut l (by omega)
 have hv:=kv_locs hk
 obtain ⟨z1,z2⟩:=splitC_len 32 l
 rw [h] at z1 z2
 have dl:(((x.length+1:Nat):Int)==0)=false:=by simp;omega
 have wi:=sub_one x hx
 have tg:=tl_get x (rowT t kv) []
 have ta:=tl_at x (rowT t kv) []
 have ts:=fun r'=>tl_set x (rowT t kv) r' []
 have q_table:(w0==([116,97,98,108,101]:List UInt8))=false:=by simpa using hw.1
 have q_column:(w0==([99,111,108,117,109,110]:List UInt8))=false:=by simpa using hw.2.1
 have q_key:(w0==([107,101,121]:List UInt8))=false:=by simpa using hw.2.2.1
 have q_foreign:(w0==([102,111,114,101,105,103,110]:List UInt8))=false:=by simpa using hw.2.2.2.1
 have q_index:(w0==([105,110,100,101,120]:List UInt8))=false:=by simpa using hw.2.2.2.2.1
 have q_unique:(w0==([117,110,105,113,117,101]:List UInt8))=false:=by simpa using hw.2.2.2.2.2
 rcases line_cut l with ⟨w,r,e1,e2,e3,e4⟩ | ⟨e1,e2⟩
 ·rw [h] at e2
  obtain ⟨rfl,rfl⟩:=List.cons.inj e2
  rw [e1] at hc
  simp only at hc
  have hs:=p_Split r 32 (by have:=congrArg List.length e3;simp at this;omega)
  simp only [rowT] at tg ta ts
  rw [call_26]
  simp -implicitDefEqProofs only [go_sem,simprocAttr,Tryz.f26,e4,hs,HB,rB,rowT,hc,dl,wi,ta,tg,ts,hv,beq_self_eq_true,bne,Int.toNat_natCast,List.length_append,List.length_map,SLs_len,locsR_SLs,locsR_app,locsR_tbls,locsR_cols,locsR_fgns,locsR_idx,or_true,ne_eq,not_false_eq_true,false_or,reduceCtorEq,q_table,q_column,q_key,q_foreign,q_index,q_unique]
  all_goals rfl
 ·rw [h] at e2
  obtain ⟨rfl,rfl⟩:=List.cons.inj e2
  rw [e1] at hc
  simp only at hc
  simp only [rowT] at tg ta ts
  rw [call_26]
  simp -implicitDefEqProofs only [go_sem,simprocAttr,Tryz.f26,HB,rB,rowT,hc,dl,wi,ta,tg,ts,hv,beq_self_eq_true,bne,Int.toNat_natCast,List.length_append,List.length_map,SLs_len,locsR_SLs,locsR_app,locsR_tbls,locsR_cols,locsR_fgns,locsR_idx,or_true,ne_eq,not_false_eq_true,false_or,reduceCtorEq,q_table,q_column,q_key,q_foreign,q_index,q_unique]
  all_goals rfl
end
theorem a_tab (k:Bool) (l:List UInt8) (hl:l.length≤1000000) (ws:List (List UInt8)) (h:splitC 32 l=tabW::ws) :
  ∃ (nm:List UInt8) (b':Bool),R K (.call 26 [.ptr 0 0,.ptr 1 0,.str l,.ptr 2 0] (HA false k))=some (.tup [],HA1 b' nm)∧(((match (generalizing:=false) ws with
    | [n]=>if nmB n=true then some (Ln.table n) else none
    | _=>none)=some (.table nm)∧b'=false)∨((match (generalizing:=false) ws with
    | [n]=>if nmB n=true then some (Ln.table n) else none
    | _=>none)=none∧b'=true)):=by
 have hc:=p_Cut l (by omega)
 obtain ⟨z1,z2⟩:=splitC_len 32 l
 rw [h] at z1 z2
 have rm:(113≤roomMax)=True:=eq_true (by unfold roomMax;omega)
 rcases line_cut l with ⟨w,r,e1,e2,e3,e4⟩ | ⟨e1,e2⟩
 ·rw [h] at e2
  obtain ⟨rfl,rfl⟩:=List.cons.inj e2
  rw [e1] at hc
  simp only at hc
  have hs:=p_Split r 32 (by have:=congrArg List.length e3;simp at this;omega)
  simp only [tabW] at e4 hc
  generalize hw:splitC 32 r=ws at *
  cases ws with
  | nil=>exact absurd hw (splitC_ne 32 r)
  | cons n ws =>
   have t1:=c_take false n ws
   have p1:=c_part false n (by have:=z2 n (by simp);omega)
   cases ws with
   | nil =>
    have d1:=c_done0 (!nmB n)
    simp only [SLs,List.map_cons,List.map_nil] at t1 hs
    refine ⟨n,!nmB n,?_,?_⟩
    ·rw [call_26]
     simp -implicitDefEqProofs only [go_sem,simprocAttr,Tryz.f26,e4,hs,HA,HA1,rB,newR0,hc,beq_self_eq_true,bne,Int.toNat_natCast,SLs_len,locsR_SLs,or_true,ne_eq,not_false_eq_true,false_or,reduceCtorEq,locsR,List.append_assoc,tabW,t1,p1,d1,rm,List.map_cons,List.map_nil]
     all_goals rfl
    ·simp only
     cases nmB n<;>simp
   | cons m ws =>
    have d1:=c_done1 (!nmB n) m ws
    simp only [SLs,List.map_cons] at t1 hs d1
    refine ⟨n,true,?_,.inr ⟨rfl,rfl⟩⟩
    rw [call_26]
    simp -implicitDefEqProofs only [go_sem,simprocAttr,Tryz.f26,e4,hs,HA,HA1,rB,newR0,hc,beq_self_eq_true,bne,Int.toNat_natCast,SLs_len,locsR_SLs,or_true,ne_eq,not_false_eq_true,false_or,reduceCtorEq,locsR,List.append_assoc,tabW,t1,p1,d1,rm,List.map_cons]
    all_goals rfl
 ·rw [h] at e2
  obtain ⟨rfl,rfl⟩:=List.cons.inj e2
  rw [e1] at hc
  simp only at hc
  simp only [tabW] at hc
  have t1:=c_takeN false
  have p1:=c_part true [] (by simp)
  have d1:=c_done0 true
  refine ⟨[],true,?_,.inr ⟨rfl,rfl⟩⟩
  rw [call_26]
  simp -implicitDefEqProofs only [go_sem,simprocAttr,Tryz.f26,HA,HA1,rB,newR0,hc,beq_self_eq_true,bne,Int.toNat_natCast,SLs_len,locsR_SLs,or_true,ne_eq,not_false_eq_true,false_or,reduceCtorEq,locsR,List.append_assoc,tabW,t1,p1,d1,rm]
  all_goals rfl
theorem a_other (k:Bool) (l:List UInt8) (hl:l.length≤1000000) (w0:List UInt8) (ws:List (List UInt8)) (h:splitC 32 l=w0::ws) (hw:w0≠tabW) :
  R K (.call 26 [.ptr 0 0,.ptr 1 0,.str l,.ptr 2 0] (HA false k))=some (.tup [],HA true k):=by
 have hc:=p_Cut l (by omega)
 obtain ⟨z1,z2⟩:=splitC_len 32 l
 rw [h] at z1 z2
 have q_table:(w0==([116,97,98,108,101]:List UInt8))=false:=by simpa using hw
 rcases line_cut l with ⟨w,r,e1,e2,e3,e4⟩ | ⟨e1,e2⟩
 ·rw [h] at e2
  obtain ⟨rfl,rfl⟩:=List.cons.inj e2
  rw [e1] at hc
  simp only at hc
  have hs:=p_Split r 32 (by have:=congrArg List.length e3;simp at this;omega)
  rw [call_26]
  simp -implicitDefEqProofs only [go_sem,simprocAttr,Tryz.f26,e4,hs,HA,HA1,rB,newR0,hc,beq_self_eq_true,bne,Int.toNat_natCast,SLs_len,locsR_SLs,or_true,ne_eq,not_false_eq_true,false_or,reduceCtorEq,locsR,List.append_assoc,q_table]
  all_goals rfl
 ·rw [h] at e2
  obtain ⟨rfl,rfl⟩:=List.cons.inj e2
  rw [e1] at hc
  simp only at hc
  rw [call_26]
  simp -implicitDefEqProofs only [go_sem,simprocAttr,Tryz.f26,HA,HA1,rB,newR0,hc,beq_self_eq_true,bne,Int.toNat_natCast,SLs_len,locsR_SLs,or_true,ne_eq,not_false_eq_true,false_or,reduceCtorEq,locsR,List.append_assoc,q_table]
  all_goals rfl
def stepP (t:Tbl) (k:Bool):Ln→Option (Tbl×Bool)
 | .table _=>none
 | .key ks=>if k=true then none else some (putL t (.key ks),true)
 | .column c=>some (putL t (.column c),k)
 | .foreign f=>some (putL t (.foreign f),k)
 | .index f=>some (putL t (.index f),k)
def isTab:Ln→Bool
 | .table _=>true
 | _=>false
section
variable {nz:Bool} {l w:List UInt8} {ws:List (List UInt8)}
theorem pl_tab (h:splitC 32 l=tabW::ws):pLn rdS nz l=match (generalizing:=false) ws with
  | [n]=>if nmB n=true then some (.table n) else none
  | _=>none:=by
 unfold pLn
 rw [h]
 rfl
theorem pl_col (h:splitC 32 l=colW::ws):pLn rdS nz l=pCol rdS nz (l.drop 7):=by
 unfold pLn
 rw [h]
 rfl
theorem pl_key (h:splitC 32 l=keyW::ws):pLn rdS nz l=if ws.all nmB=true then some (.key ws) else none:=by
 unfold pLn
 rw [h]
 rfl
theorem pl_for (h:splitC 32 l=forW::ws):pLn rdS nz l=match (generalizing:=false) ws with
  | n::t::cs=>if (nmB n&&nmB t&&cs.all nmB)=true then some (.foreign ⟨n,cs,t⟩) else none
  | _=>none:=by
 unfold pLn
 rw [h]
 rfl
theorem pl_ind (h:splitC 32 l=indW::ws):pLn rdS nz l=match (generalizing:=false) ws with
  | n::cs=>if (nmB n&&cs.all nmB)=true then some (.index ⟨n,cs,false⟩) else none
  | []=>none:=by
 unfold pLn
 rw [h]
 rfl
theorem pl_uni (h:splitC 32 l=uniW::ws):pLn rdS nz l=match (generalizing:=false) ws with
  | n::cs=>if (nmB n&&cs.all nmB)=true then some (.index ⟨n,cs,true⟩) else none
  | []=>none:=by
 unfold pLn
 rw [h]
 rfl
theorem pl_other (h:splitC 32 l=w::ws) (hw:w≠tabW∧w≠colW∧w≠keyW∧w≠forW∧w≠indW∧w≠uniW):pLn rdS nz l=none:=by
 unfold pLn
 rw [h]
 simp only
 rw [if_neg hw.1,if_neg hw.2.1,if_neg hw.2.2.1,if_neg hw.2.2.2.1,if_neg (by rintro (h | h)<;>simp_all)]
end
def Room (t:Tbl) (m:Nat):Prop:=t.cols.length≤m∧t.fgn.length≤m∧t.idx.length≤m
theorem Room.put {t:Tbl} {m:Nat} (h:Room t m):∀ n:Ln,isTab n=false→Room (putL t n) (m+1)
 | .table _,e=>by simp [isTab] at e
 | .column c,_=>by obtain ⟨a,b,c⟩:=h;simp [Room,putL];omega
 | .key _,_=>by obtain ⟨a,b,c⟩:=h;simp [Room,putL];omega
 | .foreign _,_=>by obtain ⟨a,b,c⟩:=h;simp [Room,putL];omega
 | .index _,_=>by obtain ⟨a,b,c⟩:=h;simp [Room,putL];omega
section
variable (x:List Tbl) (hx:x.length≤1000000) (t:Tbl) (kv:AV) (k:Bool)
include hx
theorem step_B (hk:KvOk t kv) {m:Nat} (hR:Room t m) (hm:m≤1000000) (l:List UInt8) (hl:l.length≤1000000) :
  (∃ (nm:List UInt8) (b':Bool),R K (.call 26 [.ptr 0 0,.ptr 1 0,.str l,.ptr 2 0] (HB false x t kv k))=some (.tup [],HN b' x t kv nm)∧((k=true∧pLn rdS true l=some (.table nm)∧b'=false)∨(b'=true∧∀ n,pLn rdS true l=some n→isTab n=true∧k=false))) ∨
  (∃ (b':Bool) (t':Tbl) (kv':AV) (k':Bool),R K (.call 26 [.ptr 0 0,.ptr 1 0,.str l,.ptr 2 0] (HB false x t kv k))=some (.tup [],HB b' x t' kv' k')∧KvOk t' kv'∧Room t' (m+1) ∧
   ((b'=false∧∃ n,pLn rdS true l=some n∧isTab n=false∧stepP t k n=some (t',k'))∨(b'=true∧∀ n,pLn rdS true l=some n→isTab n=false∧stepP t k n=none))):=by
 obtain ⟨r1,r2,r3⟩:=hR
 have hR':Room t m:=⟨r1,r2,r3⟩
 cases h:splitC 32 l with
 | nil=>exact absurd h (splitC_ne 32 l)
 | cons w ws =>
  by_cases w1:w=tabW
  ·subst w1
   refine .inl ?_
   cases k with
   | true =>
    obtain ⟨nm,b',e,hs⟩:=s_tab_true x hx t kv hk l hl ws h
    refine ⟨nm,b',e,?_⟩
    rw [pl_tab h]
    rcases hs with ⟨h1,h2⟩ | ⟨h1,h2⟩
    ·exact .inl ⟨rfl,h1,h2⟩
    ·exact .inr ⟨h2,fun n hn=>absurd (h1.symm.trans hn) (by simp)⟩
   | false =>
    obtain ⟨nm,b',e,hs⟩:=s_tab_false x hx t kv hk l hl ws h
    refine ⟨nm,b',e,.inr ⟨hs,fun n hn=>?_⟩⟩
    rw [pl_tab h] at hn
    split at hn
    ·split at hn
     ·obtain rfl:=Option.some.inj hn;exact ⟨rfl,rfl⟩
     ·simp at hn
    ·simp at hn
  refine .inr ?_
  by_cases w2:w=colW
  ·subst w2
   obtain ⟨c,b',e,hs⟩:=s_col x hx t kv k hk (by omega) l hl ws h
   refine ⟨b',_,kv,k,e,?_,hR'.put (.column c) rfl,?_⟩
   ·exact hk
   ·rw [pl_col h]
    rcases hs with ⟨h1,h2⟩ | ⟨h1,h2⟩
    ·exact .inl ⟨h2,_,h1,rfl,rfl⟩
    ·exact .inr ⟨h2,fun n hn=>absurd (h1.symm.trans hn) (by simp)⟩
  by_cases w3:w=keyW
  ·subst w3
   refine ⟨_,_,_,true,s_key x hx t kv k hk l hl ws h,.inr rfl,hR'.put (.key ws) rfl,?_⟩
   rw [pl_key h]
   cases ha:ws.all nmB
   ·exact .inr ⟨by simp,fun n hn=>by simp at hn⟩
   ·cases k
    ·exact .inl ⟨by simp,_,rfl,rfl,rfl⟩
    ·exact .inr ⟨by simp,fun n hn=>by simp at hn;subst hn;exact ⟨rfl,rfl⟩⟩
  by_cases w4:w=forW
  ·subst w4
   obtain ⟨c,b',e,hs⟩:=s_for x hx t kv k hk (by omega) l hl ws h
   refine ⟨b',_,kv,k,e,?_,hR'.put (.foreign c) rfl,?_⟩
   ·exact hk
   ·rw [pl_for h]
    rcases hs with ⟨h1,h2⟩ | ⟨h1,h2⟩
    ·exact .inl ⟨h2,_,h1,rfl,rfl⟩
    ·exact .inr ⟨h2,fun n hn=>absurd (h1.symm.trans hn) (by simp)⟩
  by_cases w5:w=indW
  ·subst w5
   obtain ⟨c,b',e,hs⟩:=s_index x hx t kv k hk (by omega) l hl ws h
   refine ⟨b',_,kv,k,e,?_,hR'.put (.index c) rfl,?_⟩
   ·exact hk
   ·rw [pl_ind h]
    rcases hs with ⟨h1,h2⟩ | ⟨h1,h2⟩
    ·exact .inl ⟨h2,_,h1,rfl,rfl⟩
    ·exact .inr ⟨h2,fun n hn=>absurd (h1.symm.trans hn) (by simp)⟩
  by_cases w6:w=uniW
  ·subst w6
   obtain ⟨c,b',e,hs⟩:=s_unique x hx t kv k hk (by omega) l hl ws h
   refine ⟨b',_,kv,k,e,?_,hR'.put (.index c) rfl,?_⟩
   ·exact hk
   ·rw [pl_uni h]
    rcases hs with ⟨h1,h2⟩ | ⟨h1,h2⟩
    ·exact .inl ⟨h2,_,h1,rfl,rfl⟩
    ·exact .inr ⟨h2,fun n hn=>absurd (h1.symm.trans hn) (by simp)⟩
  have hw:w≠tabW∧w≠colW∧w≠keyW∧w≠forW∧w≠indW∧w≠uniW:=⟨w1,w2,w3,w4,w5,w6⟩
  refine ⟨true,t,kv,k,s_other x hx t kv k hk l hl w ws h hw,hk,⟨by omega,by omega,by omega⟩,.inr ⟨rfl,fun n hn=>?_⟩⟩
  rw [pl_other h hw] at hn
  simp at hn
end
theorem step_A (k:Bool) (l:List UInt8) (hl:l.length≤1000000) :
  (∃ (nm:List UInt8) (b':Bool),R K (.call 26 [.ptr 0 0,.ptr 1 0,.str l,.ptr 2 0] (HA false k))=some (.tup [],HA1 b' nm)∧((pLn rdS true l=some (.table nm)∧b'=false)∨(b'=true∧pLn rdS true l=none))) ∨
  (R K (.call 26 [.ptr 0 0,.ptr 1 0,.str l,.ptr 2 0] (HA false k))=some (.tup [],HA true k)∧∀ n,pLn rdS true l=some n→isTab n=false):=by
 cases h:splitC 32 l with
 | nil=>exact absurd h (splitC_ne 32 l)
 | cons w ws =>
  by_cases w1:w=tabW
  ·subst w1
   obtain ⟨nm,b',e,hs⟩:=a_tab k l hl ws h
   refine .inl ⟨nm,b',e,?_⟩
   rw [pl_tab h]
   rcases hs with ⟨h1,h2⟩ | ⟨h1,h2⟩
   ·exact .inl ⟨h1,h2⟩
   ·exact .inr ⟨h2,h1⟩
  ·refine .inr ⟨a_other k l hl w ws h w1,fun n hn=>?_⟩
   unfold pLn at hn
   rw [h] at hn
   simp only at hn
   rw [if_neg w1] at hn
   split at hn
   ·obtain ⟨c,rfl,_⟩:=pCol_fit hn;rfl
   split at hn
   ·split at hn
    ·obtain rfl:=Option.some.inj hn;rfl
    ·simp at hn
   split at hn
   ·split at hn
    ·split at hn
     ·obtain rfl:=Option.some.inj hn;rfl
     ·simp at hn
    ·simp at hn
   split at hn
   ·split at hn
    ·split at hn
     ·obtain rfl:=Option.some.inj hn;rfl
     ·simp at hn
    ·simp at hn
   ·simp at hn
theorem renR_app (σ:Nat→Nat):∀ a b:List (List AV),renR σ (a++b)=renR σ a++renR σ b
 | [],b=>rfl
 | r::a,b=>by simp only [List.cons_append,renR];rw [renR_app σ a b]
theorem renR_tbls (σ:Nat→Nat):∀ l:List Tbl,renR σ (l.map tblC)=l.map tblC
 | []=>rfl
 | u::l=>by simpa [tblC,renR,renL,ren] using renR_tbls σ l
theorem renR_cols (σ:Nat→Nat):∀ l:List Col,renR σ (l.map colC)=l.map colC
 | []=>rfl
 | u::l=>by simpa [colC,renR,renL,ren] using renR_cols σ l
theorem renR_fgns (σ:Nat→Nat):∀ l:List Fgn,renR σ (l.map fgnC)=l.map fgnC
 | []=>rfl
 | u::l=>by simpa [fgnC,renR,renL,ren] using renR_fgns σ l
theorem renR_idxs (σ:Nat→Nat):∀ l:List Idx,renR σ (l.map idxC)=l.map idxC
 | []=>rfl
 | u::l=>by simpa [idxC,renR,renL,ren] using renR_idxs σ l
theorem kv_ren {t:Tbl} {kv:AV} (h:KvOk t kv) (σ:Nat→Nat):ren σ kv=kv:=by
 rcases h with ⟨rfl,_⟩ | rfl<;>rfl
abbrev rowC (t:Tbl) (kv:AV):List AV:=[.str t.nm,.own 5 t.cols.length,kv,.own 6 t.fgn.length,.own 7 t.idx.length]
abbrev CA (b k:Bool):Heap:=[.cells [.nils],rB b,.cells [.own 4 0],.cells [.bool k],.rows 5 [] true]
abbrev CB (b:Bool) (x:List Tbl) (t:Tbl) (kv:AV) (k:Bool):Heap:=[.cells [.nils],rB b,.cells [.own 4 (x.length+1)],.cells [.bool k],.rows 5 (x.map tblC++[rowC t kv]) true,.rows 6 (t.cols.map colC) true,.rows 3 (t.fgn.map fgnC) true,.rows 3 (t.idx.map idxC) true]
abbrev FIN (b:Bool) (y:List Tbl) (k:Bool):Heap:=[.cells [.nils],rB b,.cells [.rows (y.map tblC)],.cells [.bool k],.hole]
abbrev LFr (s:List UInt8) (ls:List (List UInt8)) (i:Int):Fr:=[(0,.str s),(2,.ptr 0 0),(6,.ptr 1 0),(7,.ptr 2 0),(8,.ptr 3 0),(25,.rows (SLs ls)),(26,I (ls.length:Int)),(27,I i)]
abbrev OFr (s:List UInt8):Fr:=[(0,.str s),(2,.ptr 0 0),(6,.ptr 1 0),(7,.ptr 2 0),(8,.ptr 3 0)]
abbrev LKs (Bo:Code) (ks:List It):List It:=.code Bo::.lp Bo (some ([0,2,6,7,8,25,26,27],[])) 5::.blk 0 5::ks
section
variable (s:List UInt8) (ls:List (List UInt8)) (hl:ls.length≤1000000) (ks:List It) (Bo:Code) (hB:Loop Tryz.f11 0 Bo)
include hl hB
theorem exit_A (b k:Bool):RL K (.run 11 0 (LKs Bo ks) (LFr s ls (ls.length:Int)) (CA b k))=R K (.run 11 0 ks (OFr s) (FIN b [] k)):=by
 have d:¬(ls.length:Int) < (ls.length:Int):=by omega
 unfold Loop at hB
 simp -implicitDefEqProofs only [go_sem,simprocAttr,Tryz.f11,loopOf] at hB
 subst hB
 rw [RL_eq]
 simp -implicitDefEqProofs only [go_sem,simprocAttr,d,rB,isF]
 rfl
theorem exit_B (b:Bool) (x:List Tbl) (t:Tbl) (kv:AV) (hk:KvOk t kv) (k:Bool):RL K (.run 11 0 (LKs Bo ks) (LFr s ls (ls.length:Int)) (CB b x t kv k))=R K (.run 11 0 ks (OFr s) (FIN b (x++[t]) k)):=by
 have d:¬(ls.length:Int) < (ls.length:Int):=by omega
 have n0:(0 < x.length+1)=True:=eq_true (by omega)
 have e:(x++[t]).map tblC=x.map tblC++[tblC t]:=by simp
 simp only [FIN]
 rw [e]
 simp only [tblC]
 rcases hk with ⟨rfl,hk⟩ | rfl
 ·rw [hk]
  unfold Loop at hB
  simp -implicitDefEqProofs only [go_sem,simprocAttr,Tryz.f11,loopOf] at hB
  subst hB
  rw [RL_eq]
  simp -implicitDefEqProofs only [go_sem,simprocAttr,d,rB,isF,n0,Nat.add_sub_cancel,Nat.sub_zero,tl_get,tl_set,List.length_map,List.length_append,locsR_SLs,locsR_app,locsR_tbls,locsR_cols,locsR_fgns,locsR_idx,hk]
  all_goals rfl
 ·unfold Loop at hB
  simp -implicitDefEqProofs only [go_sem,simprocAttr,Tryz.f11,loopOf] at hB
  subst hB
  rw [RL_eq]
  simp -implicitDefEqProofs only [go_sem,simprocAttr,d,rB,isF,n0,Nat.add_sub_cancel,Nat.sub_zero,tl_get,tl_set,List.length_map,List.length_append,locsR_SLs,locsR_app,locsR_tbls,locsR_cols,locsR_fgns,locsR_idx]
  all_goals rfl
theorem turn_bad (x:List Tbl) (t:Tbl) (kv:AV) (hk:KvOk t kv) (k:Bool) (j:Nat) (hj:j < ls.length):RL K (.run 11 0 (LKs Bo ks) (LFr s ls (j:Int)) (CB true x t kv k))=RL K (.run 11 0 (LKs Bo ks) (LFr s ls ((j+1:Nat):Int)) (CB true x t kv k)):=by
 have d:(j:Int) < (ls.length:Int):=by omega
 have h7:=next_id (i:=j) (n:=ls.length) (by omega) (by omega)
 obtain ⟨c,hc⟩:=some_at (l:=ls) (i:=j) (by omega)
 have gc:=str_get hc
 have hv:=kv_locs hk
 unfold Loop at hB
 simp -implicitDefEqProofs only [go_sem,simprocAttr,Tryz.f11,loopOf] at hB
 subst hB
 rw [RL_eq]
 simp -implicitDefEqProofs only [go_sem,simprocAttr,d,h7,gc,hv,rB,isF,locsR_SLs,locsR_app,locsR_tbls,locsR_cols,locsR_fgns,locsR_idx]
 all_goals rfl
theorem turn_badA (k:Bool) (j:Nat) (hj:j < ls.length):RL K (.run 11 0 (LKs Bo ks) (LFr s ls (j:Int)) (CA true k))=RL K (.run 11 0 (LKs Bo ks) (LFr s ls ((j+1:Nat):Int)) (CA true k)):=by
 have d:(j:Int) < (ls.length:Int):=by omega
 have h7:=next_id (i:=j) (n:=ls.length) (by omega) (by omega)
 obtain ⟨c,hc⟩:=some_at (l:=ls) (i:=j) (by omega)
 have gc:=str_get hc
 unfold Loop at hB
 simp -implicitDefEqProofs only [go_sem,simprocAttr,Tryz.f11,loopOf] at hB
 subst hB
 rw [RL_eq]
 simp -implicitDefEqProofs only [go_sem,simprocAttr,d,h7,gc,rB,isF,locsR]
 all_goals rfl
theorem turn_B (x:List Tbl) (t t':Tbl) (kv kv':AV) (hk:KvOk t kv) (hk':KvOk t' kv') (k b' k':Bool) (j:Nat) (l:List UInt8) (hj:ls[j]? = some l) (e:R K (.call 26 [.ptr 0 0,.ptr 1 0,.str l,.ptr 2 0] (HB false x t kv k))=some (.tup [],HB b' x t' kv' k')) :
  RL K (.run 11 0 (LKs Bo ks) (LFr s ls (j:Int)) (CB false x t kv k))=RL K (.run 11 0 (LKs Bo ks) (LFr s ls ((j+1:Nat):Int)) (CB b' x t' kv' k')):=by
 have hlt:=(List.getElem?_eq_some_iff.1 hj).1
 have d:(j:Int) < (ls.length:Int):=by omega
 have h7:=next_id (i:=j) (n:=ls.length) (by omega) (by omega)
 have gc:=str_get hj
 have hv:=kv_locs hk
 have hv':=kv_locs hk'
 have hr:=kv_ren hk
 have hr':=kv_ren hk'
 have n0:(0 < x.length+1)=True:=eq_true (by omega)
 simp only [HB,rowT,rB] at e
 unfold Loop at hB
 simp -implicitDefEqProofs only [go_sem,simprocAttr,Tryz.f11,loopOf] at hB
 subst hB
 rw [RL_eq]
 simp -implicitDefEqProofs only [go_sem,simprocAttr,d,h7,gc,hv,hv',hr,hr',e,lastN,rB,isF,n0,bne,Int.toNat_natCast,Nat.add_sub_cancel,Nat.sub_zero,tl_get,tl_set,List.length_map,List.length_append,locsR_SLs,locsR_app,locsR_tbls,locsR_cols,locsR_fgns,locsR_idx,renR_app,renR_tbls,renR_cols,renR_fgns,renR_idxs,or_true,ne_eq,not_false_eq_true,false_or,reduceCtorEq]
 all_goals rfl
end
theorem tl_get2 (x:List Tbl) (r r2:List AV) (s:List (List AV)):(x.map tblC++r::r2::s)[x.length+1]? = some r2:=by
 rw [List.getElem?_append_right (by simp)]
 simp
theorem tl_set2 (x:List Tbl) (r r2 r':List AV) (s:List (List AV)):(x.map tblC++r::r2::s).set (x.length+1) r'=x.map tblC++r::r'::s:=by
 rw [List.set_append_right _ _ (by simp)]
 simp
section
variable (s:List UInt8) (ls:List (List UInt8)) (hl:ls.length≤1000000) (ks:List It) (Bo:Code) (hB:Loop Tryz.f11 0 Bo)
include hl hB
theorem turn_A1 (k b':Bool) (nm:List UInt8) (j:Nat) (l:List UInt8) (hj:ls[j]? = some l) (e:R K (.call 26 [.ptr 0 0,.ptr 1 0,.str l,.ptr 2 0] (HA false k))=some (.tup [],HA1 b' nm)) :
  RL K (.run 11 0 (LKs Bo ks) (LFr s ls (j:Int)) (CA false k))=RL K (.run 11 0 (LKs Bo ks) (LFr s ls ((j+1:Nat):Int)) (CB b' [] (newT nm) .nils false)):=by
 have hlt:=(List.getElem?_eq_some_iff.1 hj).1
 have d:(j:Int) < (ls.length:Int):=by omega
 have h7:=next_id (i:=j) (n:=ls.length) (by omega) (by omega)
 have gc:=str_get hj
 simp only [HA,HA1,newR0,rB] at e
 unfold Loop at hB
 simp -implicitDefEqProofs only [go_sem,simprocAttr,Tryz.f11,loopOf] at hB
 subst hB
 rw [RL_eq]
 simp -implicitDefEqProofs only [go_sem,simprocAttr,d,h7,gc,e,lastN,List.range_zero,rB,isF,bne,Int.toNat_natCast,or_true,ne_eq,not_false_eq_true,false_or,reduceCtorEq,locsR,renR]
 all_goals rfl
theorem turn_A2 (k:Bool) (j:Nat) (l:List UInt8) (hj:ls[j]? = some l) (e:R K (.call 26 [.ptr 0 0,.ptr 1 0,.str l,.ptr 2 0] (HA false k))=some (.tup [],HA true k)) :
  RL K (.run 11 0 (LKs Bo ks) (LFr s ls (j:Int)) (CA false k))=RL K (.run 11 0 (LKs Bo ks) (LFr s ls ((j+1:Nat):Int)) (CA true k)):=by
 have hlt:=(List.getElem?_eq_some_iff.1 hj).1
 have d:(j:Int) < (ls.length:Int):=by omega
 have h7:=next_id (i:=j) (n:=ls.length) (by omega) (by omega)
 have gc:=str_get hj
 simp only [HA,rB] at e
 unfold Loop at hB
 simp -implicitDefEqProofs only [go_sem,simprocAttr,Tryz.f11,loopOf] at hB
 subst hB
 rw [RL_eq]
 simp -implicitDefEqProofs only [go_sem,simprocAttr,d,h7,gc,e,lastN,List.range_zero,rB,isF,bne,Int.toNat_natCast,or_true,ne_eq,not_false_eq_true,false_or,reduceCtorEq,locsR,renR]
 all_goals rfl
theorem turn_N (x:List Tbl) (t:Tbl) (kv:AV) (hk:KvOk t kv) (k b':Bool) (nm:List UInt8) (j:Nat) (l:List UInt8) (hj:ls[j]? = some l) (e:R K (.call 26 [.ptr 0 0,.ptr 1 0,.str l,.ptr 2 0] (HB false x t kv k))=some (.tup [],HN b' x t kv nm)) :
  RL K (.run 11 0 (LKs Bo ks) (LFr s ls (j:Int)) (CB false x t kv k))=RL K (.run 11 0 (LKs Bo ks) (LFr s ls ((j+1:Nat):Int)) (CB b' (x++[t]) (newT nm) .nils false)):=by
 have hlt:=(List.getElem?_eq_some_iff.1 hj).1
 have d:(j:Int) < (ls.length:Int):=by omega
 have h7:=next_id (i:=j) (n:=ls.length) (by omega) (by omega)
 have gc:=str_get hj
 have hv:=kv_locs hk
 have hr:=kv_ren hk
 have n1:(1 < x.length+1+1)=True:=eq_true (by omega)
 have e1:(x++[t]).map tblC=x.map tblC++[tblC t]:=by simp
 have e2:(x++[t]).length=x.length+1:=by simp
 simp only [HB,HN,newR0,rowT,rB] at e
 simp only [CB]
 rw [e1,e2]
 simp only [tblC,newT]
 have hkey:(kv=.nils∧SLs t.key=[])∨kv=.rows (SLs t.key):=by
  rcases hk with ⟨h1,h2⟩ | h
  ·exact .inl ⟨h1,by rw [h2];rfl⟩
  ·exact .inr h
 generalize SLs t.key=sk at *
 rcases hkey with ⟨rfl,rfl⟩ | rfl
 ·unfold Loop at hB
  simp -implicitDefEqProofs only [go_sem,simprocAttr,Tryz.f11,loopOf] at hB
  subst hB
  rw [RL_eq]
  simp -implicitDefEqProofs only [go_sem,simprocAttr,d,h7,gc,hv,hr,e,lastN,List.range_zero,n1,rB,isF,bne,Int.toNat_natCast,Nat.add_sub_cancel,Nat.sub_zero,tl_get,tl_set,tl_get2,tl_set2,List.length_map,List.length_append,locsR_SLs,locsR_app,locsR_tbls,locsR_cols,locsR_fgns,locsR_idx,renR_app,renR_tbls,renR_cols,renR_fgns,renR_idxs,or_true,ne_eq,not_false_eq_true,false_or,reduceCtorEq,List.append_assoc]
  all_goals rfl
 ·unfold Loop at hB
  simp -implicitDefEqProofs only [go_sem,simprocAttr,Tryz.f11,loopOf] at hB
  subst hB
  rw [RL_eq]
  simp -implicitDefEqProofs only [go_sem,simprocAttr,d,h7,gc,hv,hr,e,lastN,List.range_zero,n1,rB,isF,bne,Int.toNat_natCast,Nat.add_sub_cancel,Nat.sub_zero,tl_get,tl_set,tl_get2,tl_set2,List.length_map,List.length_append,locsR_SLs,locsR_app,locsR_tbls,locsR_cols,locsR_fgns,locsR_idx,renR_app,renR_tbls,renR_cols,renR_fgns,renR_idxs,or_true,ne_eq,not_false_eq_true,false_or,reduceCtorEq,List.append_assoc]
  all_goals rfl
end
theorem jn_cnt:∀ (ws:List (List UInt8)) (w:List UInt8),ws.length+w.length≤(jnW (w::ws)).length
 | [],w=>by simp [jnW]
 | v::r,w=>by
  have:=jn_cnt r v
  rw [jn_head,List.length_append,List.length_cons,List.length_cons]
  omega
theorem fitS_mem {x:List Tbl} (h:FitS x) {n:Ln} (hn:n∈lns x):(lnS n).length≤100000000000:=by
 have h1:=sumW_mem lnW hn
 have h2:=h.sum
 have h3:lnW n=(lnS n).length+1:=rfl
 omega
theorem in_lns {x:List Tbl} {t:Tbl} (ht:t∈x) {n:Ln} (hn:n∈lnsT t):n∈lns x:=List.mem_flatMap.2 ⟨t,ht,hn⟩
theorem fit_col {x:List Tbl} (h:FitS x) {t:Tbl} (ht:t∈x):∀ c∈t.cols,c.nm.length≤200000000000∧(1≤c.kd∧c.kd≤4):=fun c hc=>by
 refine ⟨?_,h.kd t ht c hc⟩
 have h1:=fitS_mem h (in_lns ht (n:=.column c) (by simp [lnsT,hc]))
 have h2:(lnS (.column c)).length=(jnW (colW::c.nm::kdT c.kd::((if c.nl=true then [nulW] else [])++dfW showS c))).length:=rfl
 have h3:=jn_cnt (kdT c.kd::((if c.nl=true then [nulW] else [])++dfW showS c)) c.nm
 rw [jn_head] at h2
 simp only [List.length_append,List.length_cons] at h2 h3
 omega
theorem fit_for {x:List Tbl} (h:FitS x) {t:Tbl} (ht:t∈x):∀ c∈t.fgn,c.cols.length≤200000000000∧(lnS (.foreign c)).length≤1000000000000:=fun c hc=>by
 have h1:=fitS_mem h (in_lns ht (n:=.foreign c) (by simp [lnsT,hc]))
 have h2:=jn_cnt (c.nm::c.tb::c.cols) forW
 have h3:(lnS (.foreign c)).length=(jnW (forW::c.nm::c.tb::c.cols)).length:=rfl
 simp only [List.length_cons] at h2
 exact ⟨by omega,by omega⟩
theorem fit_idx {x:List Tbl} (h:FitS x) {t:Tbl} (ht:t∈x):∀ c∈t.idx,c.cols.length≤200000000000∧(lnS (.index c)).length≤1000000000000:=fun c hc=>by
 have h1:=fitS_mem h (in_lns ht (n:=.index c) (by simp [lnsT,hc]))
 have h2:=jn_cnt (c.nm::c.cols) (if c.uq=true then uniW else indW)
 have h3:(lnS (.index c)).length=(jnW ((if c.uq=true then uniW else indW)::c.nm::c.cols)).length:=rfl
 simp only [List.length_cons] at h2
 exact ⟨by omega,by omega⟩
theorem fit_key {x:List Tbl} (h:FitS x) {t:Tbl} (ht:t∈x):t.key.length≤200000000000∧(lnS (.key t.key)).length≤1000000000000∧t.nm.length≤100000000000:=by
 have h1:=fitS_mem h (in_lns ht (n:=.key t.key) (by simp [lnsT]))
 have h4:=fitS_mem h (in_lns ht (n:=.table t.nm) (by simp [lnsT]))
 have h2:=jn_cnt t.key keyW
 have h3:(lnS (.key t.key)).length=(jnW (keyW::t.key)).length:=rfl
 have h5:(lnS (.table t.nm)).length=(jnW [tabW,t.nm]).length:=rfl
 have h6:=jn_cnt [] t.nm
 rw [jn_head] at h5
 simp only [List.length_append,List.length_cons,List.length_nil] at h5 h6
 exact ⟨by omega,by omega,by omega⟩
theorem lnsT_len (t:Tbl):(lnsT t).length=1+t.cols.length+1+t.fgn.length+t.idx.length:=by simp only [lnsT,List.length_cons,List.length_append,List.length_map];omega
theorem lns_drop {x:List Tbl} {j:Nat} {t:Tbl} (h:x[j]? = some t):(lns (x.drop j)).map lnS=lnS (.table t.nm)::(t.cols.map (fun c=>lnS (.column c))++lnS (.key t.key)::(t.fgn.map (fun c=>lnS (.foreign c))++(t.idx.map (fun c=>lnS (.index c))++(lns (x.drop (j+1))).map lnS))):=by
 rw [drop_get h,lns_cons]
 simp only [List.map_cons,List.map_append,List.map_map]
 rfl
theorem l_sx (x:List Tbl) (hS:FitS x) (hl:x.length≤1000000) (ks:List It):∀ (q j:Nat) (acc acc':List (List UInt8)) (Bo:Code) (jj:Int),Loop Tryz.f17 0 Bo→jj=(j:Int)→x.length=j+q→acc.length+(lns (x.drop j)).length≤1000000→acc'=acc++(lns (x.drop j)).map lnS →
  RL K (.run 17 0 (.code Bo::.lp Bo (some ([3,14,15,16],[])) 2::.blk 0 2::ks) [(3,.own 1 acc.length),(14,.rows (x.map tblC)),(15,I (x.length:Int)),(16,I jj)] [.cells [.rows (x.map tblC)],.rows 1 (SLs acc) false]) =
  R K (.run 17 0 ks [(3,.own 1 acc'.length)] [.cells [.rows (x.map tblC)],.rows 1 (SLs acc') false])
 | 0,j,acc,acc',Bo,jj,hB,hj,hq,ha,he=>by
  subst hj
  have d:¬(j:Int) < (x.length:Int):=by omega
  rw [List.drop_of_length_le (by omega),show lns []=[] from rfl,List.map_nil,List.append_nil] at he
  subst he
  unfold Loop at hB
  simp -implicitDefEqProofs only [go_sem,simprocAttr,Tryz.f17,loopOf] at hB
  subst hB
  rw [RL_eq]
  simp -implicitDefEqProofs only [go_sem,simprocAttr,d,locsR_SLs]
 | q+1,j,acc,acc',Bo,jj,hB,hj,hq,ha,he=>by
  subst hj
  have hB':=hB
  have d:(j:Int) < (x.length:Int):=by omega
  have h7:=next_id (i:=j) (n:=x.length) (by omega) (by omega)
  obtain ⟨t,ht⟩:=some_at (l:=x) (i:=j) (by omega)
  have hm:=List.mem_of_getElem? ht
  have gc:=tbl_get ht
  have hlen:(lns (x.drop j)).length=(lnsT t).length+(lns (x.drop (j+1))).length:=by rw [drop_get ht,lns_cons',List.length_append]
  rw [lnsT_len] at hlen
  obtain ⟨k1,k2,k3⟩:=fit_key hS hm
  have kj:=c_joined t.key [keyW] k1 (by simp) (by simp) k2
  have e1:jnW ([keyW]++t.key)=lnS (.key t.key):=rfl
  rw [e1] at kj
  have st:(6+t.nm.length≤strMax)=True:=room_s (by omega)
  rw [lns_drop ht] at he
  obtain ⟨a1,ha1⟩:∃ a,a=acc++[lnS (.table t.nm)]:=⟨_,rfl⟩
  obtain ⟨a2,ha2⟩:∃ a,a=a1++(t.cols.drop 0).map (fun c=>lnS (.column c)):=⟨_,rfl⟩
  obtain ⟨a3,ha3⟩:∃ a,a=a2++[lnS (.key t.key)]:=⟨_,rfl⟩
  obtain ⟨a4,ha4⟩:∃ a,a=a3++(t.fgn.drop 0).map (fun c=>lnS (.foreign c)):=⟨_,rfl⟩
  obtain ⟨a5,ha5⟩:∃ a,a=a4++(t.idx.drop 0).map (fun c=>lnS (.index c)):=⟨_,rfl⟩
  have n1:a1.length=acc.length+1:=by rw [ha1];simp
  have n2:a2.length=acc.length+1+t.cols.length:=by rw [ha2];simp [n1]
  have n3:a3.length=a2.length+1:=by rw [ha3];simp
  have n4:a4.length=a3.length+t.fgn.length:=by rw [ha4];simp
  have n5:a5.length=a4.length+t.idx.length:=by rw [ha5];simp
  have s1:=SLs_app acc (lnS (.table t.nm))
  rw [←ha1] at s1
  have et:lnS (.table t.nm)=116::97::98::108::101::32::t.nm:=rfl
  rw [et] at s1
  have s3:=SLs_app a2 (lnS (.key t.key))
  rw [←ha3] at s3
  have r1:((acc.length+1)*17≤roomMax)=True:=eq_true (by unfold roomMax;omega)
  have r3:((a2.length+1)*17≤roomMax)=True:=eq_true (by unfold roomMax;omega)
  have lC:=fun ks B hB=>l_sxC x (j:Int) t (fit_col hS hm) (by omega) ks t.cols.length 0 a1 a2 B 0 hB rfl (by omega) (by omega) ha2
  have lF:=fun ks B hB=>l_sxF x (j:Int) t (fit_for hS hm) (by omega) ks t.fgn.length 0 a3 a4 B 0 hB rfl (by omega) (by omega) ha4
  have lI:=fun ks B hB=>l_sxI x (j:Int) t (fit_idx hS hm) (by omega) ks t.idx.length 0 a4 a5 B 0 hB rfl (by omega) (by omega) ha5
  have ih:=l_sx x hS hl ks q (j+1) a5 acc' Bo _ hB' rfl (by omega) (by omega) (by rw [he,ha5,ha4,ha3,ha2,ha1];simp)
  rw [n1] at lC
  rw [n3] at lF
  clear he ha1 ha2 ha3 ha4 ha5 hB' hlen
  simp only [tblC,SLs,List.map_cons,List.map_nil] at gc lC lF lI kj
  generalize lnS (.key t.key)=w at *
  unfold Loop at hB
  simp -implicitDefEqProofs only [go_sem,simprocAttr,Tryz.f17,loopOf] at hB
  subst hB
  rw [RL_eq]
  simp -implicitDefEqProofs only [go_sem,simprocAttr,d,h7,gc,tblC,st,s1,r1,SLs_len,locsR_SLs]
  rw [lC _ _ ?_]
  ·simp -implicitDefEqProofs only [go_sem,simprocAttr,tblC,kj,s3,r3,SLs_len,locsR_SLs,locsR_cols]
   rw [lF _ _ ?_]
   ·simp -implicitDefEqProofs only [go_sem,simprocAttr,tblC,SLs_len,locsR_SLs]
    rw [lI _ _ ?_]
    ·simp -implicitDefEqProofs only [go_sem,simprocAttr,h7,tblC,SLs_len,locsR_SLs]
     exact ih
    ·rfl
   ·rfl
  ·rfl
theorem join_nl:∀ (r:List (List UInt8)) (x:List UInt8),Lib.join (x::r) [10]++[10]=(x::r).flatMap fun w=>w++[10]
 | [],x=>by simp [Lib.join_one]
 | y::r,x=>by
  have ih:=join_nl r y
  rw [Lib.join_cons] at ih ⊢
  rw [List.flatMap_cons,←ih]
  simp [Lib.joinTail]
theorem c_listing (l:List (List UInt8)) (hl:l.length≤1000000) (hs:(l.flatMap fun w=>w++[10]).length≤1000000000000):R K (.call 63 [.rows (SLs l)] [])=some (.str (l.flatMap fun w=>w++[10]),[]):=by
 cases l with
 | nil =>
  rw [call_63]
  simp -implicitDefEqProofs only [go_sem,simprocAttr,Tryz.f63,SLs,List.map_nil,beq_self_eq_true]
  all_goals rfl
 | cons a r =>
  have e:=join_nl r a
  rw [←e] at hs ⊢
  rw [List.length_append,List.length_singleton] at hs
  have hp:=p_JoinB (a::r) [10] (by simp only [List.length_cons] at hl ⊢;omega) (by omega)
  have d:(((r.length+1:Nat):Int)==0)=false:=by simp;omega
  have st:((Lib.join (a::r) [10]).length+1≤strMax)=True:=room_s (by omega)
  simp only [SLs,List.map_cons] at hp
  generalize Lib.join (a::r) [10]=w at *
  rw [call_63]
  simp -implicitDefEqProofs only [go_sem,simprocAttr,Tryz.f63,SLs,List.map_cons,List.length_map,d,hp,st]
  all_goals rfl
theorem lns_ge (y:List Tbl):y.length≤(lns y).length:=by
 induction y with
 | nil=>simp
 | cons t y ih =>
  rw [lns_cons',List.length_append,List.length_cons]
  have:1≤(lnsT t).length:=by simp [lnsT]
  omega
theorem c_schemaText (x:List Tbl) (hS:FitS x):R K (.call 17 [schC x] [])=some (.str (txtOf (lnTx showS) x),[]):=by
 have hl:=lns_ge x
 have h1:=hS.len
 have h2:=hS.sum
 rw [←txt_len] at h2
 have hc:=c_listing ((lns x).map lnS) (by simpa using h1) (by show (txtOf (lnTx showS) x).length≤_;omega)
 have e:((lns x).map lnS).flatMap (fun w=>w++[10])=txtOf (lnTx showS) x:=rfl
 rw [e] at hc
 obtain ⟨a1,ha1⟩:∃ a,a=[]++(lns (x.drop 0)).map lnS:=⟨_,rfl⟩
 have lk:=fun ks B hB=>l_sx x hS (by omega) ks x.length 0 [] a1 B 0 hB rfl (by omega) (by simpa using h1) ha1
 simp only [List.drop_zero,List.nil_append] at ha1
 rw [←ha1] at hc
 have en:SLs []=([]:List (List AV)):=rfl
 simp only [en,List.length_nil,Int.natCast_zero] at lk
 generalize txtOf (lnTx showS) x=w at *
 rw [call_17]
 simp -implicitDefEqProofs only [go_sem,simprocAttr,Tryz.f17,List.length_map]
 rw [lk _ _ ?_]
 ·simp -implicitDefEqProofs only [go_sem,simprocAttr,hc,locsR_SLs,SLs_len,or_true]
 ·rfl
noncomputable def wrX (x:List Tbl):List UInt8×Int:=if chkE x=0 then (if 65536 < (txtOf (lnTx showS) x).length then ([],2) else (txtOf (lnTx showS) x,0)) else ([],chkE x)
theorem c_SchemaText (x:List Tbl) (hF:FitX x):R K (.call 5 [schC x] [])=some (.tup [.str (wrX x).1,I (wrX x).2],[]):=by
 have h1:=c_CheckSchema x hF
 unfold wrX
 by_cases h0:chkE x=0
 ·have h2:=c_schemaText x (right_fit h0)
  rw [h0] at h1
  rw [if_pos h0]
  generalize txtOf (lnTx showS) x=w at *
  by_cases h3:65536 < w.length
  ·have d:((65536:Int) < (w.length:Int))=True:=eq_true (by omega)
   rw [if_pos h3]
   rw [call_5]
   simp -implicitDefEqProofs only [go_sem,simprocAttr,Tryz.f5,h1,h2,d,bne,beq_self_eq_true]
  ·have d:((65536:Int) < (w.length:Int))=False:=eq_false (by omega)
   rw [if_neg h3]
   rw [call_5]
   simp -implicitDefEqProofs only [go_sem,simprocAttr,Tryz.f5,h1,h2,d,bne,beq_self_eq_true]
 ·have d0:(chkE x==0)=false:=by simpa using h0
  rw [if_neg h0]
  generalize chkE x=e at *
  rw [call_5]
  simp -implicitDefEqProofs only [go_sem,simprocAttr,Tryz.f5,h1,d0,bne]
noncomputable def resP (x:List Tbl) (t:Tbl) (k:Bool) (ls:List (List UInt8)):Option (List Tbl):=match readAll (pLn rdS true) ls with
 | some ns=>asmPT x t k ns
 | none=>none
theorem res_bad {x:List Tbl} {t:Tbl} {k:Bool} {l:List UInt8} {r:List (List UInt8)} (h:pLn rdS true l=none):resP x t k (l::r)=none:=by
 simp only [resP,readAll,h]
theorem res_tab {x:List Tbl} {t:Tbl} {k:Bool} {l nm:List UInt8} {r:List (List UInt8)} (h:pLn rdS true l=some (.table nm)):resP x t k (l::r)=if k=true then resP (x++[t]) (newT nm) false r else none:=by
 simp only [resP,readAll,h]
 cases readAll (pLn rdS true) r with
 | none=>simp
 | some ns=>simp only [asmPT]
theorem res_step {x:List Tbl} {t:Tbl} {k:Bool} {l:List UInt8} {n:Ln} {r:List (List UInt8)} (h:pLn rdS true l=some n) (hn:isTab n=false):resP x t k (l::r)=match stepP t k n with
  | some (t',k')=>resP x t' k' r
  | none=>none:=by
 simp only [resP,readAll,h]
 cases readAll (pLn rdS true) r with
 | none=>cases stepP t k n<;>rfl
 | some ns =>
  cases n with
  | table nm=>simp [isTab] at hn
  | key ks=>cases k<;>simp [asmPT,stepP]
  | column c=>simp [asmPT,stepP]
  | foreign f=>simp [asmPT,stepP]
  | index f=>simp [asmPT,stepP]
section
variable (s:List UInt8) (ls:List (List UInt8)) (hl:ls.length≤1000000) (hw:∀ l∈ls,l.length≤1000000)
include hl
theorem bad_B (x:List Tbl) (t:Tbl) (kv:AV) (hk:KvOk t kv) (k:Bool) (ks:List It) (Bo:Code) (hB:Loop Tryz.f11 0 Bo):∀ (m j:Nat),ls.length=j+m →
  RL K (.run 11 0 (LKs Bo ks) (LFr s ls (j:Int)) (CB true x t kv k))=R K (.run 11 0 ks (OFr s) (FIN true (x++[t]) k))
 | 0,j,h=>by
  obtain rfl:j=ls.length:=by omega
  exact exit_B s ls hl ks Bo hB true x t kv hk k
 | m+1,j,h=>by
  rw [turn_bad s ls hl ks Bo hB x t kv hk k j (by omega)]
  exact bad_B x t kv hk k ks Bo hB m (j+1) (by omega)
theorem bad_A (k:Bool) (ks:List It) (Bo:Code) (hB:Loop Tryz.f11 0 Bo):∀ (m j:Nat),ls.length=j+m →
  RL K (.run 11 0 (LKs Bo ks) (LFr s ls (j:Int)) (CA true k))=R K (.run 11 0 ks (OFr s) (FIN true [] k))
 | 0,j,h=>by
  obtain rfl:j=ls.length:=by omega
  exact exit_A s ls hl ks Bo hB true k
 | m+1,j,h=>by
  rw [turn_badA s ls hl ks Bo hB k j (by omega)]
  exact bad_A k ks Bo hB m (j+1) (by omega)
include hw
theorem l_readB:∀ (m j:Nat) (x:List Tbl) (t:Tbl) (kv:AV) (k:Bool) (M:Nat),ls.length=j+m→x.length+m≤1000000→Room t M→M+m≤1000000→KvOk t kv →
  ∃ (b:Bool) (y:List Tbl) (k':Bool),(∀ (ks:List It) (Bo:Code),Loop Tryz.f11 0 Bo→RL K (.run 11 0 (LKs Bo ks) (LFr s ls (j:Int)) (CB false x t kv k))=R K (.run 11 0 ks (OFr s) (FIN b y k'))) ∧
   resP x t k (ls.drop j)=if b=false∧k'=true then some y else none
 | 0,j,x,t,kv,k,M,h,hx,hR,hM,hk=>by
  obtain rfl:j=ls.length:=by omega
  refine ⟨false,x++[t],k,fun ks Bo hB=>exit_B s ls hl ks Bo hB false x t kv hk k,?_⟩
  rw [List.drop_length]
  simp only [resP,readAll,asmPT,true_and]
 | m+1,j,x,t,kv,k,M,h,hx,hR,hM,hk=>by
  obtain ⟨l,hj⟩:=some_at (l:=ls) (i:=j) (by omega)
  have hll:=hw l (List.mem_of_getElem? hj)
  rw [drop_get hj]
  rcases step_B x (by omega) t kv k hk hR (by omega) l hll with ⟨nm,b',e,hs⟩ | ⟨b',t',kv',k',e,hk',hR',hs⟩
  ·rcases hs with ⟨rfl,hp,rfl⟩ | ⟨rfl,hp⟩
   ·obtain ⟨b,y,k'',ih,q⟩:=l_readB m (j+1) (x++[t]) (newT nm) .nils false 0 (by omega) (by simp;omega) ⟨by simp [newT],by simp [newT],by simp [newT]⟩ (by omega) (.inl ⟨rfl,rfl⟩)
    refine ⟨b,y,k'',fun ks Bo hB=>?_,?_⟩
    ·rw [turn_N s ls hl ks Bo hB x t kv hk true false nm j l hj e]
     exact ih ks Bo hB
    ·rw [res_tab hp,if_pos rfl]
     exact q
   ·refine ⟨true,x++[t]++[newT nm],false,fun ks Bo hB=>?_,?_⟩
    ·rw [turn_N s ls hl ks Bo hB x t kv hk k true nm j l hj e]
     exact bad_B s ls hl (x++[t]) (newT nm) .nils (.inl ⟨rfl,rfl⟩) false ks Bo hB m (j+1) (by omega)
    ·cases hq:pLn rdS true l with
     | none=>rw [res_bad hq];simp
     | some n =>
      obtain ⟨h1,rfl⟩:=hp n hq
      cases n with
      | table nm'=>rw [res_tab hq];simp
      | key ks=>simp [isTab] at h1
      | column c=>simp [isTab] at h1
      | foreign f=>simp [isTab] at h1
      | index f=>simp [isTab] at h1
  ·rcases hs with ⟨rfl,n,hp,hn,hst⟩ | ⟨rfl,hp⟩
   ·obtain ⟨b,y,k'',ih,q⟩:=l_readB m (j+1) x t' kv' k' (M+1) (by omega) (by omega) hR' (by omega) hk'
    refine ⟨b,y,k'',fun ks Bo hB=>?_,?_⟩
    ·rw [turn_B s ls hl ks Bo hB x t t' kv kv' hk hk' k false k' j l hj e]
     exact ih ks Bo hB
    ·rw [res_step hp hn,hst]
     exact q
   ·refine ⟨true,x++[t'],k',fun ks Bo hB=>?_,?_⟩
    ·rw [turn_B s ls hl ks Bo hB x t t' kv kv' hk hk' k true k' j l hj e]
     exact bad_B s ls hl x t' kv' hk' k' ks Bo hB m (j+1) (by omega)
    ·cases hq:pLn rdS true l with
     | none=>rw [res_bad hq];simp
     | some n =>
      obtain ⟨h1,h2⟩:=hp n hq
      rw [res_step hq h1,h2]
      simp
theorem l_readA:∃ (b:Bool) (y:List Tbl) (k':Bool),(∀ (ks:List It) (Bo:Code),Loop Tryz.f11 0 Bo→RL K (.run 11 0 (LKs Bo ks) (LFr s ls ((0:Nat):Int)) (CA false true))=R K (.run 11 0 ks (OFr s) (FIN b y k'))) ∧
   (match readAll (pLn rdS true) ls with
    | some ns=>asmP ns
    | none=>none)=if b=false∧k'=true then some y else none:=by
 cases hls:ls with
 | nil =>
  subst hls
  refine ⟨false,[],true,fun ks Bo hB=>exit_A s [] (by simp) ks Bo hB false true,?_⟩
  simp [readAll,asmP]
 | cons l r =>
  have hj:ls[0]? = some l:=by rw [hls];rfl
  have hlen:ls.length=r.length+1:=by rw [hls];rfl
  have hll:=hw l (List.mem_of_getElem? hj)
  have hd:ls.drop 1=r:=by rw [hls];rfl
  rw [←hls]
  rcases step_A true l hll with ⟨nm,b',e,hs⟩ | ⟨e,hp⟩
  ·rcases hs with ⟨hp,rfl⟩ | ⟨rfl,hp⟩
   ·obtain ⟨b,y,k'',ih,q⟩:=l_readB s ls hl hw r.length 1 [] (newT nm) .nils false 0 (by omega) (by simp;omega) ⟨by simp [newT],by simp [newT],by simp [newT]⟩ (by omega) (.inl ⟨rfl,rfl⟩)
    refine ⟨b,y,k'',fun ks Bo hB=>?_,?_⟩
    ·rw [turn_A1 s ls hl ks Bo hB true false nm 0 l hj e]
     exact ih ks Bo hB
    ·rw [hd] at q
     rw [←q,hls]
     simp only [resP,readAll,hp]
     cases readAll (pLn rdS true) r<;>rfl
   ·refine ⟨true,[]++[newT nm],false,fun ks Bo hB=>?_,?_⟩
    ·rw [turn_A1 s ls hl ks Bo hB true true nm 0 l hj e]
     exact bad_B s ls hl [] (newT nm) .nils (.inl ⟨rfl,rfl⟩) false ks Bo hB r.length 1 (by omega)
    ·rw [hls]
     simp [readAll,hp]
  ·refine ⟨true,[],true,fun ks Bo hB=>?_,?_⟩
   ·rw [turn_A2 s ls hl ks Bo hB true 0 l hj e]
    exact bad_A s ls hl true ks Bo hB r.length 1 (by omega)
   ·rw [hls]
    simp only [readAll]
    cases hq:pLn rdS true l with
    | none=>simp
    | some n =>
     have h1:=hp n hq
     cases readAll (pLn rdS true) r with
     | none=>simp
     | some ns =>
      cases n with
      | table nm'=>simp [isTab] at h1
      | key ks=>simp [asmP]
      | column c=>simp [asmP]
      | foreign f=>simp [asmP]
      | index f=>simp [asmP]
end
theorem split_snoc (c:UInt8):∀ u:List UInt8,splitC c (u++[c])=splitC c u++[[]]
 | []=>by simp [splitC]
 | b::u=>by
  have ih:=split_snoc c u
  rw [List.cons_append]
  simp only [splitC]
  rw [ih]
  by_cases h:b=c
  ·rw [if_pos h,if_pos h];rfl
  ·rw [if_neg h,if_neg h]
   cases e:splitC c u with
   | nil=>exact absurd e (splitC_ne c u)
   | cons a t=>rfl
theorem split_last (c:UInt8):∀ s:List UInt8,(splitC c s).getLast? = some []→s=[]∨∃ u,s=u++[c]
 | [],_=>.inl rfl
 | b::r,h=>by
  right
  simp only [splitC] at h
  by_cases hb:b=c
  ·rw [if_pos hb] at h
   cases e:splitC c r with
   | nil=>exact absurd e (splitC_ne c r)
   | cons a t =>
    rw [e,List.getLast?_cons_cons,←e] at h
    rcases split_last c r h with rfl | ⟨u,rfl⟩
    ·exact ⟨[],by simp [hb]⟩
    ·exact ⟨b::u,rfl⟩
  ·rw [if_neg hb] at h
   cases e:splitC c r with
   | nil=>exact absurd e (splitC_ne c r)
   | cons a t =>
    rw [e] at h
    simp only at h
    cases t with
    | nil=>simp at h
    | cons a' t =>
     rw [List.getLast?_cons_cons] at h
     have h2:(splitC c r).getLast? = some []:=by rw [e,List.getLast?_cons_cons];exact h
     rcases split_last c r h2 with rfl | ⟨u,rfl⟩
     ·simp [splitC] at e
     ·exact ⟨b::u,rfl⟩
theorem lines_cases (s:List UInt8):(s=[]∧linesOf s=some [])∨(∃ u,s=u++[10]∧linesOf s=some (splitC 10 u))∨(s≠[]∧(∀ u,s≠u++[10])∧linesOf s=none):=by
 by_cases h0:s=[]
 ·subst h0;exact .inl ⟨rfl,rfl⟩
 by_cases h1:∃ u,s=u++[10]
 ·obtain ⟨u,rfl⟩:=h1
  refine .inr (.inl ⟨u,rfl,?_⟩)
  unfold linesOf
  rw [split_snoc]
  simp
 ·refine .inr (.inr ⟨h0,fun u hu=>h1 ⟨u,hu⟩,?_⟩)
  unfold linesOf
  rw [if_neg]
  intro h
  rcases split_last 10 s h with h2 | h2
  ·exact h0 h2
  ·exact h1 h2
theorem suf_no {s:List UInt8} (h:∀ u,s≠u++[10]):Lib.hasSuffix s [10]=false:=by
 rw [←Bool.not_eq_true]
 intro hs
 have h2:=List.isSuffixOf_iff_suffix.1 (show List.isSuffixOf [10] s=true from hs)
 obtain ⟨u,hu⟩:=h2
 exact h u hu.symm
theorem suf_one (u:List UInt8):Lib.hasSuffix (u++[10]) [10]=true∧Lib.trimSuffix (u++[10]) [10]=u:=by
 have h:Lib.hasSuffix (u++[10]) [10]=true:=List.isSuffixOf_iff_suffix.2 ⟨u,rfl⟩
 refine ⟨h,?_⟩
 unfold Lib.trimSuffix
 rw [if_pos h]
 simp
theorem c_lines0:R K (.call 25 [.str []] [])=some (.tup [.rows [],.bool true],[]):=by
 rw [call_25]
 simp -implicitDefEqProofs only [go_sem,simprocAttr,Tryz.f25,beq_self_eq_true]
theorem c_lines1 (u:List UInt8) (hu:u.length≤9000000):R K (.call 25 [.str (u++[10])] [])=some (.tup [.rows (SLs (splitC 10 u)),.bool true],[]):=by
 have h0:((u++[10]:List UInt8)==[])=false:=by simp
 have hc:=p_CutSuffix (u++[10]) [10] (by simp;omega)
 rw [(suf_one u).1,(suf_one u).2] at hc
 have hs:=p_Split u 10 (by omega)
 generalize u++[10]=s at *
 rw [call_25]
 simp -implicitDefEqProofs only [go_sem,simprocAttr,Tryz.f25,h0,hc,hs]
theorem c_lines2 (s:List UInt8) (hs:s.length≤9000000) (h0:s≠[]) (h1:∀ u,s≠u++[10]):R K (.call 25 [.str s] [])=some (.tup [.rows (SLs (splitC 10 s)),.bool false],[]):=by
 have b0:(s==[])=false:=by simpa using h0
 have hn:=suf_no h1
 have hc:=p_CutSuffix s [10] (by omega)
 have ht:Lib.trimSuffix s [10]=s:=by unfold Lib.trimSuffix;rw [if_neg (by rw [hn];simp)]
 rw [hn,ht] at hc
 have hp:=p_Split s 10 (by omega)
 rw [call_25]
 simp -implicitDefEqProofs only [go_sem,simprocAttr,Tryz.f25,b0,hc,hp]
noncomputable def rdX (nz:Bool) (asm:List Ln→Option (List Tbl)) (s:List UInt8):List Tbl×Int:=if 65536 < s.length then ([],2) else match rdL (lnTx showS) (pLn rdS nz) asm s with
 | none=>([],14)
 | some y=>if chkE y=0 then (y,0) else ([],chkE y)
theorem read_ls (s:List UInt8) (ls:List (List UInt8)) (hb:¬65536 < s.length) (z1:ls.length≤65537) (z2:∀ l∈ls,l.length≤65537) (hL:linesOf s=some ls) (x1:R K (.call 25 [.str s] [])=some (.tup [.rows (SLs ls),.bool true],[])) :
  R K (.call 11 [.str s] [])=some (.tup [schC (rdX true asmP s).1,I (rdX true asmP s).2],[]):=by
 have d:((65536:Int) < (s.length:Int))=False:=eq_false (by omega)
 obtain ⟨b,y,k',lk,q⟩:=l_readA s ls (by omega) (fun l hl=>by have:=z2 l hl;omega)
 have hQ:rdL (lnTx showS) (pLn rdS true) asmP s=match (if b=false∧k'=true then some y else none:Option (List Tbl)) with
   | none=>none
   | some y=>if txtOf (lnTx showS) y=s then some y else none:=by
  unfold rdL
  rw [hL]
  simp only
  rw [←q]
  cases readAll (pLn rdS true) ls<;>rfl
 unfold rdX
 rw [if_neg hb,hQ]
 simp only [LKs,LFr,CA,FIN,OFr,rB,Int.natCast_zero] at lk
 by_cases hg:b=false∧k'=true
 ·obtain ⟨rfl,rfl⟩:=hg
  rw [if_pos ⟨rfl,rfl⟩] at q ⊢
  obtain ⟨ns,hns,has⟩:∃ ns,readAll (pLn rdS true) ls=some ns∧asmP ns=some y:=by
   cases hr:readAll (pLn rdS true) ls with
   | none=>rw [hr] at q;simp at q
   | some ns=>rw [hr] at q;exact ⟨ns,rfl,q⟩
  obtain ⟨fS,fX⟩:=read_fit z1 z2 hns (asmP_asm has)
  have h1:=c_schemaText y fS
  have h2:=c_CheckSchema y fX
  simp only
  generalize txtOf (lnTx showS) y=w at *
  by_cases hw:w=s
  ·have bw:(w==s)=true:=by simpa using hw
   rw [if_pos hw]
   simp only
   by_cases he:chkE y=0
   ·rw [he] at h2
    rw [if_pos he]
    rw [call_11]
    simp -implicitDefEqProofs only [go_sem,simprocAttr,Tryz.f11,d,x1,SLs_len]
    rw [lk _ _ ?_]
    ·simp -implicitDefEqProofs only [go_sem,simprocAttr,h1,h2,bw,bne,beq_self_eq_true]
     all_goals rfl
    ·rfl
   ·have be:(chkE y==0)=false:=by simpa using he
    rw [if_neg he]
    generalize chkE y=e at *
    rw [call_11]
    simp -implicitDefEqProofs only [go_sem,simprocAttr,Tryz.f11,d,x1,SLs_len]
    rw [lk _ _ ?_]
    ·simp -implicitDefEqProofs only [go_sem,simprocAttr,h1,h2,bw,bne,be]
     all_goals rfl
    ·rfl
  ·have bw:(w==s)=false:=by simpa using hw
   rw [if_neg hw]
   rw [call_11]
   simp -implicitDefEqProofs only [go_sem,simprocAttr,Tryz.f11,d,x1,SLs_len]
   rw [lk _ _ ?_]
   ·simp -implicitDefEqProofs only [go_sem,simprocAttr,h1,h2,bw,bne]
    all_goals rfl
   ·rfl
 ·rw [if_neg hg]
  simp only
  rw [call_11]
  simp -implicitDefEqProofs only [go_sem,simprocAttr,Tryz.f11,d,x1,SLs_len]
  rw [lk _ _ ?_]
  ·cases b
   ·cases k'
    ·simp -implicitDefEqProofs only [go_sem,simprocAttr]
     all_goals rfl
    ·exact absurd ⟨rfl,rfl⟩ hg
   ·simp -implicitDefEqProofs only [go_sem,simprocAttr]
    all_goals rfl
  ·rfl
theorem c_SchemaRead (s:List UInt8) (hs:s.length≤8000000):R K (.call 11 [.str s] [])=some (.tup [schC (rdX true asmP s).1,I (rdX true asmP s).2],[]):=by
 by_cases hb:65536 < s.length
 ·have d:((65536:Int) < (s.length:Int))=True:=eq_true (by omega)
  unfold rdX
  rw [if_pos hb]
  rw [call_11]
  simp -implicitDefEqProofs only [go_sem,simprocAttr,Tryz.f11,d]
  all_goals rfl
 ·have d:((65536:Int) < (s.length:Int))=False:=eq_false (by omega)
  rcases lines_cases s with ⟨h0,hL⟩ | ⟨u,h0,hL⟩ | ⟨h0,h1,hL⟩
  ·subst h0
   exact read_ls [] [] hb (by simp) (by simp) hL c_lines0
  ·subst h0
   obtain ⟨z1,z2⟩:=splitC_len 10 u
   rw [List.length_append,List.length_singleton] at hb
   exact read_ls _ (splitC 10 u) (by rw [List.length_append,List.length_singleton];omega) (by omega) (fun l hl=>by have:=z2 l hl;omega) hL (c_lines1 u (by omega))
  ·unfold rdX rdL
   rw [if_neg hb,hL]
   have x1:=c_lines2 s (by omega) h0 h1
   obtain ⟨z1,z2⟩:=splitC_len 10 s
   have lk:=fun ks B hB=>bad_A s (splitC 10 s) (by omega) true ks B hB (splitC 10 s).length 0 (by omega)
   simp only [LKs,LFr,CA,FIN,OFr,rB,Int.natCast_zero] at lk
   rw [call_11]
   simp -implicitDefEqProofs only [go_sem,simprocAttr,Tryz.f11,d,x1,SLs_len]
   rw [lk _ _ ?_]
   ·simp -implicitDefEqProofs only [go_sem,simprocAttr]
    all_goals rfl
   ·rfl
theorem r_lword (b:Bool) (s:List UInt8) (hs:s.length≤100000000):R K (.call 30 [.ptr 0 0,.str s,.str [95]] [rB b])=some (.str s,[rB (b||!nmB s)]):=by
 have hp:R K (.call 87 [.str s,.str lettB] [])=some (.str (Lib.trimS s lettB),[]):=R_prim (by
  show pTrim [.str s,.str lettB]=_
  simp only [pTrim]
  have h1:decide (s.length≤9223372036854775807)=true:=decide_eq_true (by omega)
  have h2:(decide (lettB.length < 4294967281)&&ascii lettB)=true:=by decide
  rw [if_pos (by rw [h1,h2];rfl)])
 have he:(Lib.trimS s lettB==[])=s.all (chB [95]):=by
  have h:=trim_nil s lettB
  have e:(fun c=>lettB.contains c)=chB [95]:=funext lettB_in
  rw [e] at h
  rw [Bool.eq_iff_iff,beq_iff_eq];exact h
 unfold lettB at hp he
 have hm:(37≤strMax)=True:=eq_true (by decide)
 cases s with
 | nil =>
  cases b
  ·rw [call_30]
   simp -implicitDefEqProofs only [go_sem,simprocAttr,Tryz.f30,beq_self_eq_true]
   all_goals rfl
  ·rw [call_30]
   simp -implicitDefEqProofs only [go_sem,simprocAttr,Tryz.f30,beq_self_eq_true]
   all_goals rfl
 | cons c r =>
  have h0:((c::r:List UInt8)==[])=false:=rfl
  have e:nmB (c::r)=(c::r).all (chB [95]):=by simp [nmB]
  rw [e]
  generalize (c::r).all (chB [95])=x at he ⊢
  cases b
  ·rw [call_30]
   simp -implicitDefEqProofs only [go_sem,simprocAttr,Tryz.f30,hp,he,h0,bne,hm]
   all_goals rfl
  ·rw [call_30]
   simp -implicitDefEqProofs only [go_sem,simprocAttr,Tryz.f30,hp,he,h0,bne,hm]
   all_goals rfl
theorem l_rwords (ws:List (List UInt8)) (hl:ws.length≤1000000) (hw:∀ w∈ws,w.length≤100000000) (ks:List It):∀ (q j:Nat) (b:Bool) (Bo:Code) (i:Int),Loop Tryz.f89 0 Bo→i=(j:Int)→ws.length=j+q →
  RL K (.run 89 1 (.code Bo::.lp Bo (some ([0,5,8,9,10],[])) 2::.blk 0 2::ks) [(0,.ptr 0 0),(5,.own 1 j),(8,.rows (SLs ws)),(9,I (ws.length:Int)),(10,I i)] [rB b,.rows 1 (SLs (ws.take j)) false]) =
  R K (.run 89 1 ks [(5,.own 1 ws.length)] [rB (b||!((ws.drop j).all nmB)),.rows 1 (SLs ws) false])
 | 0,j,b,Bo,i,hB,hi,hq=>by
  subst hi
  have d:¬(j:Int) < (ws.length:Int):=by omega
  obtain rfl:j=ws.length:=by omega
  rw [List.drop_length,List.all_nil,Bool.not_true,Bool.or_false,List.take_length]
  unfold Loop at hB
  simp -implicitDefEqProofs only [go_sem,simprocAttr,Tryz.f89,loopOf] at hB
  subst hB
  rw [RL_eq]
  simp -implicitDefEqProofs only [go_sem,simprocAttr,d,locsR_SLs]
 | q+1,j,b,Bo,i,hB,hi,hq=>by
  subst hi
  have hB':=hB
  have d:(j:Int) < (ws.length:Int):=by omega
  have h7:=next_id (i:=j) (n:=ws.length) (by omega) (by omega)
  obtain ⟨c,hc⟩:=some_at (l:=ws) (i:=j) (by omega)
  have gc:=str_get hc
  have h1:=r_lword b c (hw c (List.mem_of_getElem? hc))
  have ih:=l_rwords ws hl hw ks q (j+1) (b||!nmB c) Bo _ hB' rfl (by omega)
  have et:ws.take (j+1)=ws.take j++[c]:=by rw [List.take_add_one,hc];rfl
  have sa:=SLs_app (ws.take j) c
  rw [←et] at sa
  have tl:(ws.take j).length=j:=by rw [List.length_take];omega
  have rm:((j+1)*17≤roomMax)=True:=eq_true (by unfold roomMax;omega)
  rw [drop_get hc,List.all_cons]
  have e:(b||!(nmB c&&(ws.drop (j+1)).all nmB))=(b||!nmB c||!((ws.drop (j+1)).all nmB)):=by
   cases b<;>cases nmB c<;>simp
  rw [e]
  clear et
  unfold Loop at hB
  simp -implicitDefEqProofs only [go_sem,simprocAttr,Tryz.f89,loopOf] at hB
  subst hB
  rw [RL_eq]
  simp -implicitDefEqProofs only [go_sem,simprocAttr,d,h7,gc,h1,sa,tl,rm,SLs_len,locsR_SLs]
  exact ih
theorem r_words (b:Bool) (ws:List (List UInt8)) (hl:ws.length≤1000000) (hw:∀ w∈ws,w.length≤100000000):R K (.call 89 [.ptr 0 0,.rows (SLs ws)] [rB b])=some (.rows (SLs ws),[rB (b||!(ws.all nmB))]):=by
 have lk:=fun ks B hB=>l_rwords ws hl hw ks ws.length 0 b B 0 hB rfl (by omega)
 have en:SLs (ws.take 0)=([]:List (List AV)):=rfl
 simp only [List.drop_zero,en] at lk
 rw [call_89]
 simp -implicitDefEqProofs only [go_sem,simprocAttr,Tryz.f89,SLs_len]
 rw [lk _ _ ?_]
 ·simp -implicitDefEqProofs only [go_sem,simprocAttr,SLs_len,locsR_SLs,or_true]
 ·rfl
def kindsR:List (List UInt8):=[]::kindsL
theorem r_kindNames:R K (.call 212 [] [])=some (.rows (SLs kindsR),[]):=by
 rw [call_212]
 simp -implicitDefEqProofs only [go_sem,simprocAttr,Tryz.f212]
 all_goals rfl
theorem ix_kindsR (w:List UInt8):(1≤ixN w kindsR 0∧kdO w=some (ixN w kindsR 0))∨(ixN w kindsR 0 < 1∧kdO w=none):=by
 unfold kindsR kindsL kdO
 simp only [ixN,eq_comm (b:=w)]
 by_cases h0:w=[]
 ·subst h0;right;simp
 rw [if_neg h0]
 by_cases h1:w=[98,111,111,108]
 ·left;simp [h1]
 rw [if_neg h1,if_neg h1]
 by_cases h2:w=[105,110,116]
 ·left;simp [h2]
 rw [if_neg h2,if_neg h2]
 by_cases h3:w=[116,101,120,116]
 ·left;simp [h3]
 rw [if_neg h3,if_neg h3]
 by_cases h4:w=[109,111,109,101,110,116]
 ·left;simp [h4]
 rw [if_neg h4,if_neg h4]
 right;simp
theorem r_kind (b:Bool) (w:List UInt8):R K (.call 189 [.ptr 0 0,.str w] [rB b])=some (I (ixN w kindsR 0),[rB (b||decide (ixN w kindsR 0 < 1))]):=by
 have hi:=c_ixS w kindsR (by decide)
 have h1:=r_kindNames
 generalize ixN w kindsR 0=x at *
 cases b
 ·rw [call_189]
  simp -implicitDefEqProofs only [go_sem,simprocAttr,Tryz.f189,h1,hi]
  all_goals rfl
 ·rw [call_189]
  simp -implicitDefEqProofs only [go_sem,simprocAttr,Tryz.f189,h1,hi]
  all_goals rfl
theorem r_value (b:Bool) (s:List UInt8) (hs:s.length≤10000000):R K (.call 190 [.ptr 0 0,.str s] [rB b])=some (enc (readS s).1,[rB (b||!decide ((readS s).2=0))]):=by
 have h1:=r_ReadValue s hs
 rw [read_law] at h1
 generalize (readS s).1=v at *
 generalize (readS s).2=e at *
 cases b
 ·by_cases h0:e=0
  ·have b0:(e==0)=true:=by simpa using h0
   rw [call_190]
   simp -implicitDefEqProofs only [go_sem,simprocAttr,Tryz.f190,h1,bne,b0]
   simp [h0]
  ·have b0:(e==0)=false:=by simpa using h0
   rw [call_190]
   simp -implicitDefEqProofs only [go_sem,simprocAttr,Tryz.f190,h1,bne,b0]
   simp [h0]
 ·rw [call_190]
  simp -implicitDefEqProofs only [go_sem,simprocAttr,Tryz.f190,h1]
  all_goals simp
theorem l_quoted (s:List UInt8) (hs:s.length≤10000000):∀ (m j:Nat) (q:Bool) (f:Nat) (acc:List (List UInt8)),s.length=j+m→f≤j→acc.length≤j →
  ∃ (acc':List (List UInt8)) (f':Nat),acc'++[s.drop f']=acc++preQ ((s.drop f).take (j - f)) (qSp q (s.drop j))∧f'≤s.length∧acc'.length≤s.length∧∀ (ks:List It) (Bo:Code) (i:Int),Loop Tryz.f188 0 Bo→i=(j:Int) →
  RL K (.run 188 0 (.code Bo::.lp Bo (some ([0,3,4,5,6],[])) 1::.blk 0 1::ks) [(0,.str s),(3,.own 0 acc.length),(4,I (f:Int)),(5,.bool q),(6,I i)] [.rows 1 (SLs acc) false]) =
  R K (.run 188 0 ks [(0,.str s),(3,.own 0 acc'.length),(4,I (f':Int))] [.rows 1 (SLs acc') false])
 | 0,j,q,f,acc,hj,hf,ha=>by
  have h1:¬(j:Int) < (s.length:Int):=by omega
  refine ⟨acc,f,?_,by omega,by omega,fun ks Bo i hB hi=>?_⟩
  ·have ej:s.drop j=[]:=List.drop_of_length_le (by omega)
   rw [ej,show qSp q []=[[]] from rfl]
   simp only [preQ,List.append_nil]
   rw [List.take_of_length_le (by simp;omega)]
  ·subst hi
   unfold Loop at hB
   simp -implicitDefEqProofs only [go_sem,simprocAttr,Tryz.f188,loopOf] at hB
   subst hB
   rw [RL_eq]
   simp -implicitDefEqProofs only [go_sem,simprocAttr,h1,locsR_SLs]
 | m+1,j,q,f,acc,hj,hf,ha=>by
  have h1:(j:Int) < (s.length:Int):=by omega
  have h7:=next_id (i:=j) (n:=s.length) (by omega) (by omega)
  obtain ⟨c,hc⟩:=some_at (l:=s) (i:=j) (by omega)
  have hg:=byte_get hc
  have cn:=cur_next hc hf
  by_cases h39:c=39
  ·obtain ⟨acc',f',p1,p2,p3,ih⟩:=l_quoted s hs m (j+1) (!q) f acc (by omega) (by omega) (by omega)
   refine ⟨acc',f',?_,p2,p3,fun ks Bo i hB hi=>?_⟩
   ·rw [p1,drop_get hc,cn]
    simp only [qSp]
    rw [if_pos h39,pre_cons]
   ·subst hi
    have ih:=ih ks Bo _ hB rfl
    have b2:(((c.toNat:Nat):Int)==39)=true:=by rw [h39];rfl
    have b3:(((c.toNat:Nat):Int)==32)=false:=by rw [h39];rfl
    unfold Loop at hB
    simp -implicitDefEqProofs only [go_sem,simprocAttr,Tryz.f188,loopOf] at hB
    subst hB
    rw [RL_eq]
    simp -implicitDefEqProofs only [go_sem,simprocAttr,h1,h7,hg,b2,b3,locsR_SLs]
    exact ih
  ·have b2:(((c.toNat:Nat):Int)==39)=false:=by
    rw [u8_39];simpa using h39
   by_cases h32:c=32∧q=false
   ·obtain ⟨hc32,hq⟩:=h32
    obtain ⟨acc',f',p1,p2,p3,ih⟩:=l_quoted s hs m (j+1) false (j+1) (acc++[(s.drop f).take (j - f)]) (by omega) (by omega) (by simp;omega)
    refine ⟨acc',f',?_,p2,p3,fun ks Bo i hB hi=>?_⟩
    ·rw [p1,drop_get hc]
     simp only [qSp]
     rw [if_neg h39,if_pos ⟨hc32,hq⟩,Nat.sub_self,List.take_zero,pre_nil (qSp_ne _ _)]
     simp [preQ]
    ·subst hi
     have ih:=ih ks Bo _ hB rfl
     have b3:(((c.toNat:Nat):Int)==32)=true:=by rw [hc32];rfl
     have g1:((0:Int)≤(f:Int))=True:=eq_true (by omega)
     have g2:((f:Int)≤(j:Int))=True:=eq_true (by omega)
     have g3:((0:Int)≤(j:Int))=True:=eq_true (by omega)
     have g4:((j:Int)≤(s.length:Int))=True:=eq_true (by omega)
     have g5:((f:Int)≤(s.length:Int))=True:=eq_true (by omega)
     have sa:=SLs_app acc ((s.drop f).take (j - f))
     have rm:((acc.length+1)*17≤roomMax)=True:=eq_true (by unfold roomMax;omega)
     rw [List.length_append,List.length_singleton] at ih
     subst hq
     unfold Loop at hB
     simp -implicitDefEqProofs only [go_sem,simprocAttr,Tryz.f188,loopOf] at hB
     subst hB
     rw [RL_eq]
     simp -implicitDefEqProofs only [go_sem,simprocAttr,h1,h7,hg,b2,b3,g1,g2,g3,g4,g5,Int.toNat_natCast,sa,rm,SLs_len,locsR_SLs]
     exact ih
   ·obtain ⟨acc',f',p1,p2,p3,ih⟩:=l_quoted s hs m (j+1) q f acc (by omega) (by omega) (by omega)
    refine ⟨acc',f',?_,p2,p3,fun ks Bo i hB hi=>?_⟩
    ·rw [p1,drop_get hc,cn]
     simp only [qSp]
     rw [if_neg h39,if_neg h32,pre_cons]
    ·subst hi
     have ih:=ih ks Bo _ hB rfl
     by_cases hc32:c=32
     ·have hq:q=true:=by
       cases q
       ·exact absurd ⟨hc32,rfl⟩ h32
       ·rfl
      subst hq
      have b3:(((c.toNat:Nat):Int)==32)=true:=by rw [hc32];rfl
      unfold Loop at hB
      simp -implicitDefEqProofs only [go_sem,simprocAttr,Tryz.f188,loopOf] at hB
      subst hB
      rw [RL_eq]
      simp -implicitDefEqProofs only [go_sem,simprocAttr,h1,h7,hg,b2,b3,locsR_SLs]
      exact ih
     ·have b3:(((c.toNat:Nat):Int)==32)=false:=by
       rw [u8_32];simpa using hc32
      unfold Loop at hB
      simp -implicitDefEqProofs only [go_sem,simprocAttr,Tryz.f188,loopOf] at hB
      subst hB
      rw [RL_eq]
      simp -implicitDefEqProofs only [go_sem,simprocAttr,h1,h7,hg,b2,b3,locsR_SLs]
      exact ih
theorem r_quoted (s:List UInt8) (hs:s.length≤10000000):R K (.call 188 [.str s] [])=some (.rows (SLs (qSp false s)),[]):=by
 obtain ⟨acc,f,p1,p2,p3,lk⟩:=l_quoted s hs s.length 0 false 0 [] (by omega) (by omega) (by simp)
 simp only [List.drop_zero,Nat.sub_self,List.take_zero,List.nil_append] at p1
 rw [pre_nil (qSp_ne _ _)] at p1
 have g1:((0:Int)≤(f:Int))=True:=eq_true (by omega)
 have g2:((f:Int)≤(s.length:Int))=True:=eq_true (by omega)
 have e2:(s.drop f).take (s.length - f)=s.drop f:=List.take_of_length_le (by simp)
 have sa:=SLs_app acc (s.drop f)
 rw [p1] at sa
 have rm:((acc.length+1)*17≤roomMax)=True:=eq_true (by unfold roomMax;omega)
 have ln:acc.length+1=(qSp false s).length:=by rw [←p1];simp
 rw [ln] at rm
 have en:SLs []=([]:List (List AV)):=rfl
 simp only [en,List.length_nil,Int.natCast_zero] at lk
 rw [call_188]
 simp -implicitDefEqProofs only [go_sem,simprocAttr,Tryz.f188,en]
 rw [lk _ _ 0 ?_ rfl]
 ·simp -implicitDefEqProofs only [go_sem,simprocAttr,g1,g2,Int.toNat_natCast,e2,sa,rm,ln,SLs_len,locsR_SLs,List.length_append,List.length_singleton,or_true]
 ·rfl
theorem two_nat:(2:Int).toNat=2:=rfl
theorem one_nat:(1:Int).toNat=1:=rfl
section
variable (b:Bool) (line w0 k:List UInt8) (hl:line.length≤1000000)
theorem rc_0  (hQ:qSp false line=[w0,k]) (hW:R K (.call 188 [.str line] [])=some (.rows (SLs ([w0,k])),[]))
  (p1:R K (.call 30 [.ptr 0 0,.str w0,.str [95]] [rB b])=some (.str w0,[rB (b||!nmB w0)]))
  (k1:R K (.call 189 [.ptr 0 0,.str k] [rB (b||!nmB w0)])=some (I (ixN k kindsR 0),[rB (b||!nmB w0||decide (ixN k kindsR 0 < 1))])) :
  R K (.call 88 [.ptr 0 0,.str line] [rB b])=some (colA ⟨w0,ixN k kindsR 0,false,⟨0,0,[]⟩⟩,[rB (b||!nmB w0||decide (ixN k kindsR 0 < 1))]):=by
 generalize ixN k kindsR 0=kd at *
 generalize hx:(b||!nmB w0||decide (kd < 1))=x at *
 simp only [SLs,List.map_cons,List.map_nil] at hW
 rw [call_88]
 simp -implicitDefEqProofs only [go_sem,simprocAttr,Tryz.f88,hW,p1,k1,at_zero,at_1,two_nat,one_nat,colC,beq_self_eq_true,allLen]
 repeat' ((first | apply split_cond | apply split_yes | apply split_no)<;>intro hc<;>simp -implicitDefEqProofs only [hc,go_sem,simprocAttr,hW,p1,k1,at_zero,at_1,two_nat,one_nat,colC,beq_self_eq_true,allLen])
 all_goals first
  | rfl
  | (cases x<;>rfl)
theorem rc_n  (hQ:qSp false line=[w0,k,nulW]) (hW:R K (.call 188 [.str line] [])=some (.rows (SLs ([w0,k,nulW])),[]))
  (p1:R K (.call 30 [.ptr 0 0,.str w0,.str [95]] [rB b])=some (.str w0,[rB (b||!nmB w0)]))
  (k1:R K (.call 189 [.ptr 0 0,.str k] [rB (b||!nmB w0)])=some (I (ixN k kindsR 0),[rB (b||!nmB w0||decide (ixN k kindsR 0 < 1))])) :
  R K (.call 88 [.ptr 0 0,.str line] [rB b])=some (colA ⟨w0,ixN k kindsR 0,true,⟨0,0,[]⟩⟩,[rB (b||!nmB w0||decide (ixN k kindsR 0 < 1))]):=by
 generalize ixN k kindsR 0=kd at *
 generalize hx:(b||!nmB w0||decide (kd < 1))=x at *
 simp only [SLs,List.map_cons,List.map_nil] at hW
 rw [call_88]
 simp -implicitDefEqProofs only [go_sem,simprocAttr,Tryz.f88,hW,p1,k1,at_zero,at_1,two_nat,one_nat,colC,beq_self_eq_true,allLen,nulW]
 repeat' ((first | apply split_cond | apply split_yes | apply split_no)<;>intro hc<;>simp -implicitDefEqProofs only [hc,go_sem,simprocAttr,hW,p1,k1,at_zero,at_1,two_nat,one_nat,colC,beq_self_eq_true,allLen,nulW])
 all_goals first
  | rfl
  | (cases x<;>rfl)
theorem rc_nd (d:List UInt8) (hQ:qSp false line=[w0,k,nulW,d]) (hW:R K (.call 188 [.str line] [])=some (.rows (SLs ([w0,k,nulW,d])),[]))
  (p1:R K (.call 30 [.ptr 0 0,.str w0,.str [95]] [rB b])=some (.str w0,[rB (b||!nmB w0)]))
  (k1:R K (.call 189 [.ptr 0 0,.str k] [rB (b||!nmB w0)])=some (I (ixN k kindsR 0),[rB (b||!nmB w0||decide (ixN k kindsR 0 < 1))])) :
  R K (.call 88 [.ptr 0 0,.str line] [rB b])=some (colA ⟨w0,ixN k kindsR 0,true,⟨0,0,[]⟩⟩,[rB (true)]):=by
 generalize ixN k kindsR 0=kd at *
 generalize hx:(b||!nmB w0||decide (kd < 1))=x at *
 simp only [SLs,List.map_cons,List.map_nil] at hW
 rw [call_88]
 simp -implicitDefEqProofs only [go_sem,simprocAttr,Tryz.f88,hW,p1,k1,at_zero,at_1,two_nat,one_nat,colC,beq_self_eq_true,allLen,nulW]
 repeat' ((first | apply split_cond | apply split_yes | apply split_no)<;>intro hc<;>simp -implicitDefEqProofs only [hc,go_sem,simprocAttr,hW,p1,k1,at_zero,at_1,two_nat,one_nat,colC,beq_self_eq_true,allLen,nulW])
 all_goals first
  | rfl
  | (cases x<;>rfl)
theorem rc_ndw (w:List UInt8) (hwl:w.length≤10000000) (hQ:qSp false line=[w0,k,nulW,defW,w]) (hW:R K (.call 188 [.str line] [])=some (.rows (SLs ([w0,k,nulW,defW,w])),[]))
  (p1:R K (.call 30 [.ptr 0 0,.str w0,.str [95]] [rB b])=some (.str w0,[rB (b||!nmB w0)]))
  (k1:R K (.call 189 [.ptr 0 0,.str k] [rB (b||!nmB w0)])=some (I (ixN k kindsR 0),[rB (b||!nmB w0||decide (ixN k kindsR 0 < 1))])) :
  R K (.call 88 [.ptr 0 0,.str line] [rB b])=some (colA ⟨w0,ixN k kindsR 0,true,(readS w).1⟩,[rB (b||!nmB w0||decide (ixN k kindsR 0 < 1)||!decide ((readS w).2=0))]):=by
 generalize ixN k kindsR 0=kd at *
 generalize hx:(b||!nmB w0||decide (kd < 1))=x at *
 have v1:=r_value x w hwl
 simp only [SLs,List.map_cons,List.map_nil] at hW
 rw [call_88]
 simp -implicitDefEqProofs only [go_sem,simprocAttr,Tryz.f88,hW,p1,k1,at_zero,at_1,two_nat,one_nat,colC,beq_self_eq_true,allLen,nulW,defW,v1]
 repeat' ((first | apply split_cond | apply split_yes | apply split_no)<;>intro hc<;>simp -implicitDefEqProofs only [hc,go_sem,simprocAttr,hW,p1,k1,at_zero,at_1,two_nat,one_nat,colC,beq_self_eq_true,allLen,nulW,defW,v1])
 all_goals first
  | rfl
  | (cases x<;>rfl)
theorem rc_nxw (d w:List UInt8) (hd:d≠defW) (hQ:qSp false line=[w0,k,nulW,d,w]) (hW:R K (.call 188 [.str line] [])=some (.rows (SLs ([w0,k,nulW,d,w])),[]))
  (p1:R K (.call 30 [.ptr 0 0,.str w0,.str [95]] [rB b])=some (.str w0,[rB (b||!nmB w0)]))
  (k1:R K (.call 189 [.ptr 0 0,.str k] [rB (b||!nmB w0)])=some (I (ixN k kindsR 0),[rB (b||!nmB w0||decide (ixN k kindsR 0 < 1))])) :
  R K (.call 88 [.ptr 0 0,.str line] [rB b])=some (colA ⟨w0,ixN k kindsR 0,true,⟨0,0,[]⟩⟩,[rB (true)]):=by
 generalize ixN k kindsR 0=kd at *
 generalize hx:(b||!nmB w0||decide (kd < 1))=x at *
 have bd:(d==defW)=false:=by simpa using hd
 simp only [defW] at bd
 simp only [SLs,List.map_cons,List.map_nil] at hW
 rw [call_88]
 simp -implicitDefEqProofs only [go_sem,simprocAttr,Tryz.f88,hW,p1,k1,at_zero,at_1,two_nat,one_nat,colC,beq_self_eq_true,allLen,nulW,bd]
 repeat' ((first | apply split_cond | apply split_yes | apply split_no)<;>intro hc<;>simp -implicitDefEqProofs only [hc,go_sem,simprocAttr,hW,p1,k1,at_zero,at_1,two_nat,one_nat,colC,beq_self_eq_true,allLen,nulW,bd])
 all_goals first
  | rfl
  | (cases x<;>rfl)
theorem rc_ndwyz (d w y:List UInt8) (z:List (List UInt8)) (hQ:qSp false line=w0::k::nulW::d::w::y::z) (hW:R K (.call 188 [.str line] [])=some (.rows (SLs (w0::k::nulW::d::w::y::z)),[]))
  (p1:R K (.call 30 [.ptr 0 0,.str w0,.str [95]] [rB b])=some (.str w0,[rB (b||!nmB w0)]))
  (k1:R K (.call 189 [.ptr 0 0,.str k] [rB (b||!nmB w0)])=some (I (ixN k kindsR 0),[rB (b||!nmB w0||decide (ixN k kindsR 0 < 1))])) :
  R K (.call 88 [.ptr 0 0,.str line] [rB b])=some (colA ⟨w0,ixN k kindsR 0,true,⟨0,0,[]⟩⟩,[rB (true)]):=by
 generalize ixN k kindsR 0=kd at *
 generalize hx:(b||!nmB w0||decide (kd < 1))=x at *
 have t:=tail_rows z
 have al:=allLen_SLs z
 simp only [SLs] at t al
 have d1:(((z.length+1+1+1+1+1+1:Nat):Int) < 2)=False:=eq_false (by omega)
 have d2:((2:Int)≤((z.length+1+1+1+1+1+1:Nat):Int))=True:=eq_true (by omega)
 have d3:((0:Int) < ((z.length+1+1+1+1:Nat):Int))=True:=eq_true (by omega)
 have d4:((1:Int)≤((z.length+1+1+1+1:Nat):Int))=True:=eq_true (by omega)
 have d5:((((z.length+1+1+1:Nat):Int))==2)=false:=by simp;omega
 have d6:((0:Int) < ((z.length+1+1+1:Nat):Int))=True:=eq_true (by omega)
 simp only [SLs,List.map_cons,List.map_nil] at hW
 rw [call_88]
 simp -implicitDefEqProofs only [go_sem,simprocAttr,Tryz.f88,hW,p1,k1,at_zero,at_1,two_nat,one_nat,colC,beq_self_eq_true,allLen,nulW,List.length_map,t,al,d1,d2,d3,d4,d5,d6,Nat.add_sub_cancel]
 repeat' ((first | apply split_cond | apply split_yes | apply split_no)<;>intro hc<;>simp -implicitDefEqProofs only [hc,go_sem,simprocAttr,hW,p1,k1,at_zero,at_1,two_nat,one_nat,colC,beq_self_eq_true,allLen,nulW,List.length_map,t,al,d1,d2,d3,d4,d5,d6,Nat.add_sub_cancel])
 all_goals first
  | rfl
  | (cases x<;>rfl)
theorem rc_v (v:List UInt8) (hv:v≠nulW) (hQ:qSp false line=[w0,k,v]) (hW:R K (.call 188 [.str line] [])=some (.rows (SLs ([w0,k,v])),[]))
  (p1:R K (.call 30 [.ptr 0 0,.str w0,.str [95]] [rB b])=some (.str w0,[rB (b||!nmB w0)]))
  (k1:R K (.call 189 [.ptr 0 0,.str k] [rB (b||!nmB w0)])=some (I (ixN k kindsR 0),[rB (b||!nmB w0||decide (ixN k kindsR 0 < 1))])) :
  R K (.call 88 [.ptr 0 0,.str line] [rB b])=some (colA ⟨w0,ixN k kindsR 0,false,⟨0,0,[]⟩⟩,[rB (true)]):=by
 generalize ixN k kindsR 0=kd at *
 generalize hx:(b||!nmB w0||decide (kd < 1))=x at *
 have bv:(v==nulW)=false:=by simpa using hv
 simp only [nulW] at bv
 simp only [SLs,List.map_cons,List.map_nil] at hW
 rw [call_88]
 simp -implicitDefEqProofs only [go_sem,simprocAttr,Tryz.f88,hW,p1,k1,at_zero,at_1,two_nat,one_nat,colC,beq_self_eq_true,allLen,bv]
 repeat' ((first | apply split_cond | apply split_yes | apply split_no)<;>intro hc<;>simp -implicitDefEqProofs only [hc,go_sem,simprocAttr,hW,p1,k1,at_zero,at_1,two_nat,one_nat,colC,beq_self_eq_true,allLen,bv])
 all_goals first
  | rfl
  | (cases x<;>rfl)
theorem rc_dw (w:List UInt8) (hwl:w.length≤10000000) (hQ:qSp false line=[w0,k,defW,w]) (hW:R K (.call 188 [.str line] [])=some (.rows (SLs ([w0,k,defW,w])),[]))
  (p1:R K (.call 30 [.ptr 0 0,.str w0,.str [95]] [rB b])=some (.str w0,[rB (b||!nmB w0)]))
  (k1:R K (.call 189 [.ptr 0 0,.str k] [rB (b||!nmB w0)])=some (I (ixN k kindsR 0),[rB (b||!nmB w0||decide (ixN k kindsR 0 < 1))])) :
  R K (.call 88 [.ptr 0 0,.str line] [rB b])=some (colA ⟨w0,ixN k kindsR 0,false,(readS w).1⟩,[rB (b||!nmB w0||decide (ixN k kindsR 0 < 1)||!decide ((readS w).2=0))]):=by
 generalize ixN k kindsR 0=kd at *
 generalize hx:(b||!nmB w0||decide (kd < 1))=x at *
 have bv:(defW==nulW)=false:=rfl
 simp only [nulW,defW] at bv
 have v1:=r_value x w hwl
 simp only [SLs,List.map_cons,List.map_nil] at hW
 rw [call_88]
 simp -implicitDefEqProofs only [go_sem,simprocAttr,Tryz.f88,hW,p1,k1,at_zero,at_1,two_nat,one_nat,colC,beq_self_eq_true,allLen,defW,bv,v1]
 repeat' ((first | apply split_cond | apply split_yes | apply split_no)<;>intro hc<;>simp -implicitDefEqProofs only [hc,go_sem,simprocAttr,hW,p1,k1,at_zero,at_1,two_nat,one_nat,colC,beq_self_eq_true,allLen,defW,bv,v1])
 all_goals first
  | rfl
  | (cases x<;>rfl)
theorem rc_vw (v w:List UInt8) (hv:v≠nulW) (hd:v≠defW) (hQ:qSp false line=[w0,k,v,w]) (hW:R K (.call 188 [.str line] [])=some (.rows (SLs ([w0,k,v,w])),[]))
  (p1:R K (.call 30 [.ptr 0 0,.str w0,.str [95]] [rB b])=some (.str w0,[rB (b||!nmB w0)]))
  (k1:R K (.call 189 [.ptr 0 0,.str k] [rB (b||!nmB w0)])=some (I (ixN k kindsR 0),[rB (b||!nmB w0||decide (ixN k kindsR 0 < 1))])) :
  R K (.call 88 [.ptr 0 0,.str line] [rB b])=some (colA ⟨w0,ixN k kindsR 0,false,⟨0,0,[]⟩⟩,[rB (true)]):=by
 generalize ixN k kindsR 0=kd at *
 generalize hx:(b||!nmB w0||decide (kd < 1))=x at *
 have bv:(v==nulW)=false:=by simpa using hv
 simp only [nulW] at bv
 have bd:(v==defW)=false:=by simpa using hd
 simp only [defW] at bd
 simp only [SLs,List.map_cons,List.map_nil] at hW
 rw [call_88]
 simp -implicitDefEqProofs only [go_sem,simprocAttr,Tryz.f88,hW,p1,k1,at_zero,at_1,two_nat,one_nat,colC,beq_self_eq_true,allLen,bv,bd]
 repeat' ((first | apply split_cond | apply split_yes | apply split_no)<;>intro hc<;>simp -implicitDefEqProofs only [hc,go_sem,simprocAttr,hW,p1,k1,at_zero,at_1,two_nat,one_nat,colC,beq_self_eq_true,allLen,bv,bd])
 all_goals first
  | rfl
  | (cases x<;>rfl)
theorem rc_vwyz (v w y:List UInt8) (z:List (List UInt8)) (hv:v≠nulW) (hQ:qSp false line=w0::k::v::w::y::z) (hW:R K (.call 188 [.str line] [])=some (.rows (SLs (w0::k::v::w::y::z)),[]))
  (p1:R K (.call 30 [.ptr 0 0,.str w0,.str [95]] [rB b])=some (.str w0,[rB (b||!nmB w0)]))
  (k1:R K (.call 189 [.ptr 0 0,.str k] [rB (b||!nmB w0)])=some (I (ixN k kindsR 0),[rB (b||!nmB w0||decide (ixN k kindsR 0 < 1))])) :
  R K (.call 88 [.ptr 0 0,.str line] [rB b])=some (colA ⟨w0,ixN k kindsR 0,false,⟨0,0,[]⟩⟩,[rB (true)]):=by
 generalize ixN k kindsR 0=kd at *
 generalize hx:(b||!nmB w0||decide (kd < 1))=x at *
 have bv:(v==nulW)=false:=by simpa using hv
 simp only [nulW] at bv
 have t:=tail_rows z
 have al:=allLen_SLs z
 simp only [SLs] at t al
 have d1:(((z.length+1+1+1+1+1:Nat):Int) < 2)=False:=eq_false (by omega)
 have d2:((2:Int)≤((z.length+1+1+1+1+1:Nat):Int))=True:=eq_true (by omega)
 have d3:((0:Int) < ((z.length+1+1+1:Nat):Int))=True:=eq_true (by omega)
 have d5:((((z.length+1+1+1:Nat):Int))==2)=false:=by simp;omega
 simp only [SLs,List.map_cons,List.map_nil] at hW
 rw [call_88]
 simp -implicitDefEqProofs only [go_sem,simprocAttr,Tryz.f88,hW,p1,k1,at_zero,at_1,two_nat,one_nat,colC,beq_self_eq_true,allLen,bv,List.length_map,t,al,d1,d2,d3,d5,Nat.add_sub_cancel]
 repeat' ((first | apply split_cond | apply split_yes | apply split_no)<;>intro hc<;>simp -implicitDefEqProofs only [hc,go_sem,simprocAttr,hW,p1,k1,at_zero,at_1,two_nat,one_nat,colC,beq_self_eq_true,allLen,bv,List.length_map,t,al,d1,d2,d3,d5,Nat.add_sub_cancel])
 all_goals first
  | rfl
  | (cases x<;>rfl)
end
theorem r_column (b:Bool) (line:List UInt8) (hl:line.length≤1000000):∃ (c:Col) (b':Bool),R K (.call 88 [.ptr 0 0,.str line] [rB b])=some (colA c,[rB b'])∧((pCol rdS false line=some (.column c)∧b'=b)∨(pCol rdS false line=none∧b'=true)):=by
 have hW:=r_quoted line (by omega)
 have hlen:=qSp_len line false
 have hne:=qSp_ne false line
 cases hQ:qSp false line with
 | nil=>exact absurd hQ hne
 | cons w0 W =>
  rw [hQ] at hW hlen
  have p1:=r_lword b w0 (by have:=hlen w0 (by simp);omega)
  cases W with
  | nil =>
   refine ⟨⟨[],0,false,⟨0,0,[]⟩⟩,true,?_,.inr ⟨pc_one hQ,rfl⟩⟩
   simp only [SLs,List.map_cons,List.map_nil] at hW
   rw [call_88]
   simp -implicitDefEqProofs only [go_sem,simprocAttr,Tryz.f88,hW,colC]
   all_goals rfl
  | cons k ws =>
   have k1:=r_kind (b||!nmB w0) k
   have hwl:∀ w∈ws,w.length≤10000000:=fun w hw=>by have:=hlen w (by simp [hw]);omega
   have fin:∀ (c:Col) (e:Bool) (g:Option Ln),(kdO k=some (ixN k kindsR 0)→pCol rdS false line=if nmB w0=true then g else none)→(e=false→g=some (.column c))→(e=true→g=none)→((pCol rdS false line=some (.column c)∧(b||!nmB w0||decide (ixN k kindsR 0 < 1)||e)=b)∨(pCol rdS false line=none∧(b||!nmB w0||decide (ixN k kindsR 0 < 1)||e)=true)):=by
    intro c e g h1 h2 h3
    rcases ix_kindsR k with ⟨hk1,hk2⟩ | ⟨hk1,hk2⟩
    ·rw [h1 hk2]
     have d:decide (ixN k kindsR 0 < 1)=false:=decide_eq_false (by omega)
     rw [d]
     cases hn:nmB w0
     ·exact .inr ⟨by simp,by simp⟩
     ·cases e
      ·exact .inl ⟨by simp [h2],by simp⟩
      ·exact .inr ⟨by simp [h3],by simp⟩
    ·exact .inr ⟨pc_kind hQ hk2,by simp [hk1]⟩
   cases ws with
   | nil=>exact ⟨_,_,rc_0 b line w0 k hQ hW p1 k1,by have:=fin ⟨w0,ixN k kindsR 0,false,⟨0,0,[]⟩⟩ false _ (fun h=>pc_nil hQ h) (fun _=>rfl) (fun h=>by simp at h);simpa using this⟩
   | cons v r =>
    by_cases hv:v=nulW
    ·subst hv
     cases r with
     | nil=>exact ⟨_,_,rc_n b line w0 k hQ hW p1 k1,by have:=fin ⟨w0,ixN k kindsR 0,true,⟨0,0,[]⟩⟩ false _ (fun h=>pc_null hQ h) (fun _=>rfl) (fun h=>by simp at h);simpa using this⟩
     | cons d r =>
      cases r with
      | nil=>exact ⟨_,_,rc_nd b line w0 k d hQ hW p1 k1,by have:=fin ⟨w0,ixN k kindsR 0,true,⟨0,0,[]⟩⟩ true _ (fun h=>pc_null hQ h) (fun h=>by simp at h) (fun _=>by simp [pDf]);simpa using this⟩
      | cons w r =>
       cases r with
       | nil =>
        by_cases hd:d=defW
        ·subst hd
         refine ⟨_,_,rc_ndw b line w0 k w (hwl w (by simp)) hQ hW p1 k1,fin _ _ _ (fun h=>pc_null hQ h) (fun h=>?_) (fun h=>?_)⟩
         ·have e:rdS w=some (readS w).1:=by unfold rdS;rw [if_pos (by simpa using h)]
          simp [pDf,e]
         ·have e:rdS w=none:=by unfold rdS;rw [if_neg (by simpa using h)]
          simp [pDf,e]
        ·exact ⟨_,_,rc_nxw b line w0 k d w hd hQ hW p1 k1,by have:=fin ⟨w0,ixN k kindsR 0,true,⟨0,0,[]⟩⟩ true _ (fun h=>pc_null hQ h) (fun h=>by simp at h) (fun _=>by simp [pDf,hd]);simpa using this⟩
       | cons y z=>exact ⟨_,_,rc_ndwyz b line w0 k d w y z hQ hW p1 k1,by have:=fin ⟨w0,ixN k kindsR 0,true,⟨0,0,[]⟩⟩ true _ (fun h=>pc_null hQ h) (fun h=>by simp at h) (fun _=>by simp [pDf]);simpa using this⟩
    ·cases r with
     | nil=>exact ⟨_,_,rc_v b line w0 k v hv hQ hW p1 k1,by have:=fin ⟨w0,ixN k kindsR 0,false,⟨0,0,[]⟩⟩ true _ (fun h=>pc_not hQ hv h) (fun h=>by simp at h) (fun _=>by simp [pDf]);simpa using this⟩
     | cons w r =>
      cases r with
      | nil =>
       by_cases hd:v=defW
       ·subst hd
        refine ⟨_,_,rc_dw b line w0 k w (hwl w (by simp)) hQ hW p1 k1,fin _ _ _ (fun h=>pc_not hQ hv h) (fun h=>?_) (fun h=>?_)⟩
        ·have e:rdS w=some (readS w).1:=by unfold rdS;rw [if_pos (by simpa using h)]
         simp [pDf,e]
        ·have e:rdS w=none:=by unfold rdS;rw [if_neg (by simpa using h)]
         simp [pDf,e]
       ·exact ⟨_,_,rc_vw b line w0 k v w hv hd hQ hW p1 k1,by have:=fin ⟨w0,ixN k kindsR 0,false,⟨0,0,[]⟩⟩ true _ (fun h=>pc_not hQ hv h) (fun h=>by simp at h) (fun _=>by simp [pDf,hd]);simpa using this⟩
      | cons y z=>exact ⟨_,_,rc_vwyz b line w0 k v w y z hv hQ hW p1 k1,by have:=fin ⟨w0,ixN k kindsR 0,false,⟨0,0,[]⟩⟩ true _ (fun h=>pc_not hQ hv h) (fun h=>by simp at h) (fun _=>by simp [pDf]);simpa using this⟩
abbrev rowR (t:Tbl) (kv:AV):List AV:=[.str t.nm,.own 2 t.cols.length,kv,.own 3 t.fgn.length,.own 4 t.idx.length]
abbrev HR (b:Bool) (x:List Tbl) (t:Tbl) (kv:AV):Heap:=[rB b,.rows 5 (x.map tblC++[rowR t kv]) true,.rows 6 (t.cols.map colC) true,.rows 3 (t.fgn.map fgnC) true,.rows 3 (t.idx.map idxC) true]
section
variable (b:Bool) (x:List Tbl) (t:Tbl) (kv:AV)
theorem t_key (hk:KvOk t kv) (l:List UInt8) (hl:l.length≤1000000) (ws:List (List UInt8)) (h:splitC 32 l=keyW::ws) :
  R K (.call 31 [.ptr 0 0,.optr 1 (x.length+1) x.length 0,.str l] (HR b x t kv))=some (.tup [],HR (b||!(ws.all nmB)) x (putL t (.key ws)) (.rows (SLs ws))):=by
 have hc:=p_Cut l (by omega)
 have hv:=kv_locs hk
 obtain ⟨z1,z2⟩:=splitC_len 32 l
 rw [h] at z1 z2
 have n0:(x.length < x.length+1)=True:=eq_true (by omega)
 have tg:=tl_get x (rowR t kv) []
 have ts:=fun r'=>tl_set x (rowR t kv) r' []
 have q_column:(([107,101,121]:List UInt8)==[99,111,108,117,109,110])=false:=rfl
 have h1:=r_words b ws (by simp only [List.length_cons] at z1;omega) (fun w hw=>by have:=z2 w (by simp [hw]);omega)
 rcases line_cut l with ⟨w,r,e1,e2,e3,e4⟩ | ⟨e1,e2⟩
 ·rw [h] at e2
  obtain ⟨rfl,rfl⟩:=List.cons.inj e2
  rw [e1] at hc
  simp only at hc
  have hs:=p_Split r 32 (by have:=congrArg List.length e3;simp at this;omega)
  simp only [rowR,keyW] at tg ts e4 hc
  rw [call_31]
  simp -implicitDefEqProofs only [go_sem,simprocAttr,Tryz.f31,e4,hs,HR,rB,rowR,hc,n0,tg,ts,hv,at_zero,at_1,two_nat,one_nat,beq_self_eq_true,bne,Int.toNat_natCast,List.length_append,List.length_map,SLs_len,locsR_SLs,locsR_app,locsR_tbls,locsR_cols,locsR_fgns,locsR_idx,or_true,ne_eq,not_false_eq_true,false_or,reduceCtorEq,q_column,keyW,h1]
  all_goals rfl
 ·rw [h] at e2
  obtain ⟨rfl,rfl⟩:=List.cons.inj e2
  rw [e1] at hc
  simp only at hc
  simp only [rowR,keyW] at tg ts hc
  simp only [SLs,List.map_nil] at h1
  rw [call_31]
  simp -implicitDefEqProofs only [go_sem,simprocAttr,Tryz.f31,HR,rB,rowR,hc,n0,tg,ts,hv,at_zero,at_1,two_nat,one_nat,beq_self_eq_true,bne,Int.toNat_natCast,List.length_append,List.length_map,SLs_len,locsR_SLs,locsR_app,locsR_tbls,locsR_cols,locsR_fgns,locsR_idx,or_true,ne_eq,not_false_eq_true,false_or,reduceCtorEq,q_column,keyW,h1]
  all_goals rfl
theorem t_col (hk:KvOk t kv) (hC:t.cols.length≤1000000) (l:List UInt8) (hl:l.length≤1000000) (ws:List (List UInt8)) (h:splitC 32 l=colW::ws) :
  ∃ (c:Col) (b':Bool),R K (.call 31 [.ptr 0 0,.optr 1 (x.length+1) x.length 0,.str l] (HR b x t kv))=some (.tup [],HR b' x (putL t (.column c)) kv)∧((pCol rdS false (l.drop 7)=some (.column c)∧b'=b)∨(pCol rdS false (l.drop 7)=none∧b'=true)):=by
 have hc:=p_Cut l (by omega)
 have hv:=kv_locs hk
 obtain ⟨z1,z2⟩:=splitC_len 32 l
 rw [h] at z1 z2
 have n0:(x.length < x.length+1)=True:=eq_true (by omega)
 have tg:=tl_get x (rowR t kv) []
 have ts:=fun r'=>tl_set x (rowR t kv) r' []
 rcases line_cut l with ⟨w,r,e1,e2,e3,e4⟩ | ⟨e1,e2⟩
 ·rw [h] at e2
  obtain ⟨rfl,rfl⟩:=List.cons.inj e2
  rw [e1] at hc
  simp only at hc
  have hs:=p_Split r 32 (by have:=congrArg List.length e3;simp at this;omega)
  simp only [rowR,colW] at tg ts e4 hc
  have ed:l.drop 7=r:=by rw [e3];rfl
  rw [ed]
  obtain ⟨c,b',h1,hs1⟩:=r_column b r (by first | (simp;done) | (have:=congrArg List.length e3;simp at this;omega))
  refine ⟨c,b',?_,hs1⟩
  have ca:=cols_app t.cols c
  have rm:((t.cols.length+1)*65≤roomMax)=True:=eq_true (by unfold roomMax;omega)
  simp only [colA,colC] at h1 ca
  rw [call_31]
  simp -implicitDefEqProofs only [go_sem,simprocAttr,Tryz.f31,e4,hs,HR,rB,rowR,hc,n0,tg,ts,hv,at_zero,at_1,two_nat,one_nat,beq_self_eq_true,bne,Int.toNat_natCast,List.length_append,List.length_map,SLs_len,locsR_SLs,locsR_app,locsR_tbls,locsR_cols,locsR_fgns,locsR_idx,or_true,ne_eq,not_false_eq_true,false_or,reduceCtorEq,bne,colW,h1,ca,rm,putL]
  all_goals rfl
 ·rw [h] at e2
  obtain ⟨rfl,rfl⟩:=List.cons.inj e2
  rw [e1] at hc
  simp only at hc
  simp only [rowR,colW] at tg ts hc
  have ed:colW.drop 7=[]:=rfl
  rw [ed]
  obtain ⟨c,b',h1,hs1⟩:=r_column b [] (by first | (simp;done) | (have:=congrArg List.length e3;simp at this;omega))
  refine ⟨c,b',?_,hs1⟩
  have ca:=cols_app t.cols c
  have rm:((t.cols.length+1)*65≤roomMax)=True:=eq_true (by unfold roomMax;omega)
  simp only [colA,colC] at h1 ca
  rw [call_31]
  simp -implicitDefEqProofs only [go_sem,simprocAttr,Tryz.f31,HR,rB,rowR,hc,n0,tg,ts,hv,at_zero,at_1,two_nat,one_nat,beq_self_eq_true,bne,Int.toNat_natCast,List.length_append,List.length_map,SLs_len,locsR_SLs,locsR_app,locsR_tbls,locsR_cols,locsR_fgns,locsR_idx,or_true,ne_eq,not_false_eq_true,false_or,reduceCtorEq,bne,colW,h1,ca,rm,putL]
  all_goals rfl
theorem t_for (hk:KvOk t kv) (hC:t.fgn.length≤1000000) (l:List UInt8) (hl:l.length≤1000000) (ws:List (List UInt8)) (h:splitC 32 l=forW::ws) :
  (∃ (f:Fgn) (b':Bool),R K (.call 31 [.ptr 0 0,.optr 1 (x.length+1) x.length 0,.str l] (HR b x t kv))=some (.tup [],HR b' x (putL t (.foreign f)) kv) ∧
   (((match (generalizing:=false) ws with
    | n::m::cs=>if (nmB n&&nmB m&&cs.all nmB)=true then some (Ln.foreign ⟨n,cs,m⟩) else none
    | _=>none)=some (.foreign f)∧b'=b)∨((match (generalizing:=false) ws with
    | n::m::cs=>if (nmB n&&nmB m&&cs.all nmB)=true then some (Ln.foreign ⟨n,cs,m⟩) else none
    | _=>none)=none∧b'=true))) ∨
  (R K (.call 31 [.ptr 0 0,.optr 1 (x.length+1) x.length 0,.str l] (HR b x t kv))=some (.tup [],HR true x t kv)∧(match (generalizing:=false) ws with
    | n::m::cs=>if (nmB n&&nmB m&&cs.all nmB)=true then some (Ln.foreign ⟨n,cs,m⟩) else none
    | _=>none)=none):=by
 have hc:=p_Cut l (by omega)
 have hv:=kv_locs hk
 obtain ⟨z1,z2⟩:=splitC_len 32 l
 rw [h] at z1 z2
 have n0:(x.length < x.length+1)=True:=eq_true (by omega)
 have tg:=tl_get x (rowR t kv) []
 have ts:=fun r'=>tl_set x (rowR t kv) r' []
 have q_column:(([102,111,114,101,105,103,110]:List UInt8)==[99,111,108,117,109,110])=false:=rfl
 have q_key:(([102,111,114,101,105,103,110]:List UInt8)==[107,101,121])=false:=rfl
 rcases line_cut l with ⟨w,r,e1,e2,e3,e4⟩ | ⟨e1,e2⟩
 ·rw [h] at e2
  obtain ⟨rfl,rfl⟩:=List.cons.inj e2
  rw [e1] at hc
  simp only at hc
  have hs:=p_Split r 32 (by have:=congrArg List.length e3;simp at this;omega)
  simp only [rowR,forW] at tg ts e4 hc
  have rm:((t.fgn.length+1)*57≤roomMax)=True:=eq_true (by unfold roomMax;omega)
  have q_i:(([102,111,114,101,105,103,110]:List UInt8)==[105,110,100,101,120])=false:=rfl
  have q_u:(([102,111,114,101,105,103,110]:List UInt8)==[117,110,105,113,117,101])=false:=rfl
  generalize hw:splitC 32 r=ws at *
  cases ws with
  | nil=>exact absurd hw (splitC_ne 32 r)
  | cons n ws =>
   cases ws with
   | nil =>
    simp only [SLs,List.map_cons,List.map_nil] at hs
    refine .inr ⟨?_,rfl⟩
    rw [call_31]
    simp -implicitDefEqProofs only [go_sem,simprocAttr,Tryz.f31,e4,hs,HR,rB,rowR,hc,n0,tg,ts,hv,at_zero,at_1,two_nat,one_nat,beq_self_eq_true,bne,Int.toNat_natCast,List.length_append,List.length_map,SLs_len,locsR_SLs,locsR_app,locsR_tbls,locsR_cols,locsR_fgns,locsR_idx,or_true,ne_eq,not_false_eq_true,false_or,reduceCtorEq,q_column,q_key,q_i,q_u,forW]
    all_goals rfl
   | cons m cs =>
    have p1:=r_lword b n (by have:=z2 n (by simp);omega)
    have p2:=r_lword (b||!nmB n) m (by have:=z2 m (by simp);omega)
    have h1:=r_words (b||!nmB n||!nmB m) cs (by simp only [List.length_cons] at z1;omega) (fun w hw=>by have:=z2 w (by simp [hw]);omega)
    have tt:=tail_rows cs
    have al:=allLen_SLs cs
    simp only [SLs,List.map_cons] at hs h1 tt al
    have d1:((1:Int) < ((cs.length+1+1:Nat):Int))=True:=eq_true (by omega)
    have d2:((2:Int)≤((cs.length+1+1:Nat):Int))=True:=eq_true (by omega)
    refine .inl ⟨⟨n,cs,m⟩,b||!nmB n||!nmB m||!cs.all nmB,?_,?_⟩
    ·have ca:=fgns_app t.fgn ⟨n,cs,m⟩
     simp only [fgnC,SLs] at ca
     rw [call_31]
     simp -implicitDefEqProofs only [go_sem,simprocAttr,Tryz.f31,e4,hs,HR,rB,rowR,hc,n0,tg,ts,hv,at_zero,at_1,two_nat,one_nat,beq_self_eq_true,bne,Int.toNat_natCast,List.length_append,List.length_map,SLs_len,locsR_SLs,locsR_app,locsR_tbls,locsR_cols,locsR_fgns,locsR_idx,or_true,ne_eq,not_false_eq_true,false_or,reduceCtorEq,q_column,q_key,forW,p1,p2,h1,ca,rm,putL,List.map_cons,List.map_nil,tt,al,allLen,d1,d2,Nat.add_sub_cancel]
     all_goals rfl
    ·simp only
     cases nmB n<;>cases nmB m<;>cases cs.all nmB<;>simp
 ·rw [h] at e2
  obtain ⟨rfl,rfl⟩:=List.cons.inj e2
  rw [e1] at hc
  simp only at hc
  simp only [rowR,forW] at tg ts hc
  have q_i:(([102,111,114,101,105,103,110]:List UInt8)==[105,110,100,101,120])=false:=rfl
  have q_u:(([102,111,114,101,105,103,110]:List UInt8)==[117,110,105,113,117,101])=false:=rfl
  refine .inr ⟨?_,rfl⟩
  rw [call_31]
  simp -implicitDefEqProofs only [go_sem,simprocAttr,Tryz.f31,HR,rB,rowR,hc,n0,tg,ts,hv,at_zero,at_1,two_nat,one_nat,beq_self_eq_true,bne,Int.toNat_natCast,List.length_append,List.length_map,SLs_len,locsR_SLs,locsR_app,locsR_tbls,locsR_cols,locsR_fgns,locsR_idx,or_true,ne_eq,not_false_eq_true,false_or,reduceCtorEq,q_column,q_key,q_i,q_u,forW]
  all_goals rfl
theorem t_index (hk:KvOk t kv) (hC:t.idx.length≤1000000) (l:List UInt8) (hl:l.length≤1000000) (ws:List (List UInt8)) (h:splitC 32 l=indW::ws) :
  (∃ (f:Idx) (b':Bool),R K (.call 31 [.ptr 0 0,.optr 1 (x.length+1) x.length 0,.str l] (HR b x t kv))=some (.tup [],HR b' x (putL t (.index f)) kv) ∧
   (((match (generalizing:=false) ws with
    | n::cs=>if (nmB n&&cs.all nmB)=true then some (Ln.index ⟨n,cs,false⟩) else none
    | []=>none)=some (.index f)∧b'=b)∨((match (generalizing:=false) ws with
    | n::cs=>if (nmB n&&cs.all nmB)=true then some (Ln.index ⟨n,cs,false⟩) else none
    | []=>none)=none∧b'=true))) ∨
  (R K (.call 31 [.ptr 0 0,.optr 1 (x.length+1) x.length 0,.str l] (HR b x t kv))=some (.tup [],HR true x t kv)∧(match (generalizing:=false) ws with
    | n::cs=>if (nmB n&&cs.all nmB)=true then some (Ln.index ⟨n,cs,false⟩) else none
    | []=>none)=none):=by
 have hc:=p_Cut l (by omega)
 have hv:=kv_locs hk
 obtain ⟨z1,z2⟩:=splitC_len 32 l
 rw [h] at z1 z2
 have n0:(x.length < x.length+1)=True:=eq_true (by omega)
 have tg:=tl_get x (rowR t kv) []
 have ts:=fun r'=>tl_set x (rowR t kv) r' []
 have q_column:(([105,110,100,101,120]:List UInt8)==[99,111,108,117,109,110])=false:=rfl
 have q_key:(([105,110,100,101,120]:List UInt8)==[107,101,121])=false:=rfl
 have q_foreign:(([105,110,100,101,120]:List UInt8)==[102,111,114,101,105,103,110])=false:=rfl
 have qu:(([105,110,100,101,120]:List UInt8)==[117,110,105,113,117,101])=false:=rfl
 rcases line_cut l with ⟨w,r,e1,e2,e3,e4⟩ | ⟨e1,e2⟩
 ·rw [h] at e2
  obtain ⟨rfl,rfl⟩:=List.cons.inj e2
  rw [e1] at hc
  simp only at hc
  have hs:=p_Split r 32 (by have:=congrArg List.length e3;simp at this;omega)
  simp only [rowR,indW] at tg ts e4 hc
  have rm:((t.idx.length+1)*49≤roomMax)=True:=eq_true (by unfold roomMax;omega)
  generalize hw:splitC 32 r=ws at *
  cases ws with
  | nil=>exact absurd hw (splitC_ne 32 r)
  | cons n cs =>
   have p1:=r_lword b n (by have:=z2 n (by simp);omega)
   have h1:=r_words (b||!nmB n) cs (by simp only [List.length_cons] at z1;omega) (fun w hw=>by have:=z2 w (by simp [hw]);omega)
   have tt:=tail_rows cs
   have al:=allLen_SLs cs
   simp only [SLs,List.map_cons] at hs h1 tt al
   have d1:((0:Int) < ((cs.length+1:Nat):Int))=True:=eq_true (by omega)
   have d2:((1:Int)≤((cs.length+1:Nat):Int))=True:=eq_true (by omega)
   refine .inl ⟨⟨n,cs,false⟩,b||!nmB n||!cs.all nmB,?_,?_⟩
   ·have ca:=idx_app t.idx ⟨n,cs,false⟩
    simp only [idxC,SLs] at ca
    rw [call_31]
    simp -implicitDefEqProofs only [go_sem,simprocAttr,Tryz.f31,e4,hs,HR,rB,rowR,hc,n0,tg,ts,hv,at_zero,at_1,two_nat,one_nat,beq_self_eq_true,bne,Int.toNat_natCast,List.length_append,List.length_map,SLs_len,locsR_SLs,locsR_app,locsR_tbls,locsR_cols,locsR_fgns,locsR_idx,or_true,ne_eq,not_false_eq_true,false_or,reduceCtorEq,q_column,q_key,q_foreign,qu,indW,p1,h1,ca,rm,putL,List.map_cons,List.map_nil,tt,al,allLen,d1,d2,Nat.add_sub_cancel]
    all_goals rfl
   ·simp only
    cases nmB n<;>cases cs.all nmB<;>simp
 ·rw [h] at e2
  obtain ⟨rfl,rfl⟩:=List.cons.inj e2
  rw [e1] at hc
  simp only at hc
  simp only [rowR,indW] at tg ts hc
  refine .inr ⟨?_,rfl⟩
  rw [call_31]
  simp -implicitDefEqProofs only [go_sem,simprocAttr,Tryz.f31,HR,rB,rowR,hc,n0,tg,ts,hv,at_zero,at_1,two_nat,one_nat,beq_self_eq_true,bne,Int.toNat_natCast,List.length_append,List.length_map,SLs_len,locsR_SLs,locsR_app,locsR_tbls,locsR_cols,locsR_fgns,locsR_idx,or_true,ne_eq,not_false_eq_true,false_or,reduceCtorEq,q_column,q_key,q_foreign,qu,indW]
  all_goals rfl
theorem t_unique (hk:KvOk t kv) (hC:t.idx.length≤1000000) (l:List UInt8) (hl:l.length≤1000000) (ws:List (List UInt8)) (h:splitC 32 l=uniW::ws) :
  (∃ (f:Idx) (b':Bool),R K (.call 31 [.ptr 0 0,.optr 1 (x.length+1) x.length 0,.str l] (HR b x t kv))=some (.tup [],HR b' x (putL t (.index f)) kv) ∧
   (((match (generalizing:=false) ws with
    | n::cs=>if (nmB n&&cs.all nmB)=true then some (Ln.index ⟨n,cs,true⟩) else none
    | []=>none)=some (.index f)∧b'=b)∨((match (generalizing:=false) ws with
    | n::cs=>if (nmB n&&cs.all nmB)=true then some (Ln.index ⟨n,cs,true⟩) else none
    | []=>none)=none∧b'=true))) ∨
  (R K (.call 31 [.ptr 0 0,.optr 1 (x.length+1) x.length 0,.str l] (HR b x t kv))=some (.tup [],HR true x t kv)∧(match (generalizing:=false) ws with
    | n::cs=>if (nmB n&&cs.all nmB)=true then some (Ln.index ⟨n,cs,true⟩) else none
    | []=>none)=none):=by
 have hc:=p_Cut l (by omega)
 have hv:=kv_locs hk
 obtain ⟨z1,z2⟩:=splitC_len 32 l
 rw [h] at z1 z2
 have n0:(x.length < x.length+1)=True:=eq_true (by omega)
 have tg:=tl_get x (rowR t kv) []
 have ts:=fun r'=>tl_set x (rowR t kv) r' []
 have q_column:(([117,110,105,113,117,101]:List UInt8)==[99,111,108,117,109,110])=false:=rfl
 have q_key:(([117,110,105,113,117,101]:List UInt8)==[107,101,121])=false:=rfl
 have q_foreign:(([117,110,105,113,117,101]:List UInt8)==[102,111,114,101,105,103,110])=false:=rfl
 have q_index:(([117,110,105,113,117,101]:List UInt8)==[105,110,100,101,120])=false:=rfl
 rcases line_cut l with ⟨w,r,e1,e2,e3,e4⟩ | ⟨e1,e2⟩
 ·rw [h] at e2
  obtain ⟨rfl,rfl⟩:=List.cons.inj e2
  rw [e1] at hc
  simp only at hc
  have hs:=p_Split r 32 (by have:=congrArg List.length e3;simp at this;omega)
  simp only [rowR,uniW] at tg ts e4 hc
  have rm:((t.idx.length+1)*49≤roomMax)=True:=eq_true (by unfold roomMax;omega)
  generalize hw:splitC 32 r=ws at *
  cases ws with
  | nil=>exact absurd hw (splitC_ne 32 r)
  | cons n cs =>
   have p1:=r_lword b n (by have:=z2 n (by simp);omega)
   have h1:=r_words (b||!nmB n) cs (by simp only [List.length_cons] at z1;omega) (fun w hw=>by have:=z2 w (by simp [hw]);omega)
   have tt:=tail_rows cs
   have al:=allLen_SLs cs
   simp only [SLs,List.map_cons] at hs h1 tt al
   have d1:((0:Int) < ((cs.length+1:Nat):Int))=True:=eq_true (by omega)
   have d2:((1:Int)≤((cs.length+1:Nat):Int))=True:=eq_true (by omega)
   refine .inl ⟨⟨n,cs,true⟩,b||!nmB n||!cs.all nmB,?_,?_⟩
   ·have ca:=idx_app t.idx ⟨n,cs,true⟩
    simp only [idxC,SLs] at ca
    rw [call_31]
    simp -implicitDefEqProofs only [go_sem,simprocAttr,Tryz.f31,e4,hs,HR,rB,rowR,hc,n0,tg,ts,hv,at_zero,at_1,two_nat,one_nat,beq_self_eq_true,bne,Int.toNat_natCast,List.length_append,List.length_map,SLs_len,locsR_SLs,locsR_app,locsR_tbls,locsR_cols,locsR_fgns,locsR_idx,or_true,ne_eq,not_false_eq_true,false_or,reduceCtorEq,q_column,q_key,q_foreign,q_index,uniW,p1,h1,ca,rm,putL,List.map_cons,List.map_nil,tt,al,allLen,d1,d2,Nat.add_sub_cancel]
    all_goals rfl
   ·simp only
    cases nmB n<;>cases cs.all nmB<;>simp
 ·rw [h] at e2
  obtain ⟨rfl,rfl⟩:=List.cons.inj e2
  rw [e1] at hc
  simp only at hc
  simp only [rowR,uniW] at tg ts hc
  refine .inr ⟨?_,rfl⟩
  rw [call_31]
  simp -implicitDefEqProofs only [go_sem,simprocAttr,Tryz.f31,HR,rB,rowR,hc,n0,tg,ts,hv,at_zero,at_1,two_nat,one_nat,beq_self_eq_true,bne,Int.toNat_natCast,List.length_append,List.length_map,SLs_len,locsR_SLs,locsR_app,locsR_tbls,locsR_cols,locsR_fgns,locsR_idx,or_true,ne_eq,not_false_eq_true,false_or,reduceCtorEq,q_column,q_key,q_foreign,q_index,uniW]
  all_goals rfl
theorem t_other (hk:KvOk t kv) (l:List UInt8) (hl:l.length≤1000000) (w0:List UInt8) (ws:List (List UInt8)) (h:splitC 32 l=w0::ws) (hw:w0≠colW∧w0≠keyW∧w0≠forW∧w0≠indW∧w0≠uniW) :
  R K (.call 31 [.ptr 0 0,.optr 1 (x.length+1) x.length 0,.str l] (HR b x t kv))=some (.tup [],HR true x t kv):=by
 have hc:=p_Cut l (by omega)
 have hv:=kv_locs hk
 obtain ⟨z1,z2⟩:=splitC_len 32 l
 rw [h] at z1 z2
 have n0:(x.length < x.length+1)=True:=eq_true (by omega)
 have tg:=tl_get x (rowR t kv) []
 have ts:=fun r'=>tl_set x (rowR t kv) r' []
 have q_column:(w0==([99,111,108,117,109,110]:List UInt8))=false:=by simpa using hw.1
 have q_key:(w0==([107,101,121]:List UInt8))=false:=by simpa using hw.2.1
 have q_foreign:(w0==([102,111,114,101,105,103,110]:List UInt8))=false:=by simpa using hw.2.2.1
 have q_index:(w0==([105,110,100,101,120]:List UInt8))=false:=by simpa using hw.2.2.2.1
 have q_unique:(w0==([117,110,105,113,117,101]:List UInt8))=false:=by simpa using hw.2.2.2.2
 rcases line_cut l with ⟨w,r,e1,e2,e3,e4⟩ | ⟨e1,e2⟩
 ·rw [h] at e2
  obtain ⟨rfl,rfl⟩:=List.cons.inj e2
  rw [e1] at hc
  simp only at hc
  have hs:=p_Split r 32 (by have:=congrArg List.length e3;simp at this;omega)
  simp only [rowR] at tg ts
  rw [call_31]
  simp -implicitDefEqProofs only [go_sem,simprocAttr,Tryz.f31,e4,hs,HR,rB,rowR,hc,n0,tg,ts,hv,at_zero,at_1,two_nat,one_nat,beq_self_eq_true,bne,Int.toNat_natCast,List.length_append,List.length_map,SLs_len,locsR_SLs,locsR_app,locsR_tbls,locsR_cols,locsR_fgns,locsR_idx,or_true,ne_eq,not_false_eq_true,false_or,reduceCtorEq,q_column,q_key,q_foreign,q_index,q_unique]
  all_goals rfl
 ·rw [h] at e2
  obtain ⟨rfl,rfl⟩:=List.cons.inj e2
  rw [e1] at hc
  simp only at hc
  simp only [rowR] at tg ts
  rw [call_31]
  simp -implicitDefEqProofs only [go_sem,simprocAttr,Tryz.f31,HR,rB,rowR,hc,n0,tg,ts,hv,at_zero,at_1,two_nat,one_nat,beq_self_eq_true,bne,Int.toNat_natCast,List.length_append,List.length_map,SLs_len,locsR_SLs,locsR_app,locsR_tbls,locsR_cols,locsR_fgns,locsR_idx,or_true,ne_eq,not_false_eq_true,false_or,reduceCtorEq,q_column,q_key,q_foreign,q_index,q_unique]
  all_goals rfl
end
theorem r_tableLine (b:Bool) (x:List Tbl) (t:Tbl) (kv:AV) (hk:KvOk t kv) {m:Nat} (hR:Room t m) (hm:m≤1000000) (l:List UInt8) (hl:l.length≤1000000) :
  ∃ (b':Bool) (t':Tbl) (kv':AV),R K (.call 31 [.ptr 0 0,.optr 1 (x.length+1) x.length 0,.str l] (HR b x t kv))=some (.tup [],HR b' x t' kv')∧KvOk t' kv'∧Room t' (m+1) ∧
   ((b'=b∧∃ n,pLn rdS false l=some n∧isTab n=false∧t'=putL t n)∨(b'=true∧∀ n,pLn rdS false l=some n→isTab n=true)):=by
 obtain ⟨r1,r2,r3⟩:=hR
 have hR':Room t m:=⟨r1,r2,r3⟩
 have hS:Room t (m+1):=⟨by omega,by omega,by omega⟩
 cases h:splitC 32 l with
 | nil=>exact absurd h (splitC_ne 32 l)
 | cons w ws =>
  by_cases w2:w=colW
  ·subst w2
   obtain ⟨c,b',e,hs⟩:=t_col b x t kv hk (by omega) l hl ws h
   refine ⟨b',_,kv,e,hk,hR'.put (.column c) rfl,?_⟩
   rw [pl_col h]
   rcases hs with ⟨h1,h2⟩ | ⟨h1,h2⟩
   ·exact .inl ⟨h2,_,h1,rfl,rfl⟩
   ·exact .inr ⟨h2,fun n hn=>absurd (h1.symm.trans hn) (by simp)⟩
  by_cases w3:w=keyW
  ·subst w3
   refine ⟨_,_,_,t_key b x t kv hk l hl ws h,.inr rfl,hR'.put (.key ws) rfl,?_⟩
   rw [pl_key h]
   cases ha:ws.all nmB
   ·exact .inr ⟨by simp,fun n hn=>by simp at hn⟩
   ·exact .inl ⟨by simp,_,rfl,rfl,rfl⟩
  by_cases w4:w=forW
  ·subst w4
   rcases t_for b x t kv hk (by omega) l hl ws h with ⟨c,b',e,hs⟩ | ⟨e,hs⟩
   ·refine ⟨b',_,kv,e,hk,hR'.put (.foreign c) rfl,?_⟩
    rw [pl_for h]
    rcases hs with ⟨h1,h2⟩ | ⟨h1,h2⟩
    ·exact .inl ⟨h2,_,h1,rfl,rfl⟩
    ·exact .inr ⟨h2,fun n hn=>absurd (h1.symm.trans hn) (by simp)⟩
   ·refine ⟨true,t,kv,e,hk,hS,.inr ⟨rfl,fun n hn=>?_⟩⟩
    rw [pl_for h] at hn
    exact absurd (hs.symm.trans hn) (by simp)
  by_cases w5:w=indW
  ·subst w5
   rcases t_index b x t kv hk (by omega) l hl ws h with ⟨c,b',e,hs⟩ | ⟨e,hs⟩
   ·refine ⟨b',_,kv,e,hk,hR'.put (.index c) rfl,?_⟩
    rw [pl_ind h]
    rcases hs with ⟨h1,h2⟩ | ⟨h1,h2⟩
    ·exact .inl ⟨h2,_,h1,rfl,rfl⟩
    ·exact .inr ⟨h2,fun n hn=>absurd (h1.symm.trans hn) (by simp)⟩
   ·refine ⟨true,t,kv,e,hk,hS,.inr ⟨rfl,fun n hn=>?_⟩⟩
    rw [pl_ind h] at hn
    exact absurd (hs.symm.trans hn) (by simp)
  by_cases w6:w=uniW
  ·subst w6
   rcases t_unique b x t kv hk (by omega) l hl ws h with ⟨c,b',e,hs⟩ | ⟨e,hs⟩
   ·refine ⟨b',_,kv,e,hk,hR'.put (.index c) rfl,?_⟩
    rw [pl_uni h]
    rcases hs with ⟨h1,h2⟩ | ⟨h1,h2⟩
    ·exact .inl ⟨h2,_,h1,rfl,rfl⟩
    ·exact .inr ⟨h2,fun n hn=>absurd (h1.symm.trans hn) (by simp)⟩
   ·refine ⟨true,t,kv,e,hk,hS,.inr ⟨rfl,fun n hn=>?_⟩⟩
    rw [pl_uni h] at hn
    exact absurd (hs.symm.trans hn) (by simp)
  refine ⟨true,t,kv,t_other b x t kv hk l hl w ws h ⟨w2,w3,w4,w5,w6⟩,hk,hS,.inr ⟨rfl,fun n hn=>?_⟩⟩
  by_cases w1:w=tabW
  ·subst w1
   rw [pl_tab h] at hn
   split at hn
   ·split at hn
    ·obtain rfl:=Option.some.inj hn;rfl
    ·simp at hn
   ·simp at hn
  ·rw [pl_other h ⟨w1,w2,w3,w4,w5,w6⟩] at hn
   simp at hn
theorem p_CutPrefix (s p:List UInt8):R K (.call 29 [.str s,.str p] [])=some (.tup [.str (Lib.trimPrefix s p),.bool (Lib.hasPrefix s p)],[]):=R_prim rfl
abbrev tabP:List UInt8:=[116,97,98,108,101,32]
theorem tab_out {l:List UInt8} (h:Lib.hasPrefix l tabP=false):∀ n,pLn rdS false l=some n→isTab n=false:=by
 intro n hn
 cases e:splitC 32 l with
 | nil=>exact absurd e (splitC_ne 32 l)
 | cons w ws =>
  by_cases w1:w=tabW
  ·exfalso
   subst w1
   rcases line_cut l with ⟨w,r,e1,e2,e3,e4⟩ | ⟨e1,e2⟩
   ·rw [e] at e2
    obtain ⟨rfl,_⟩:=List.cons.inj e2
    rw [e3] at h
    simp [Lib.hasPrefix,tabW,tabP] at h
   ·rw [e] at e2
    obtain ⟨_,rfl⟩:=List.cons.inj e2
    rw [pl_tab e] at hn
    simp at hn
  ·unfold pLn at hn
   rw [e] at hn
   simp only at hn
   rw [if_neg w1] at hn
   split at hn
   ·obtain ⟨c,rfl,_⟩:=pCol_fit hn;rfl
   split at hn
   ·split at hn
    ·obtain rfl:=Option.some.inj hn;rfl
    ·simp at hn
   split at hn
   ·split at hn
    ·split at hn
     ·obtain rfl:=Option.some.inj hn;rfl
     ·simp at hn
    ·simp at hn
   split at hn
   ·split at hn
    ·split at hn
     ·obtain rfl:=Option.some.inj hn;rfl
     ·simp at hn
    ·simp at hn
   ·simp at hn
theorem nmB_no32 {s:List UInt8} (h:nmB s=true):(32:UInt8)∉s:=by
 intro hm
 simp only [nmB,Bool.and_eq_true,List.all_eq_true] at h
 have:=h.2 _ hm
 revert this
 decide
theorem tab_in {l:List UInt8} (h:Lib.hasPrefix l tabP=true):∃ r,Lib.trimPrefix l tabP=r∧l.length=r.length+6∧pLn rdS false l=if nmB r=true then some (.table r) else none:=by
 have hr:∃ r,l=tabP++r:=by
  simp only [Lib.hasPrefix,List.isPrefixOf_iff_prefix] at h
  obtain ⟨r,e⟩:=h
  exact ⟨r,e.symm⟩
 obtain ⟨r,rfl⟩:=hr
 refine ⟨r,?_,by simp,?_⟩
 ·unfold Lib.trimPrefix
  rw [if_pos h]
  rfl
 ·have e:splitC 32 (tabP++r)=tabW::splitC 32 r:=splitC_app 32 tabW r (by decide)
  rw [pl_tab e]
  rcases cut_split 32 r with ⟨a,r',h1,e'⟩ | h1
  ·rw [e',splitC_app 32 a r' h1]
   have hn:nmB (a++32::r')=false:=by
    cases hq:nmB (a++32::r')
    ·rfl
    ·exact absurd (nmB_no32 hq) (by simp)
   rw [hn]
   cases hs:splitC 32 r' with
   | nil=>exact absurd hs (splitC_ne 32 r')
   | cons u v=>simp
  ·rw [splitC_one 32 r h1]
abbrev DA (b:Bool):Heap:=[.cells [.nils],.cells [.own 3 0],rB b,.rows 5 [] true]
abbrev DB (b:Bool) (x:List Tbl) (t:Tbl) (kv:AV):Heap:=[.cells [.nils],.cells [.own 3 (x.length+1)],rB b,.rows 5 (x.map tblC++[rowT t kv]) true,.rows 6 (t.cols.map colC) true,.rows 3 (t.fgn.map fgnC) true,.rows 3 (t.idx.map idxC) true]
abbrev DF (b:Bool) (y:List Tbl):Heap:=[.cells [.nils],.cells [.rows (y.map tblC)],rB b,.hole]
abbrev GFr (s:List UInt8) (ls:List (List UInt8)) (i:Int):Fr:=[(0,.str s),(2,.ptr 0 0),(4,.ptr 1 0),(5,.ptr 2 0),(32,.rows (SLs ls)),(33,I (ls.length:Int)),(34,I i)]
abbrev PFr (s:List UInt8):Fr:=[(0,.str s),(2,.ptr 0 0),(4,.ptr 1 0),(5,.ptr 2 0)]
abbrev GKs (Bo:Code) (ks:List It):List It:=.code Bo::.lp Bo (some ([0,2,4,5,32,33,34],[])) 4::.blk 0 4::ks
section
variable (s:List UInt8) (ls:List (List UInt8)) (hl:ls.length≤1000000) (ks:List It) (Bo:Code) (hB:Loop Tryz.f12 0 Bo)
include hl hB
theorem gxit_A (b:Bool):RL K (.run 12 0 (GKs Bo ks) (GFr s ls (ls.length:Int)) (DA b))=R K (.run 12 0 ks (PFr s) (DF b [])):=by
 have d:¬(ls.length:Int) < (ls.length:Int):=by omega
 unfold Loop at hB
 simp -implicitDefEqProofs only [go_sem,simprocAttr,Tryz.f12,loopOf] at hB
 subst hB
 rw [RL_eq]
 simp -implicitDefEqProofs only [go_sem,simprocAttr,d,rB,isF]
 rfl
theorem gxit_B (b:Bool) (x:List Tbl) (t:Tbl) (kv:AV) (hk:KvOk t kv):RL K (.run 12 0 (GKs Bo ks) (GFr s ls (ls.length:Int)) (DB b x t kv))=R K (.run 12 0 ks (PFr s) (DF b (x++[t]))):=by
 have d:¬(ls.length:Int) < (ls.length:Int):=by omega
 have n0:(0 < x.length+1)=True:=eq_true (by omega)
 have e:(x++[t]).map tblC=x.map tblC++[tblC t]:=by simp
 simp only [DF]
 rw [e]
 simp only [tblC]
 rcases hk with ⟨rfl,hk⟩ | rfl
 ·rw [hk]
  unfold Loop at hB
  simp -implicitDefEqProofs only [go_sem,simprocAttr,Tryz.f12,loopOf] at hB
  subst hB
  rw [RL_eq]
  simp -implicitDefEqProofs only [go_sem,simprocAttr,d,rB,isF,n0,Nat.add_sub_cancel,Nat.sub_zero,tl_get,tl_set,List.length_map,List.length_append,locsR_SLs,locsR_app,locsR_tbls,locsR_cols,locsR_fgns,locsR_idx,hk]
  all_goals rfl
 ·unfold Loop at hB
  simp -implicitDefEqProofs only [go_sem,simprocAttr,Tryz.f12,loopOf] at hB
  subst hB
  rw [RL_eq]
  simp -implicitDefEqProofs only [go_sem,simprocAttr,d,rB,isF,n0,Nat.add_sub_cancel,Nat.sub_zero,tl_get,tl_set,List.length_map,List.length_append,locsR_SLs,locsR_app,locsR_tbls,locsR_cols,locsR_fgns,locsR_idx]
  all_goals rfl
end
section
variable (s:List UInt8) (ls:List (List UInt8)) (hl:ls.length≤1000000) (ks:List It) (Bo:Code) (hB:Loop Tryz.f12 0 Bo)
include hl hB
variable (hs:s≠[])
include hs
theorem gturn_A (b:Bool) (j:Nat) (l:List UInt8) (hj:ls[j]? = some l) (hl2:l.length≤1000000) (hp:Lib.hasPrefix l tabP=false):RL K (.run 12 0 (GKs Bo ks) (GFr s ls (j:Int)) (DA b))=RL K (.run 12 0 (GKs Bo ks) (GFr s ls ((j+1:Nat):Int)) (DA (b||decide (j=0)))):=by
 have hlt:=(List.getElem?_eq_some_iff.1 hj).1
 have d:(j:Int) < (ls.length:Int):=by omega
 have h7:=next_id (i:=j) (n:=ls.length) (by omega) (by omega)
 have gc:=str_get hj
 have hc:=p_CutPrefix l tabP
 have bs:(s==[])=false:=by simpa using hs
 rw [hp] at hc
 simp only [tabP] at hc
 by_cases h0:j=0
 ·subst h0
  have bj:(((0:Nat):Int)==0)=true:=rfl
  simp only [Int.natCast_zero,decide_true,Bool.or_true] at *
  unfold Loop at hB
  simp -implicitDefEqProofs only [go_sem,simprocAttr,Tryz.f12,loopOf] at hB
  subst hB
  rw [RL_eq]
  simp -implicitDefEqProofs only [go_sem,simprocAttr,d,h7,gc,hc,bs,rB,isF,beq_self_eq_true,locsR_SLs,locsR]
  all_goals rfl
 ·have bj:((j:Int)==0)=false:=by simp;omega
  rw [decide_eq_false h0,Bool.or_false]
  unfold Loop at hB
  simp -implicitDefEqProofs only [go_sem,simprocAttr,Tryz.f12,loopOf] at hB
  subst hB
  rw [RL_eq]
  simp -implicitDefEqProofs only [go_sem,simprocAttr,d,h7,gc,hc,bs,bj,rB,isF,locsR_SLs,locsR]
  all_goals rfl
theorem gturn_A1 (b:Bool) (j:Nat) (l nm:List UInt8) (hj:ls[j]? = some l) (hn:nm.length≤1000000) (hp:Lib.hasPrefix l tabP=true) (ht:Lib.trimPrefix l tabP=nm):RL K (.run 12 0 (GKs Bo ks) (GFr s ls (j:Int)) (DA b))=RL K (.run 12 0 (GKs Bo ks) (GFr s ls ((j+1:Nat):Int)) (DB (b||!nmB nm) [] (newT nm) .nils)):=by
 have hlt:=(List.getElem?_eq_some_iff.1 hj).1
 have d:(j:Int) < (ls.length:Int):=by omega
 have h7:=next_id (i:=j) (n:=ls.length) (by omega) (by omega)
 have gc:=str_get hj
 have hc:=p_CutPrefix l tabP
 have bs:(s==[])=false:=by simpa using hs
 have p1:=r_lword b nm (by omega)
 rw [hp,ht] at hc
 simp only [tabP] at hc
 have rm:(113≤roomMax)=True:=eq_true (by unfold roomMax;omega)
 generalize (b||!nmB nm)=b' at *
 unfold Loop at hB
 simp -implicitDefEqProofs only [go_sem,simprocAttr,Tryz.f12,loopOf] at hB
 subst hB
 rw [RL_eq]
 simp -implicitDefEqProofs only [go_sem,simprocAttr,d,h7,gc,hc,bs,p1,rm,lastN,List.range_zero,rB,isF,newT,bne,Int.toNat_natCast,or_true,ne_eq,not_false_eq_true,false_or,reduceCtorEq,locsR_SLs,locsR,renR]
 all_goals rfl
theorem gturn_N (b:Bool) (x:List Tbl) (hx:x.length≤1000000) (t:Tbl) (kv:AV) (hk:KvOk t kv) (j:Nat) (l nm:List UInt8) (hj:ls[j]? = some l) (hn:nm.length≤1000000) (hp:Lib.hasPrefix l tabP=true) (ht:Lib.trimPrefix l tabP=nm) :
  RL K (.run 12 0 (GKs Bo ks) (GFr s ls (j:Int)) (DB b x t kv))=RL K (.run 12 0 (GKs Bo ks) (GFr s ls ((j+1:Nat):Int)) (DB (b||!nmB nm) (x++[t]) (newT nm) .nils)):=by
 have hlt:=(List.getElem?_eq_some_iff.1 hj).1
 have d:(j:Int) < (ls.length:Int):=by omega
 have h7:=next_id (i:=j) (n:=ls.length) (by omega) (by omega)
 have gc:=str_get hj
 have hc:=p_CutPrefix l tabP
 have bs:(s==[])=false:=by simpa using hs
 have p1:=r_lword b nm (by omega)
 rw [hp,ht] at hc
 simp only [tabP] at hc
 have rm:((x.length+1+1)*113≤roomMax)=True:=eq_true (by unfold roomMax;omega)
 generalize (b||!nmB nm)=b' at *
 have hv:=kv_locs hk
 have hr:=kv_ren hk
 have n1:(1 < x.length+1+1)=True:=eq_true (by omega)
 have e1:(x++[t]).map tblC=x.map tblC++[tblC t]:=by simp
 have e2:(x++[t]).length=x.length+1:=by simp
 simp only [DB]
 rw [e1,e2]
 simp only [tblC,newT]
 have hkey:(kv=.nils∧SLs t.key=[])∨kv=.rows (SLs t.key):=by
  rcases hk with ⟨h1,h2⟩ | h
  ·exact .inl ⟨h1,by rw [h2];rfl⟩
  ·exact .inr h
 generalize SLs t.key=sk at *
 rcases hkey with ⟨rfl,rfl⟩ | rfl
 ·unfold Loop at hB
  simp -implicitDefEqProofs only [go_sem,simprocAttr,Tryz.f12,loopOf] at hB
  subst hB
  rw [RL_eq]
  simp -implicitDefEqProofs only [go_sem,simprocAttr,d,h7,gc,hc,bs,p1,rm,hv,hr,lastN,List.range_zero,n1,rB,isF,bne,Int.toNat_natCast,Nat.add_sub_cancel,Nat.sub_zero,tl_get,tl_set,tl_get2,tl_set2,List.length_map,List.length_append,locsR_SLs,locsR_app,locsR_tbls,locsR_cols,locsR_fgns,locsR_idx,renR_app,renR_tbls,renR_cols,renR_fgns,renR_idxs,or_true,ne_eq,not_false_eq_true,false_or,reduceCtorEq,List.append_assoc]
  all_goals rfl
 ·unfold Loop at hB
  simp -implicitDefEqProofs only [go_sem,simprocAttr,Tryz.f12,loopOf] at hB
  subst hB
  rw [RL_eq]
  simp -implicitDefEqProofs only [go_sem,simprocAttr,d,h7,gc,hc,bs,p1,rm,hv,hr,lastN,List.range_zero,n1,rB,isF,bne,Int.toNat_natCast,Nat.add_sub_cancel,Nat.sub_zero,tl_get,tl_set,tl_get2,tl_set2,List.length_map,List.length_append,locsR_SLs,locsR_app,locsR_tbls,locsR_cols,locsR_fgns,locsR_idx,renR_app,renR_tbls,renR_cols,renR_fgns,renR_idxs,or_true,ne_eq,not_false_eq_true,false_or,reduceCtorEq,List.append_assoc]
  all_goals rfl
theorem gturn_B (x:List Tbl) (hx:x.length≤1000000) (t t':Tbl) (kv kv':AV) (hk:KvOk t kv) (hk':KvOk t' kv') (b b':Bool) (j:Nat) (h0:0 < j) (l:List UInt8) (hj:ls[j]? = some l) (hl2:l.length≤1000000) (hp:Lib.hasPrefix l tabP=false)
  (e:R K (.call 31 [.ptr 0 0,.optr 1 (x.length+1) x.length 0,.str l] (HR b x t kv))=some (.tup [],HR b' x t' kv')) :
  RL K (.run 12 0 (GKs Bo ks) (GFr s ls (j:Int)) (DB b x t kv))=RL K (.run 12 0 (GKs Bo ks) (GFr s ls ((j+1:Nat):Int)) (DB b' x t' kv')):=by
 have hlt:=(List.getElem?_eq_some_iff.1 hj).1
 have d:(j:Int) < (ls.length:Int):=by omega
 have h7:=next_id (i:=j) (n:=ls.length) (by omega) (by omega)
 have gc:=str_get hj
 have hc:=p_CutPrefix l tabP
 have bs:(s==[])=false:=by simpa using hs
 rw [hp] at hc
 simp only [tabP] at hc
 have bj:((j:Int)==0)=false:=by simp;omega
 have hv:=kv_locs hk
 have hv':=kv_locs hk'
 have hr:=kv_ren hk
 have hr':=kv_ren hk'
 have n0:(0 < x.length+1)=True:=eq_true (by omega)
 have n2:((0:Int) < ((x.length+1:Nat):Int))=True:=eq_true (by omega)
 have wi:=sub_one x hx
 simp only [HR,rowR,rB] at e
 have n3:(x.length < x.length+1)=True:=eq_true (by omega)
 have n4:((0:Int)≤(x.length:Int))=True:=eq_true (by omega)
 have n5:((x.length:Int) < ((x.length+1:Nat):Int))=True:=eq_true (by omega)
 have ta:=tl_at x (rowT t kv) []
 simp only [rowT] at ta
 unfold Loop at hB
 simp -implicitDefEqProofs only [go_sem,simprocAttr,Tryz.f12,loopOf] at hB
 subst hB
 rw [RL_eq]
 simp -implicitDefEqProofs only [go_sem,simprocAttr,d,h7,gc,hc,bs,bj,hv,hv',hr,hr',e,wi,ta,lastN,rB,isF,n0,n2,n3,n4,n5,bne,Int.toNat_natCast,Nat.add_sub_cancel,Nat.sub_zero,tl_get,tl_set,List.length_map,List.length_append,locsR_SLs,locsR_app,locsR_tbls,locsR_cols,locsR_fgns,locsR_idx,renR_app,renR_tbls,renR_cols,renR_fgns,renR_idxs,or_true,ne_eq,not_false_eq_true,false_or,reduceCtorEq]
 all_goals rfl
end
noncomputable def resF (x:List Tbl) (t:Tbl) (ls:List (List UInt8)):Option (List Tbl):=match readAll (pLn rdS false) ls with
 | some ns=>some (asmT x t ns)
 | none=>none
theorem resF_bad {x:List Tbl} {t:Tbl} {l:List UInt8} {r:List (List UInt8)} (h:pLn rdS false l=none):resF x t (l::r)=none:=by
 simp only [resF,readAll,h]
theorem resF_tab {x:List Tbl} {t:Tbl} {l nm:List UInt8} {r:List (List UInt8)} (h:pLn rdS false l=some (.table nm)):resF x t (l::r)=resF (x++[t]) (newT nm) r:=by
 simp only [resF,readAll,h]
 cases readAll (pLn rdS false) r with
 | none=>simp
 | some ns=>simp only [asmT]
theorem resF_step {x:List Tbl} {t:Tbl} {l:List UInt8} {n:Ln} {r:List (List UInt8)} (h:pLn rdS false l=some n) (hn:isTab n=false):resF x t (l::r)=resF x (putL t n) r:=by
 simp only [resF,readAll,h]
 cases readAll (pLn rdS false) r with
 | none=>rfl
 | some ns=>cases n<;>first | (simp [isTab] at hn;done) | simp only [asmT]
section
variable (s:List UInt8) (ls:List (List UInt8)) (hl:ls.length≤1000000) (hw:∀ l∈ls,l.length≤1000000) (hs:s≠[])
include hl hw hs
theorem l_fromB:∀ (m j:Nat) (b:Bool) (x:List Tbl) (t:Tbl) (kv:AV) (M:Nat),0 < j→ls.length=j+m→x.length+m≤1000000→Room t M→M+m≤1000000→KvOk t kv →
  ∃ (b':Bool) (y:List Tbl),(∀ (ks:List It) (Bo:Code),Loop Tryz.f12 0 Bo→RL K (.run 12 0 (GKs Bo ks) (GFr s ls (j:Int)) (DB b x t kv))=R K (.run 12 0 ks (PFr s) (DF b' y))) ∧
   (b=true→b'=true)∧(b=false→resF x t (ls.drop j)=if b'=false then some y else none)
 | 0,j,b,x,t,kv,M,h0,h,hx,hR,hM,hk=>by
  obtain rfl:j=ls.length:=by omega
  refine ⟨b,x++[t],fun ks Bo hB=>gxit_B s ls hl ks Bo hB b x t kv hk,id,fun hb=>?_⟩
  rw [List.drop_length,if_pos hb]
  rfl
 | m+1,j,b,x,t,kv,M,h0,h,hx,hR,hM,hk=>by
  obtain ⟨l,hj⟩:=some_at (l:=ls) (i:=j) (by omega)
  have hll:=hw l (List.mem_of_getElem? hj)
  rw [drop_get hj]
  cases hp:Lib.hasPrefix l tabP
  ·obtain ⟨b1,t',kv',e,hk',hR',hq⟩:=r_tableLine b x t kv hk hR (by omega) l hll
   obtain ⟨b',y,ih,q1,q2⟩:=l_fromB m (j+1) b1 x t' kv' (M+1) (by omega) (by omega) (by omega) hR' (by omega) hk'
   refine ⟨b',y,fun ks Bo hB=>?_,fun hb=>?_,fun hb=>?_⟩
   ·rw [gturn_B s ls hl ks Bo hB hs x (by omega) t t' kv kv' hk hk' b b1 j h0 l hj hll hp e]
    exact ih ks Bo hB
   ·rcases hq with ⟨h1,_⟩ | ⟨h1,_⟩
    ·exact q1 (h1.trans hb)
    ·exact q1 h1
   ·rcases hq with ⟨h1,n,hn1,hn2,h2⟩ | ⟨h1,h2⟩
    ·rw [resF_step hn1 hn2,←h2]
     exact q2 (h1.trans hb)
    ·rw [q1 h1,if_neg (by simp)]
     cases hn:pLn rdS false l with
     | none=>exact resF_bad hn
     | some n=>exact absurd ((h2 n hn).symm.trans (tab_out hp n hn)) (by simp)
  ·obtain ⟨nm,ht,hlen,hpl⟩:=tab_in hp
   obtain ⟨b',y,ih,q1,q2⟩:=l_fromB m (j+1) (b||!nmB nm) (x++[t]) (newT nm) .nils 0 (by omega) (by omega) (by simp;omega) ⟨by simp [newT],by simp [newT],by simp [newT]⟩ (by omega) (.inl ⟨rfl,rfl⟩)
   refine ⟨b',y,fun ks Bo hB=>?_,fun hb=>?_,fun hb=>?_⟩
   ·rw [gturn_N s ls hl ks Bo hB hs b x (by omega) t kv hk j l nm hj (by omega) hp ht]
    exact ih ks Bo hB
   ·exact q1 (by rw [hb];rfl)
   ·cases hn:nmB nm
    ·rw [hn,if_neg (by simp)] at hpl
     rw [resF_bad hpl,q1 (by rw [hn];simp),if_neg (by simp)]
    ·rw [hn,if_pos rfl] at hpl
     rw [resF_tab hpl]
     exact q2 (by rw [hn,hb];rfl)
theorem l_fromA:∀ (m j:Nat) (b:Bool),ls.length=j+m→(j=0→b=false)→(0 < j→b=true) →
  ∃ (b':Bool) (y:List Tbl),(∀ (ks:List It) (Bo:Code),Loop Tryz.f12 0 Bo→RL K (.run 12 0 (GKs Bo ks) (GFr s ls (j:Int)) (DA b))=R K (.run 12 0 ks (PFr s) (DF b' y))) ∧
   (b=true→b'=true)∧(j=0→(match readAll (pLn rdS false) ls with
    | some ns=>asmL ns
    | none=>none)=if b'=false then some y else none)
 | 0,j,b,h,h1,h2=>by
  obtain rfl:j=ls.length:=by omega
  refine ⟨b,[],fun ks Bo hB=>gxit_A s ls hl ks Bo hB b,id,fun hb=>?_⟩
  rw [if_pos (h1 hb),List.length_eq_zero_iff.1 hb]
  rfl
 | m+1,j,b,h,h1,h2=>by
  obtain ⟨l,hj⟩:=some_at (l:=ls) (i:=j) (by omega)
  have hll:=hw l (List.mem_of_getElem? hj)
  have hd:j=0→ls=l::ls.drop 1:=by
   rintro rfl
   exact drop_get hj
  cases hp:Lib.hasPrefix l tabP
  ·obtain ⟨b',y,ih,q1,q2⟩:=l_fromA m (j+1) true (by omega) (by omega) (fun _=>rfl)
   have hb1:(b||decide (j=0))=true:=by
    by_cases h0:j=0
    ·simp [h0]
    ·rw [h2 (by omega)];rfl
   refine ⟨b',y,fun ks Bo hB=>?_,fun hb=>q1 rfl,fun h0=>?_⟩
   ·rw [gturn_A s ls hl ks Bo hB hs b j l hj hll hp,hb1]
    exact ih ks Bo hB
   ·rw [q1 rfl,if_neg (by simp),hd h0]
    simp only [readAll]
    cases hn:pLn rdS false l with
    | none=>simp
    | some n =>
     have:=tab_out hp n hn
     cases readAll (pLn rdS false) (ls.drop 1) with
     | none=>simp
     | some ns=>cases n<;>first | (simp [isTab] at this;done) | rfl
  ·obtain ⟨nm,ht,hlen,hpl⟩:=tab_in hp
   obtain ⟨b',y,ih,q1,q2⟩:=l_fromB s ls hl hw hs m (j+1) (b||!nmB nm) [] (newT nm) .nils 0 (by omega) (by omega) (by simp;omega) ⟨by simp [newT],by simp [newT],by simp [newT]⟩ (by omega) (.inl ⟨rfl,rfl⟩)
   refine ⟨b',y,fun ks Bo hB=>?_,fun hb=>?_,fun h0=>?_⟩
   ·rw [gturn_A1 s ls hl ks Bo hB hs b j l nm hj (by omega) hp ht]
    exact ih ks Bo hB
   ·exact q1 (by rw [hb];rfl)
   ·have hb:=h1 h0
    subst h0
    have e:=hd rfl
    cases hn:nmB nm
    ·rw [hn,if_neg (by simp)] at hpl
     rw [q1 (by rw [hn];simp),if_neg (by simp),e]
     simp only [readAll,hpl]
    ·rw [hn,if_pos rfl] at hpl
     have q2:=q2 (by rw [hn,hb];rfl)
     rw [←q2]
     generalize ls.drop (0+1)=r at *
     rw [e]
     simp only [readAll,hpl,resF]
     cases readAll (pLn rdS false) r<;>rfl
end
noncomputable def ctT (c:Col):List UInt8:=kdT c.kd++(if c.nl=true then [32,110,117,108,108] else [])++(if c.df.k=0 then [] else [32,100,101,102,97,117,108,116,32]++showS c.df)
theorem lnS_col (c:Col):lnS (.column c)=99::111::108::117::109::110::32::(c.nm++[32]++ctT c):=by
 show jnW (colW::colT showS c)=_
 unfold ctT colT dfW
 split<;>split<;>simp [jnW]
theorem kd_at {k:Int} (h:1≤k∧k≤4):at? (SLs kindsR) k=some [.str (kdT k)]:=by
 have:k=1∨k=2∨k=3∨k=4:=by omega
 rcases this with rfl | rfl | rfl | rfl<;>rfl
theorem r_columnText (c:Col) (hk:1≤c.kd∧c.kd≤4):R K (.call 124 [colA c] [])=some (.str (ctT c),[]):=by
 have h1:=r_kindNames
 have h2:=r_Shown c.df.k c.df.n c.df.s
 have h3:=show_len c.df
 have hat:=kd_at hk
 have h4:(kdT c.kd).length≤6:=by
  unfold kdT
  repeat' split
  all_goals decide
 rw [Val.eta] at h2
 have k0:((0:Int)≤c.kd)=True:=eq_true (by omega)
 have k1:(c.kd < 5)=True:=eq_true (by omega)
 have s4:((kdT c.kd).length+5≤strMax)=True:=room_s (by omega)
 have s5:(9+(showS c.df).length≤strMax)=True:=room_s (by omega)
 have s6:((kdT c.kd).length+((showS c.df).length+1+1+1+1+1+1+1+1+1)≤strMax)=True:=room_s (by omega)
 have s7:((kdT c.kd).length+5+((showS c.df).length+1+1+1+1+1+1+1+1+1)≤strMax)=True:=room_s (by omega)
 unfold ctT
 cases hnl:c.nl
 ·by_cases h0:c.df.k=0
  ·have b0:(c.df.k==0)=true:=by simpa using h0
   rw [call_124]
   simp -implicitDefEqProofs only [go_sem,simprocAttr,Tryz.f124,colC,hnl,h1,hat,k0,k1,s4,s5,s6,s7,bne,b0]
   simp [h0]
  ·have b0:(c.df.k==0)=false:=by simpa using h0
   rw [call_124]
   simp -implicitDefEqProofs only [go_sem,simprocAttr,Tryz.f124,colC,hnl,h1,hat,h2,k0,k1,s4,s5,s6,s7,bne,b0]
   simp [h0]
 ·by_cases h0:c.df.k=0
  ·have b0:(c.df.k==0)=true:=by simpa using h0
   rw [call_124]
   simp -implicitDefEqProofs only [go_sem,simprocAttr,Tryz.f124,colC,hnl,h1,hat,k0,k1,s4,s5,s6,s7,bne,b0]
   simp [h0]
  ·have b0:(c.df.k==0)=false:=by simpa using h0
   rw [call_124]
   simp -implicitDefEqProofs only [go_sem,simprocAttr,Tryz.f124,colC,hnl,h1,hat,h2,k0,k1,s4,s5,s6,s7,bne,b0]
   simp [h0]
theorem len_cases (l:List (List UInt8)):l=[]∨((0:Nat) < l.length)=True:=by
 cases l with
 | nil=>exact .inl rfl
 | cons a r=>exact .inr (eq_true (by simp))
theorem l_tlC  (t:Tbl)  (hF:(∀ c∈t.cols,(lnS (.column c)).length≤1000000000000∧(1≤c.kd∧c.kd≤4))) (hl:t.cols.length≤10000000) (ks:List It):∀ (q j:Nat) (acc acc':List (List UInt8)) (Bo:Code) (jj:Int),Loop Tryz.f69 0 Bo→jj=(j:Int)→t.cols.length=j+q→acc.length+q≤10000000→acc'=acc++(t.cols.drop j).map (fun c=>lnS (.column c)) →
  RL K (.run 69 0 (.code Bo::.lp Bo (some ([1,3,12,13,14],[])) 2::.blk 0 2::ks) [(1,.ptr 0 0),(3,.own 1 acc.length),(12,.rows (t.cols.map colC)),(13,I (t.cols.length:Int)),(14,I jj)] [.cells (tblC t),.rows 1 (SLs acc) false]) =
  R K (.run 69 0 ks [(1,.ptr 0 0),(3,.own 1 acc'.length)] [.cells (tblC t),.rows 1 (SLs acc') false])
 | 0,j,acc,acc',Bo,jj,hB,hj,hq,ha,he=>by
  subst hj
  have d:¬(j:Int) < (t.cols.length:Int):=by omega
  rw [List.drop_of_length_le (by omega),List.map_nil,List.append_nil] at he
  subst he
  unfold Loop at hB
  simp -implicitDefEqProofs only [go_sem,simprocAttr,Tryz.f69,loopOf] at hB
  subst hB
  rw [RL_eq]
  simp -implicitDefEqProofs only [go_sem,simprocAttr,d,tblC,locsR_SLs]
 | q+1,j,acc,acc',Bo,jj,hB,hj,hq,ha,he=>by
  subst hj
  have hB':=hB
  have d:(j:Int) < (t.cols.length:Int):=by omega
  have h7:=next_id (i:=j) (n:=t.cols.length) (by omega) (by omega)
  obtain ⟨c,hc⟩:=some_at (l:=t.cols) (i:=j) (by omega)
  have gc:=col_get hc
  obtain ⟨f1,f2⟩:=hF c (List.mem_of_getElem? hc)
  rw [drop_get hc,List.map_cons] at he
  have h1:=r_columnText c f2
  have et:=lnS_col c
  have el:=congrArg List.length et
  simp only [List.length_cons,List.length_append,List.length_nil] at el
  have st1:(7+c.nm.length≤strMax)=True:=room_s (by omega)
  have st2:(c.nm.length+1+1+1+1+1+1+1+1≤strMax)=True:=room_s (by omega)
  have st3:(c.nm.length+1+1+1+1+1+1+1+1+(ctT c).length≤strMax)=True:=room_s (by omega)
  have sa:=SLs_app acc (lnS (.column c))
  have rm:((acc.length+1)*17≤roomMax)=True:=eq_true (by unfold roomMax;omega)
  have ih:=l_tlC  t hF hl ks q (j+1) (acc++[lnS (.column c)]) acc' Bo _ hB' rfl (by omega) (by simp;omega) (by rw [he];simp)
  have sl:(acc++[lnS (.column c)]).length=acc.length+1:=by simp
  rw [sl] at ih
  rw [et] at sa ih
  clear he el et
  simp only [colA,colC,tblC] at gc h1 ih ⊢
  generalize ctT c=w at *
  unfold Loop at hB
  simp -implicitDefEqProofs only [go_sem,simprocAttr,Tryz.f69,loopOf] at hB
  subst hB
  rw [RL_eq]
  simp -implicitDefEqProofs only [go_sem,simprocAttr,d,h7,gc,h1,sa,rm,st1,st2,st3,SLs_len,locsR_SLs]
  exact ih
theorem l_tlF  (t:Tbl)  (hF:(∀ c∈t.fgn,c.cols.length≤200000000000∧(lnS (.foreign c)).length≤1000000000000)) (hl:t.fgn.length≤10000000) (ks:List It):∀ (q j:Nat) (acc acc':List (List UInt8)) (Bo:Code) (jj:Int),Loop Tryz.f69 2 Bo→jj=(j:Int)→t.fgn.length=j+q→acc.length+q≤10000000→acc'=acc++(t.fgn.drop j).map (fun c=>lnS (.foreign c)) →
  RL K (.run 69 0 (.code Bo::.lp Bo (some ([1,3,38,39,40],[])) 2::.blk 2 2::ks) [(1,.ptr 0 0),(3,.own 1 acc.length),(38,.rows (t.fgn.map fgnC)),(39,I (t.fgn.length:Int)),(40,I jj)] [.cells (tblC t),.rows 1 (SLs acc) false]) =
  R K (.run 69 0 ks [(1,.ptr 0 0),(3,.own 1 acc'.length)] [.cells (tblC t),.rows 1 (SLs acc') false])
 | 0,j,acc,acc',Bo,jj,hB,hj,hq,ha,he=>by
  subst hj
  have d:¬(j:Int) < (t.fgn.length:Int):=by omega
  rw [List.drop_of_length_le (by omega),List.map_nil,List.append_nil] at he
  subst he
  unfold Loop at hB
  simp -implicitDefEqProofs only [go_sem,simprocAttr,Tryz.f69,loopOf] at hB
  subst hB
  rw [RL_eq]
  simp -implicitDefEqProofs only [go_sem,simprocAttr,d,tblC,locsR_SLs]
 | q+1,j,acc,acc',Bo,jj,hB,hj,hq,ha,he=>by
  subst hj
  have hB':=hB
  have d:(j:Int) < (t.fgn.length:Int):=by omega
  have h7:=next_id (i:=j) (n:=t.fgn.length) (by omega) (by omega)
  obtain ⟨c,hc⟩:=some_at (l:=t.fgn) (i:=j) (by omega)
  have gc:=fgn_get hc
  obtain ⟨f1,f2⟩:=hF c (List.mem_of_getElem? hc)
  rw [drop_get hc,List.map_cons] at he
  have hp:=p_JoinB ([forW,c.nm,c.tb]++c.cols) [32] (by simp;omega) (by rw [join_jn];exact f2)
  rw [join_jn] at hp
  have sa:=SLs_app acc (lnS (.foreign c))
  have rm:((acc.length+1)*17≤roomMax)=True:=eq_true (by unfold roomMax;omega)
  have ih:=l_tlF  t hF hl ks q (j+1) (acc++[lnS (.foreign c)]) acc' Bo _ hB' rfl (by omega) (by simp;omega) (by rw [he];simp)
  have sl:(acc++[lnS (.foreign c)]).length=acc.length+1:=by simp
  rw [sl] at ih
  have e1:jnW ([forW,c.nm,c.tb]++c.cols)=lnS (.foreign c):=rfl
  rw [e1] at hp
  have ea:SLs ([forW,c.nm,c.tb]++c.cols)=[AV.str forW]::[AV.str c.nm]::[AV.str c.tb]::SLs c.cols:=rfl
  rw [ea] at hp
  have r2:((c.cols.length+1+1+1)*17≤roomMax)=True:=eq_true (by unfold roomMax;omega)
  have r3:((3+c.cols.length)*17≤roomMax)=True:=eq_true (by unfold roomMax;omega)
  have n4:(c.cols.length+1+1+1=3+c.cols.length)=True:=eq_true (by omega)
  simp only [forW] at hp
  have pc:=len_cases c.cols
  simp only [fgnC,tblC] at gc ih ⊢
  clear he e1
  generalize lnS (.foreign c)=w at *
  generalize c.cols=cs at *
  rcases pc with rfl | pc
  ·simp only [SLs,List.map_nil] at gc hp
   unfold Loop at hB
   simp -implicitDefEqProofs only [go_sem,simprocAttr,Tryz.f69,loopOf] at hB
   subst hB
   rw [RL_eq]
   simp -implicitDefEqProofs only [go_sem,simprocAttr,d,h7,gc,hp,sa,rm,SLs_len,locsR_SLs]
   exact ih
  ·unfold Loop at hB
   simp -implicitDefEqProofs only [go_sem,simprocAttr,Tryz.f69,loopOf] at hB
   subst hB
   rw [RL_eq]
   simp -implicitDefEqProofs only [go_sem,simprocAttr,d,h7,gc,hp,pc,n4,r2,r3,sa,rm,allLen_SLs,allLen,SLs_len,locsR_SLs]
   exact ih
theorem l_tlI  (t:Tbl)  (hF:(∀ c∈t.idx,c.cols.length≤200000000000∧(lnS (.index c)).length≤1000000000000)) (hl:t.idx.length≤10000000) (ks:List It):∀ (q j:Nat) (acc acc':List (List UInt8)) (Bo:Code) (jj:Int),Loop Tryz.f69 4 Bo→jj=(j:Int)→t.idx.length=j+q→acc.length+q≤10000000→acc'=acc++(t.idx.drop j).map (fun c=>lnS (.index c)) →
  RL K (.run 69 0 (.code Bo::.lp Bo (some ([3,58,59,60],[])) 2::.blk 4 2::ks) [(3,.own 1 acc.length),(58,.rows (t.idx.map idxC)),(59,I (t.idx.length:Int)),(60,I jj)] [.cells (tblC t),.rows 1 (SLs acc) false]) =
  R K (.run 69 0 ks [(3,.own 1 acc'.length)] [.cells (tblC t),.rows 1 (SLs acc') false])
 | 0,j,acc,acc',Bo,jj,hB,hj,hq,ha,he=>by
  subst hj
  have d:¬(j:Int) < (t.idx.length:Int):=by omega
  rw [List.drop_of_length_le (by omega),List.map_nil,List.append_nil] at he
  subst he
  unfold Loop at hB
  simp -implicitDefEqProofs only [go_sem,simprocAttr,Tryz.f69,loopOf] at hB
  subst hB
  rw [RL_eq]
  simp -implicitDefEqProofs only [go_sem,simprocAttr,d,tblC,locsR_SLs]
 | q+1,j,acc,acc',Bo,jj,hB,hj,hq,ha,he=>by
  subst hj
  have hB':=hB
  have d:(j:Int) < (t.idx.length:Int):=by omega
  have h7:=next_id (i:=j) (n:=t.idx.length) (by omega) (by omega)
  obtain ⟨c,hc⟩:=some_at (l:=t.idx) (i:=j) (by omega)
  have gc:=idx_get hc
  obtain ⟨f1,f2⟩:=hF c (List.mem_of_getElem? hc)
  rw [drop_get hc,List.map_cons] at he
  have sa:=SLs_app acc (lnS (.index c))
  have rm:((acc.length+1)*17≤roomMax)=True:=eq_true (by unfold roomMax;omega)
  have ih:=l_tlI  t hF hl ks q (j+1) (acc++[lnS (.index c)]) acc' Bo _ hB' rfl (by omega) (by simp;omega) (by rw [he];simp)
  have sl:(acc++[lnS (.index c)]).length=acc.length+1:=by simp
  rw [sl] at ih
  cases hu:c.uq
  ·have hp:=p_JoinB ([indW,c.nm]++c.cols) [32] (by simp;omega) (by rw [join_jn];rw [show jnW ([indW,c.nm]++c.cols)=lnS (.index c) by show _=jnW ((if c.uq=true then uniW else indW)::c.nm::c.cols);rw [hu];rfl];exact f2)
   rw [join_jn] at hp
   have e1:jnW ([indW,c.nm]++c.cols)=lnS (.index c):=by show _=jnW ((if c.uq=true then uniW else indW)::c.nm::c.cols);rw [hu];rfl
   rw [e1] at hp
   have ea:SLs ([indW,c.nm]++c.cols)=[AV.str indW]::[AV.str c.nm]::SLs c.cols:=rfl
   rw [ea] at hp
   have r2:((c.cols.length+1+1)*17≤roomMax)=True:=eq_true (by unfold roomMax;omega)
   have r3:((2+c.cols.length)*17≤roomMax)=True:=eq_true (by unfold roomMax;omega)
   have n4:(c.cols.length+1+1=2+c.cols.length)=True:=eq_true (by omega)
   simp only [indW] at hp
   have pc:=len_cases c.cols
   simp only [idxC,tblC] at gc ih ⊢
   clear he e1
   rw [hu] at gc
   generalize lnS (.index c)=w at *
   generalize c.cols=cs at *
   rcases pc with rfl | pc
   ·simp only [SLs,List.map_nil] at gc hp
    unfold Loop at hB
    simp -implicitDefEqProofs only [go_sem,simprocAttr,Tryz.f69,loopOf] at hB
    subst hB
    rw [RL_eq]
    simp -implicitDefEqProofs only [go_sem,simprocAttr,d,h7,gc,hp,sa,rm,SLs_len,locsR_SLs]
    exact ih
   ·unfold Loop at hB
    simp -implicitDefEqProofs only [go_sem,simprocAttr,Tryz.f69,loopOf] at hB
    subst hB
    rw [RL_eq]
    simp -implicitDefEqProofs only [go_sem,simprocAttr,d,h7,gc,hp,pc,n4,r2,r3,sa,rm,allLen_SLs,allLen,SLs_len,locsR_SLs]
    exact ih
  ·have hp:=p_JoinB ([uniW,c.nm]++c.cols) [32] (by simp;omega) (by rw [join_jn];rw [show jnW ([uniW,c.nm]++c.cols)=lnS (.index c) by show _=jnW ((if c.uq=true then uniW else indW)::c.nm::c.cols);rw [hu];rfl];exact f2)
   rw [join_jn] at hp
   have e1:jnW ([uniW,c.nm]++c.cols)=lnS (.index c):=by show _=jnW ((if c.uq=true then uniW else indW)::c.nm::c.cols);rw [hu];rfl
   rw [e1] at hp
   have ea:SLs ([uniW,c.nm]++c.cols)=[AV.str uniW]::[AV.str c.nm]::SLs c.cols:=rfl
   rw [ea] at hp
   have r2:((c.cols.length+1+1)*17≤roomMax)=True:=eq_true (by unfold roomMax;omega)
   have r3:((2+c.cols.length)*17≤roomMax)=True:=eq_true (by unfold roomMax;omega)
   have n4:(c.cols.length+1+1=2+c.cols.length)=True:=eq_true (by omega)
   simp only [uniW] at hp
   have pc:=len_cases c.cols
   simp only [idxC,tblC] at gc ih ⊢
   clear he e1
   rw [hu] at gc
   generalize lnS (.index c)=w at *
   generalize c.cols=cs at *
   rcases pc with rfl | pc
   ·simp only [SLs,List.map_nil] at gc hp
    unfold Loop at hB
    simp -implicitDefEqProofs only [go_sem,simprocAttr,Tryz.f69,loopOf] at hB
    subst hB
    rw [RL_eq]
    simp -implicitDefEqProofs only [go_sem,simprocAttr,d,h7,gc,hp,sa,rm,SLs_len,locsR_SLs]
    exact ih
   ·unfold Loop at hB
    simp -implicitDefEqProofs only [go_sem,simprocAttr,Tryz.f69,loopOf] at hB
    subst hB
    rw [RL_eq]
    simp -implicitDefEqProofs only [go_sem,simprocAttr,d,h7,gc,hp,pc,n4,r2,r3,sa,rm,allLen_SLs,allLen,SLs_len,locsR_SLs]
    exact ih
theorem l_tlF2 (z:List (List UInt8)) (t:Tbl)  (hF:(∀ c∈t.fgn,c.cols.length≤200000000000∧(lnS (.foreign c)).length≤1000000000000)) (hl:t.fgn.length≤10000000) (ks:List It):∀ (q j:Nat) (acc acc':List (List UInt8)) (Bo:Code) (jj:Int),Loop Tryz.f69 2 Bo→jj=(j:Int)→t.fgn.length=j+q→acc.length+q≤10000000→acc'=acc++(t.fgn.drop j).map (fun c=>lnS (.foreign c)) →
  RL K (.run 69 0 (.code Bo::.lp Bo (some ([1,3,38,39,40],[])) 3::.blk 2 3::ks) [(1,.ptr 0 0),(3,.own 1 acc.length),(38,.rows (t.fgn.map fgnC)),(39,I (t.fgn.length:Int)),(40,I jj)] [.cells (tblC t),.rows 1 (SLs acc) false,.rows 1 (SLs z) false]) =
  R K (.run 69 0 ks [(1,.ptr 0 0),(3,.own 1 acc'.length)] [.cells (tblC t),.rows 1 (SLs acc') false,.rows 1 (SLs z) false])
 | 0,j,acc,acc',Bo,jj,hB,hj,hq,ha,he=>by
  subst hj
  have d:¬(j:Int) < (t.fgn.length:Int):=by omega
  rw [List.drop_of_length_le (by omega),List.map_nil,List.append_nil] at he
  subst he
  unfold Loop at hB
  simp -implicitDefEqProofs only [go_sem,simprocAttr,Tryz.f69,loopOf] at hB
  subst hB
  rw [RL_eq]
  simp -implicitDefEqProofs only [go_sem,simprocAttr,d,tblC,locsR_SLs]
 | q+1,j,acc,acc',Bo,jj,hB,hj,hq,ha,he=>by
  subst hj
  have hB':=hB
  have d:(j:Int) < (t.fgn.length:Int):=by omega
  have h7:=next_id (i:=j) (n:=t.fgn.length) (by omega) (by omega)
  obtain ⟨c,hc⟩:=some_at (l:=t.fgn) (i:=j) (by omega)
  have gc:=fgn_get hc
  obtain ⟨f1,f2⟩:=hF c (List.mem_of_getElem? hc)
  rw [drop_get hc,List.map_cons] at he
  have hp:=p_JoinB ([forW,c.nm,c.tb]++c.cols) [32] (by simp;omega) (by rw [join_jn];exact f2)
  rw [join_jn] at hp
  have sa:=SLs_app acc (lnS (.foreign c))
  have rm:((acc.length+1)*17≤roomMax)=True:=eq_true (by unfold roomMax;omega)
  have ih:=l_tlF2 z t hF hl ks q (j+1) (acc++[lnS (.foreign c)]) acc' Bo _ hB' rfl (by omega) (by simp;omega) (by rw [he];simp)
  have sl:(acc++[lnS (.foreign c)]).length=acc.length+1:=by simp
  rw [sl] at ih
  have e1:jnW ([forW,c.nm,c.tb]++c.cols)=lnS (.foreign c):=rfl
  rw [e1] at hp
  have ea:SLs ([forW,c.nm,c.tb]++c.cols)=[AV.str forW]::[AV.str c.nm]::[AV.str c.tb]::SLs c.cols:=rfl
  rw [ea] at hp
  have r2:((c.cols.length+1+1+1)*17≤roomMax)=True:=eq_true (by unfold roomMax;omega)
  have r3:((3+c.cols.length)*17≤roomMax)=True:=eq_true (by unfold roomMax;omega)
  have n4:(c.cols.length+1+1+1=3+c.cols.length)=True:=eq_true (by omega)
  simp only [forW] at hp
  have pc:=len_cases c.cols
  simp only [fgnC,tblC] at gc ih ⊢
  clear he e1
  generalize lnS (.foreign c)=w at *
  generalize c.cols=cs at *
  rcases pc with rfl | pc
  ·simp only [SLs,List.map_nil] at gc hp
   unfold Loop at hB
   simp -implicitDefEqProofs only [go_sem,simprocAttr,Tryz.f69,loopOf] at hB
   subst hB
   rw [RL_eq]
   simp -implicitDefEqProofs only [go_sem,simprocAttr,d,h7,gc,hp,sa,rm,SLs_len,locsR_SLs]
   exact ih
  ·unfold Loop at hB
   simp -implicitDefEqProofs only [go_sem,simprocAttr,Tryz.f69,loopOf] at hB
   subst hB
   rw [RL_eq]
   simp -implicitDefEqProofs only [go_sem,simprocAttr,d,h7,gc,hp,pc,n4,r2,r3,sa,rm,allLen_SLs,allLen,SLs_len,locsR_SLs]
   exact ih
theorem l_tlI2 (z:List (List UInt8)) (t:Tbl)  (hF:(∀ c∈t.idx,c.cols.length≤200000000000∧(lnS (.index c)).length≤1000000000000)) (hl:t.idx.length≤10000000) (ks:List It):∀ (q j:Nat) (acc acc':List (List UInt8)) (Bo:Code) (jj:Int),Loop Tryz.f69 4 Bo→jj=(j:Int)→t.idx.length=j+q→acc.length+q≤10000000→acc'=acc++(t.idx.drop j).map (fun c=>lnS (.index c)) →
  RL K (.run 69 0 (.code Bo::.lp Bo (some ([3,58,59,60],[])) 3::.blk 4 3::ks) [(3,.own 1 acc.length),(58,.rows (t.idx.map idxC)),(59,I (t.idx.length:Int)),(60,I jj)] [.cells (tblC t),.rows 1 (SLs acc) false,.rows 1 (SLs z) false]) =
  R K (.run 69 0 ks [(3,.own 1 acc'.length)] [.cells (tblC t),.rows 1 (SLs acc') false,.rows 1 (SLs z) false])
 | 0,j,acc,acc',Bo,jj,hB,hj,hq,ha,he=>by
  subst hj
  have d:¬(j:Int) < (t.idx.length:Int):=by omega
  rw [List.drop_of_length_le (by omega),List.map_nil,List.append_nil] at he
  subst he
  unfold Loop at hB
  simp -implicitDefEqProofs only [go_sem,simprocAttr,Tryz.f69,loopOf] at hB
  subst hB
  rw [RL_eq]
  simp -implicitDefEqProofs only [go_sem,simprocAttr,d,tblC,locsR_SLs]
 | q+1,j,acc,acc',Bo,jj,hB,hj,hq,ha,he=>by
  subst hj
  have hB':=hB
  have d:(j:Int) < (t.idx.length:Int):=by omega
  have h7:=next_id (i:=j) (n:=t.idx.length) (by omega) (by omega)
  obtain ⟨c,hc⟩:=some_at (l:=t.idx) (i:=j) (by omega)
  have gc:=idx_get hc
  obtain ⟨f1,f2⟩:=hF c (List.mem_of_getElem? hc)
  rw [drop_get hc,List.map_cons] at he
  have sa:=SLs_app acc (lnS (.index c))
  have rm:((acc.length+1)*17≤roomMax)=True:=eq_true (by unfold roomMax;omega)
  have ih:=l_tlI2 z t hF hl ks q (j+1) (acc++[lnS (.index c)]) acc' Bo _ hB' rfl (by omega) (by simp;omega) (by rw [he];simp)
  have sl:(acc++[lnS (.index c)]).length=acc.length+1:=by simp
  rw [sl] at ih
  cases hu:c.uq
  ·have hp:=p_JoinB ([indW,c.nm]++c.cols) [32] (by simp;omega) (by rw [join_jn];rw [show jnW ([indW,c.nm]++c.cols)=lnS (.index c) by show _=jnW ((if c.uq=true then uniW else indW)::c.nm::c.cols);rw [hu];rfl];exact f2)
   rw [join_jn] at hp
   have e1:jnW ([indW,c.nm]++c.cols)=lnS (.index c):=by show _=jnW ((if c.uq=true then uniW else indW)::c.nm::c.cols);rw [hu];rfl
   rw [e1] at hp
   have ea:SLs ([indW,c.nm]++c.cols)=[AV.str indW]::[AV.str c.nm]::SLs c.cols:=rfl
   rw [ea] at hp
   have r2:((c.cols.length+1+1)*17≤roomMax)=True:=eq_true (by unfold roomMax;omega)
   have r3:((2+c.cols.length)*17≤roomMax)=True:=eq_true (by unfold roomMax;omega)
   have n4:(c.cols.length+1+1=2+c.cols.length)=True:=eq_true (by omega)
   simp only [indW] at hp
   have pc:=len_cases c.cols
   simp only [idxC,tblC] at gc ih ⊢
   clear he e1
   rw [hu] at gc
   generalize lnS (.index c)=w at *
   generalize c.cols=cs at *
   rcases pc with rfl | pc
   ·simp only [SLs,List.map_nil] at gc hp
    unfold Loop at hB
    simp -implicitDefEqProofs only [go_sem,simprocAttr,Tryz.f69,loopOf] at hB
    subst hB
    rw [RL_eq]
    simp -implicitDefEqProofs only [go_sem,simprocAttr,d,h7,gc,hp,sa,rm,SLs_len,locsR_SLs]
    exact ih
   ·unfold Loop at hB
    simp -implicitDefEqProofs only [go_sem,simprocAttr,Tryz.f69,loopOf] at hB
    subst hB
    rw [RL_eq]
    simp -implicitDefEqProofs only [go_sem,simprocAttr,d,h7,gc,hp,pc,n4,r2,r3,sa,rm,allLen_SLs,allLen,SLs_len,locsR_SLs]
    exact ih
  ·have hp:=p_JoinB ([uniW,c.nm]++c.cols) [32] (by simp;omega) (by rw [join_jn];rw [show jnW ([uniW,c.nm]++c.cols)=lnS (.index c) by show _=jnW ((if c.uq=true then uniW else indW)::c.nm::c.cols);rw [hu];rfl];exact f2)
   rw [join_jn] at hp
   have e1:jnW ([uniW,c.nm]++c.cols)=lnS (.index c):=by show _=jnW ((if c.uq=true then uniW else indW)::c.nm::c.cols);rw [hu];rfl
   rw [e1] at hp
   have ea:SLs ([uniW,c.nm]++c.cols)=[AV.str uniW]::[AV.str c.nm]::SLs c.cols:=rfl
   rw [ea] at hp
   have r2:((c.cols.length+1+1)*17≤roomMax)=True:=eq_true (by unfold roomMax;omega)
   have r3:((2+c.cols.length)*17≤roomMax)=True:=eq_true (by unfold roomMax;omega)
   have n4:(c.cols.length+1+1=2+c.cols.length)=True:=eq_true (by omega)
   simp only [uniW] at hp
   have pc:=len_cases c.cols
   simp only [idxC,tblC] at gc ih ⊢
   clear he e1
   rw [hu] at gc
   generalize lnS (.index c)=w at *
   generalize c.cols=cs at *
   rcases pc with rfl | pc
   ·simp only [SLs,List.map_nil] at gc hp
    unfold Loop at hB
    simp -implicitDefEqProofs only [go_sem,simprocAttr,Tryz.f69,loopOf] at hB
    subst hB
    rw [RL_eq]
    simp -implicitDefEqProofs only [go_sem,simprocAttr,d,h7,gc,hp,sa,rm,SLs_len,locsR_SLs]
    exact ih
   ·unfold Loop at hB
    simp -implicitDefEqProofs only [go_sem,simprocAttr,Tryz.f69,loopOf] at hB
    subst hB
    rw [RL_eq]
    simp -implicitDefEqProofs only [go_sem,simprocAttr,d,h7,gc,hp,pc,n4,r2,r3,sa,rm,allLen_SLs,allLen,SLs_len,locsR_SLs]
    exact ih
abbrev BH (p:AV) (s:List UInt8):Heap:=[.cells [p,.town 5 1 (s.length:Nat)],.rows 1 (byteRows s) false]
theorem b_check (p x:AV) (r:Heap) (hp:p=.nilp∨p=.ptr 0 0):R K (.call 123 [.tptr 134 0 0] (.cells [p,x]::r))=some (.tup [],.cells [.ptr 0 0,x]::r):=by
 rcases hp with rfl | rfl
 ·exact R_primH rfl rfl
 ·exact R_primH rfl rfl
theorem bR_app (s w:List UInt8):byteRows s++byteRows w=byteRows (s++w):=by
 induction s with
 | nil=>rfl
 | cons b s ih=>simp only [List.cons_append,byteRows,ih]
theorem locsR_bytes:∀ s:List UInt8,locsR (byteRows s)=[]
 | []=>rfl
 | b::s=>by simpa [byteRows,locsR,locsL,locs] using locsR_bytes s
theorem renR_bytes (σ:Nat→Nat):∀ s:List UInt8,renR σ (byteRows s)=byteRows s
 | []=>rfl
 | b::s=>by simpa [byteRows,renR,renL,ren] using renR_bytes σ s
theorem ob_keep (p a:AV) (n:Nat) (r:Heap):ownedB [(0,.tptr 134 0 0),(1,a)] (.cells [p,.town 5 1 n]::r) [(0,1,5)]=.cells [p,.town 5 1 n]::r:=rfl
theorem ob_new (a:AV):ownedB [(0,.tptr 134 0 0),(1,a)] [.cells [.nilp,.nils]] [(0,1,5)]=[.cells [.nilp,.town 5 1 0],.rows 1 [] false]:=rfl
theorem b_string (p:AV) (s w:List UInt8) (hp:p=.nilp∨p=.ptr 0 0) (h:s.length+w.length≤400000000000):R K (.call 67 [.tptr 134 0 0,.str w] (BH p s))=some (.tup [I (w.length:Int),.nili],BH (.ptr 0 0) (s++w)):=by
 have hc:=b_check p (.town 5 1 (s.length:Nat)) [.rows 1 (byteRows s) false] hp
 have he:((s.length+w.length)*2≤roomMax)=True:=eq_true (by unfold roomMax;omega)
 rcases hp with rfl | rfl
 ·rw [call_67]
  simp -implicitDefEqProofs only [go_sem,simprocAttr,Tryz.f67,BH,ob_keep,hc,byteRows_length,locsR_bytes,renR_bytes,he,bR_app]
 ·rw [call_67]
  simp -implicitDefEqProofs only [go_sem,simprocAttr,Tryz.f67,BH,ob_keep,hc,byteRows_length,locsR_bytes,renR_bytes,he,bR_app]
theorem b_first (w:List UInt8) (h:w.length≤400000000000):R K (.call 67 [.tptr 134 0 0,.str w] [.cells [.nilp,.nils]])=some (.tup [I (w.length:Int),.nili],BH (.ptr 0 0) w):=by
 have hc:=b_check .nilp (.town 5 1 0) [.rows 1 [] false] (.inl rfl)
 have he:(w.length*2≤roomMax)=True:=eq_true (by unfold roomMax;omega)
 rw [call_67]
 simp -implicitDefEqProofs only [go_sem,simprocAttr,Tryz.f67,BH,ob_new,hc,byteRows_length,locsR_bytes,renR_bytes,he]
theorem b_text (p:AV) (s:List UInt8) (h:s≠[]) (hs:s.length≤4000000000000):R K (.call 68 [.tptr 134 0 0] (BH p s))=some (.str s,BH p s):=by
 have h0:0 < s.length:=by cases s;exact absurd rfl h;simp
 refine R_primH rfl ?_
 show pBString 134 5 [.tptr 134 0 0] (BH p s)=_
 simp only [BH,pBString]
 rw [if_pos ⟨trivial,trivial,by rw [byteRows_length],h0,by omega⟩,bytesOf_rows]
theorem b_none:R K (.call 68 [.tptr 134 0 0] [.cells [.nilp,.nils]])=some (.str [],[.cells [.nilp,.nils]]):=R_primH rfl rfl
theorem l_jn (ls:List (List UInt8)) (hl:ls.length≤10000000) (ks:List It):∀ (q j:Nat) (s s':List UInt8) (Bo:Code) (jj:Int),Loop Tryz.f19 0 Bo→jj=(j:Int)→ls.length=j+q→s.length+((ls.drop j).flatMap fun w=>w++[10]).length≤300000000000→s'=s++(ls.drop j).flatMap (fun w=>w++[10]) →
  RL K (.run 19 0 (.code Bo::.lp Bo (some ([3,6,7,8],[])) 1::.blk 0 1::ks) [(3,.tptr 134 0 0),(6,.rows (SLs ls)),(7,I (ls.length:Int)),(8,I jj)] (BH (.ptr 0 0) s)) =
  R K (.run 19 0 ks [(3,.tptr 134 0 0)] (BH (.ptr 0 0) s'))
 | 0,j,s,s',Bo,jj,hB,hj,hq,ha,he=>by
  subst hj
  have d:¬(j:Int) < (ls.length:Int):=by omega
  rw [List.drop_of_length_le (by omega),List.flatMap_nil,List.append_nil] at he
  subst he
  unfold Loop at hB
  simp -implicitDefEqProofs only [go_sem,simprocAttr,Tryz.f19,loopOf] at hB
  subst hB
  rw [RL_eq]
  simp -implicitDefEqProofs only [go_sem,simprocAttr,d,BH,locsR_SLs]
 | q+1,j,s,s',Bo,jj,hB,hj,hq,ha,he=>by
  subst hj
  have hB':=hB
  have d:(j:Int) < (ls.length:Int):=by omega
  have h7:=next_id (i:=j) (n:=ls.length) (by omega) (by omega)
  obtain ⟨c,hc⟩:=some_at (l:=ls) (i:=j) (by omega)
  have gc:=str_get hc
  rw [drop_get hc,List.flatMap_cons] at he ha
  simp only [List.length_append,List.length_singleton] at ha
  have st:(c.length+1≤strMax)=True:=room_s (by omega)
  have h1:=b_string (.ptr 0 0) s (c++[10]) (.inr rfl) (by simp;omega)
  have ih:=l_jn ls hl ks q (j+1) (s++(c++[10])) s' Bo _ hB' rfl (by omega) (by simp only [List.length_append,List.length_singleton];omega) (by rw [he];simp)
  have sl:(s++(c++[10])).length=s.length+(c.length+1):=by simp
  simp only [BH] at h1 ih ⊢
  rw [sl] at ih
  clear he
  unfold Loop at hB
  simp -implicitDefEqProofs only [go_sem,simprocAttr,Tryz.f19,loopOf] at hB
  subst hB
  rw [RL_eq]
  simp -implicitDefEqProofs only [go_sem,simprocAttr,d,h7,gc,st,h1,ob_keep,locsR_SLs,locsR_bytes,renR_bytes]
  exact ih
theorem l_jn0 (ks:List It) (Bo:Code) (hB:Loop Tryz.f19 0 Bo) :
  RL K (.run 19 0 (.code Bo::.lp Bo (some ([3,6,7,8],[])) 1::.blk 0 1::ks) [(3,.tptr 134 0 0),(6,.rows []),(7,I 0),(8,I 0)] [.cells [.nilp,.nils]]) =
  R K (.run 19 0 ks [(3,.tptr 134 0 0)] [.cells [.nilp,.nils]]):=by
 unfold Loop at hB
 simp -implicitDefEqProofs only [go_sem,simprocAttr,Tryz.f19,loopOf] at hB
 subst hB
 rw [RL_eq]
 simp -implicitDefEqProofs only [go_sem,simprocAttr,locsR]
theorem r_joined (ls:List (List UInt8)) (hl:ls.length≤10000000) (hs:(ls.flatMap fun w=>w++[10]).length≤300000000000):R K (.call 19 [.rows (SLs ls)] [])=some (.str (ls.flatMap fun w=>w++[10]),[]):=by
 cases ls with
 | nil =>
  have h1:=b_none
  rw [call_19]
  simp -implicitDefEqProofs only [go_sem,simprocAttr,Tryz.f19,SLs,List.map_nil,List.length_nil]
  rw [l_jn0 _ _ ?_]
  ·simp -implicitDefEqProofs only [go_sem,simprocAttr,h1,List.flatMap_nil]
  ·rfl
 | cons c r =>
  obtain ⟨s',hs'⟩:∃ s',s'=(c++[10])++(((c::r).drop 1).flatMap fun w=>w++[10]):=⟨_,rfl⟩
  have e:((c::r).flatMap fun w=>w++[10])=s':=by rw [hs'];simp
  rw [e] at hs ⊢
  have hn:s'≠[]:=by rw [hs'];simp
  have hd:((c::r).drop 1).flatMap (fun w=>w++[10])=(r.flatMap fun w=>w++[10]):=rfl
  have hlen:=congrArg List.length hs'
  simp only [List.length_append,List.length_singleton] at hlen
  have lk:=fun ks B hB=>l_jn (c::r) hl ks r.length 1 (c++[10]) s' B 1 hB rfl (by simp;omega) (by simp only [List.length_append,List.length_singleton];omega) hs'
  have st:(c.length+1≤strMax)=True:=room_s (by omega)
  have h1:=b_first (c++[10]) (by simp;omega)
  have hx:=b_text (.ptr 0 0) s' hn (by omega)
  have d:((0:Int) < ((r.length+1:Nat):Int))=True:=eq_true (by omega)
  have h7:=next_id (i:=0) (n:=r.length+1) (by simp) (by simp only [List.length_cons] at hl;omega)
  simp only [List.length_cons,SLs,List.map_cons,BH] at *
  clear e hs' hd
  have hz:wrapI .i64 ((0:Int)+1)=1:=rfl
  have run1:∀ (ks:List It) (Bo:Code),Loop Tryz.f19 0 Bo →
    RL K (.run 19 0 (.code Bo::.lp Bo (some ([3,6,7,8],[])) 1::.blk 0 1::ks) [(3,.tptr 134 0 0),(6,.rows ([.str c]::SLs r)),(7,I ((r.length+1:Nat):Int)),(8,I 0)] [.cells [.nilp,.nils]]) =
    R K (.run 19 0 ks [(3,.tptr 134 0 0)] [.cells [.ptr 0 0,.town 5 1 s'.length],.rows 1 (byteRows s') false]):=by
   intro ks Bo hB
   have lk:=lk ks Bo hB
   have sl:(c++[10]).length=c.length+1:=by simp
   rw [sl] at lk
   simp only [SLs] at lk ⊢
   unfold Loop at hB
   simp -implicitDefEqProofs only [go_sem,simprocAttr,Tryz.f19,loopOf] at hB
   subst hB
   rw [RL_eq]
   simp -implicitDefEqProofs only [go_sem,simprocAttr,d,at_zero,st,h1,ob_new,hz,locsR_SLs,locsR_bytes,renR_bytes]
   exact lk
  simp only [SLs] at run1
  rw [call_19]
  simp -implicitDefEqProofs only [go_sem,simprocAttr,Tryz.f19,List.length_cons,List.length_map]
  rw [run1 _ _ ?_]
  ·simp -implicitDefEqProofs only [go_sem,simprocAttr,hx,locsR_bytes,renR_bytes]
  ·rfl
noncomputable def tbL (t:Tbl):List (List UInt8):=t.cols.map (fun c=>lnS (.column c))++lnS (.key t.key)::(t.fgn.map (fun c=>lnS (.foreign c))++t.idx.map (fun c=>lnS (.index c)))
theorem tbL_len (t:Tbl):(tbL t).length+1=(lnsT t).length:=by
 rw [lnsT_len]
 simp only [tbL,List.length_append,List.length_cons,List.length_map]
 omega
theorem lns_drop2 {x:List Tbl} {j:Nat} {t:Tbl} (h:x[j]? = some t):(lns (x.drop j)).map lnS=lnS (.table t.nm)::(tbL t++(lns (x.drop (j+1))).map lnS):=by
 rw [lns_drop h]
 simp [tbL]
theorem fit_colR {x:List Tbl} (h:FitS x) {t:Tbl} (ht:t∈x):∀ c∈t.cols,(lnS (.column c)).length≤1000000000000∧(1≤c.kd∧c.kd≤4):=fun c hc=>by
 refine ⟨?_,h.kd t ht c hc⟩
 have:=fitS_mem h (in_lns ht (n:=.column c) (by simp [lnsT,hc]))
 omega
theorem r_TableLines {x:List Tbl} (hS:FitS x) {t:Tbl} (ht:t∈x) (hn:(lnsT t).length≤1000000):R K (.call 69 [tblA t] [])=some (.rows (SLs (tbL t)),[]):=by
 rw [lnsT_len] at hn
 obtain ⟨k1,k2,k3⟩:=fit_key hS ht
 obtain ⟨a1,ha1⟩:∃ a,a=[]++(t.cols.drop 0).map (fun c=>lnS (.column c)):=⟨_,rfl⟩
 obtain ⟨a2,ha2⟩:∃ a,a=a1++[lnS (.key t.key)]:=⟨_,rfl⟩
 obtain ⟨a3,ha3⟩:∃ a,a=a2++(t.fgn.drop 0).map (fun c=>lnS (.foreign c)):=⟨_,rfl⟩
 obtain ⟨a4,ha4⟩:∃ a,a=a3++(t.idx.drop 0).map (fun c=>lnS (.index c)):=⟨_,rfl⟩
 have et:tbL t=a4:=by rw [ha4,ha3,ha2,ha1];simp [tbL]
 have n1:a1.length=t.cols.length:=by rw [ha1];simp
 have n2:a2.length=a1.length+1:=by rw [ha2];simp
 have n3:a3.length=a2.length+t.fgn.length:=by rw [ha3];simp
 have n4:a4.length=a3.length+t.idx.length:=by rw [ha4];simp
 have s2:=SLs_app a1 (lnS (.key t.key))
 rw [←ha2] at s2
 have rm:((a1.length+1)*17≤roomMax)=True:=eq_true (by unfold roomMax;omega)
 have lC:=fun ks B hB=>l_tlC t (fit_colR hS ht) (by omega) ks t.cols.length 0 [] a1 B 0 hB rfl (by omega) (by simp;omega) ha1
 have lF:=fun ks B hB=>l_tlF t (fit_for hS ht) (by omega) ks t.fgn.length 0 a2 a3 B 0 hB rfl (by omega) (by omega) ha3
 have lI:=fun ks B hB=>l_tlI t (fit_idx hS ht) (by omega) ks t.idx.length 0 a3 a4 B 0 hB rfl (by omega) (by omega) ha4
 have lF2:=fun ks B hB=>l_tlF2 (keyW::t.key) t (fit_for hS ht) (by omega) ks t.fgn.length 0 a2 a3 B 0 hB rfl (by omega) (by omega) ha3
 have lI2:=fun ks B hB=>l_tlI2 (keyW::t.key) t (fit_idx hS ht) (by omega) ks t.idx.length 0 a3 a4 B 0 hB rfl (by omega) (by omega) ha4
 have ez:SLs (keyW::t.key)=[AV.str [107,101,121]]::SLs t.key:=rfl
 rw [ez] at lF2 lI2
 have hp:=p_JoinB ([keyW]++t.key) [32] (by simp;omega) (by rw [join_jn];exact k2)
 rw [join_jn] at hp
 have e1:jnW ([keyW]++t.key)=lnS (.key t.key):=rfl
 rw [e1] at hp
 have ea:SLs ([keyW]++t.key)=[AV.str keyW]::SLs t.key:=rfl
 rw [ea] at hp
 simp only [keyW] at hp
 have r2:((t.key.length+1)*17≤roomMax)=True:=eq_true (by unfold roomMax;omega)
 have r3:((1+t.key.length)*17≤roomMax)=True:=eq_true (by unfold roomMax;omega)
 have n5:(t.key.length+1=1+t.key.length)=True:=eq_true (by omega)
 have pc:=len_cases t.key
 rw [n2] at lF lF2
 rw [et]
 have en:SLs []=([]:List (List AV)):=rfl
 simp only [en,List.length_nil,Int.natCast_zero,tblC] at lC lF lI lF2 lI2
 clear e1 et ez ha1 ha2 ha3 ha4
 generalize lnS (.key t.key)=w at *
 generalize hk:t.key=key at *
 rcases pc with rfl | pc
 ·simp only [SLs,List.map_nil] at hp lC lF lI
  rw [call_69]
  simp -implicitDefEqProofs only [go_sem,simprocAttr,Tryz.f69,tblC,hk,en,List.length_map]
  rw [lC _ _ ?_]
  ·simp only [SLs] at s2
   simp -implicitDefEqProofs only [go_sem,simprocAttr,hp,s2,rm,SLs_len,locsR_SLs,List.length_map]
   rw [lF _ _ ?_]
   ·simp -implicitDefEqProofs only [go_sem,simprocAttr,SLs_len,locsR_SLs,List.length_map]
    rw [lI _ _ ?_]
    ·simp -implicitDefEqProofs only [go_sem,simprocAttr,SLs_len,locsR_SLs,List.length_map,or_true]
    ·rfl
   ·rfl
  ·rfl
 ·rw [call_69]
  simp -implicitDefEqProofs only [go_sem,simprocAttr,Tryz.f69,tblC,hk,List.length_map]
  rw [lC _ _ ?_]
  ·simp -implicitDefEqProofs only [go_sem,simprocAttr,hp,s2,rm,r2,r3,n5,pc,allLen,allLen_SLs,SLs_len,locsR_SLs,List.length_map]
   rw [lF2 _ _ ?_]
   ·simp -implicitDefEqProofs only [go_sem,simprocAttr,SLs_len,locsR_SLs,List.length_map]
    rw [lI2 _ _ ?_]
    ·simp -implicitDefEqProofs only [go_sem,simprocAttr,SLs_len,locsR_SLs,List.length_map,or_true]
    ·rfl
   ·rfl
  ·rfl
theorem l_sl (x:List Tbl) (hS:FitS x) (hl:x.length≤1000000) (ks:List It):∀ (q j:Nat) (acc acc':List (List UInt8)) (Bo:Code) (jj:Int),Loop Tryz.f20 0 Bo→jj=(j:Int)→x.length=j+q→acc.length+(lns (x.drop j)).length≤1000000→acc'=acc++(lns (x.drop j)).map lnS →
  RL K (.run 20 0 (.code Bo::.lp Bo (some ([3,7,8,9],[])) 2::.blk 0 2::ks) [(3,.own 1 acc.length),(7,.rows (x.map tblC)),(8,I (x.length:Int)),(9,I jj)] [.cells [.rows (x.map tblC)],.rows 1 (SLs acc) false]) =
  R K (.run 20 0 ks [(3,.own 1 acc'.length)] [.cells [.rows (x.map tblC)],.rows 1 (SLs acc') false])
 | 0,j,acc,acc',Bo,jj,hB,hj,hq,ha,he=>by
  subst hj
  have d:¬(j:Int) < (x.length:Int):=by omega
  rw [List.drop_of_length_le (by omega),show lns []=[] from rfl,List.map_nil,List.append_nil] at he
  subst he
  unfold Loop at hB
  simp -implicitDefEqProofs only [go_sem,simprocAttr,Tryz.f20,loopOf] at hB
  subst hB
  rw [RL_eq]
  simp -implicitDefEqProofs only [go_sem,simprocAttr,d,locsR_SLs]
 | q+1,j,acc,acc',Bo,jj,hB,hj,hq,ha,he=>by
  subst hj
  have hB':=hB
  have d:(j:Int) < (x.length:Int):=by omega
  have h7:=next_id (i:=j) (n:=x.length) (by omega) (by omega)
  obtain ⟨t,ht⟩:=some_at (l:=x) (i:=j) (by omega)
  have hm:=List.mem_of_getElem? ht
  have gc:=tbl_get ht
  have hlen:(lns (x.drop j)).length=(lnsT t).length+(lns (x.drop (j+1))).length:=by rw [drop_get ht,lns_cons',List.length_append]
  obtain ⟨k1,k2,k3⟩:=fit_key hS hm
  have h1:=r_TableLines hS hm (by omega)
  have tl:=tbL_len t
  have st:(6+t.nm.length≤strMax)=True:=room_s (by omega)
  rw [lns_drop2 ht] at he
  obtain ⟨a1,ha1⟩:∃ a,a=acc++[lnS (.table t.nm)]:=⟨_,rfl⟩
  obtain ⟨a2,ha2⟩:∃ a,a=a1++tbL t:=⟨_,rfl⟩
  have n1:a1.length=acc.length+1:=by rw [ha1];simp
  have n2:a2.length=acc.length+1+(tbL t).length:=by rw [ha2,List.length_append,n1]
  have s1:=SLs_app acc (lnS (.table t.nm))
  rw [←ha1] at s1
  have et:lnS (.table t.nm)=116::97::98::108::101::32::t.nm:=rfl
  rw [et] at s1
  have s2:SLs a1++SLs (tbL t)=SLs a2:=by rw [ha2];simp [SLs]
  have r1:((acc.length+1)*17≤roomMax)=True:=eq_true (by unfold roomMax;omega)
  have r2:((acc.length+1+(tbL t).length)*17≤roomMax)=True:=eq_true (by unfold roomMax;omega)
  have pb:((0:Nat) < (tbL t).length)=True:=eq_true (by have:=tbL_len t;rw [lnsT_len] at this;omega)
  have ih:=l_sl x hS hl ks q (j+1) a2 acc' Bo _ hB' rfl (by omega) (by omega) (by rw [he,ha2,ha1];simp)
  rw [n2] at ih
  clear he ha1 ha2 hB' hlen tl n2 et
  simp only [tblA,tblC] at gc h1
  generalize tbL t=u at *
  unfold Loop at hB
  simp -implicitDefEqProofs only [go_sem,simprocAttr,Tryz.f20,loopOf] at hB
  subst hB
  rw [RL_eq]
  simp -implicitDefEqProofs only [go_sem,simprocAttr,d,h7,gc,tblC,st,s1,s2,n1,r1,r2,pb,h1,SLs_len,allLen_SLs,locsR_SLs]
  exact ih
theorem r_SchemaLines (x:List Tbl) (hS:FitS x):R K (.call 20 [schC x] [])=some (.rows (SLs ((lns x).map lnS)),[]):=by
 have hl:=lns_ge x
 have h1:=hS.len
 obtain ⟨a1,ha1⟩:∃ a,a=[]++(lns (x.drop 0)).map lnS:=⟨_,rfl⟩
 have lk:=fun ks B hB=>l_sl x hS (by omega) ks x.length 0 [] a1 B 0 hB rfl (by omega) (by simpa using h1) ha1
 simp only [List.drop_zero,List.nil_append] at ha1
 rw [←ha1]
 have en:SLs []=([]:List (List AV)):=rfl
 simp only [en,List.length_nil,Int.natCast_zero] at lk
 rw [call_20]
 simp -implicitDefEqProofs only [go_sem,simprocAttr,Tryz.f20,List.length_map]
 rw [lk _ _ ?_]
 ·simp -implicitDefEqProofs only [go_sem,simprocAttr,locsR_SLs,SLs_len,or_true]
 ·rfl
theorem r_text (x:List Tbl) (hS:FitS x):R K (.call 19 [.rows (SLs ((lns x).map lnS))] [])=some (.str (txtOf (lnTx showS) x),[]):=by
 have h1:=hS.len
 have h2:=hS.sum
 rw [←txt_len] at h2
 exact r_joined ((lns x).map lnS) (by simp;omega) (by show (txtOf (lnTx showS) x).length≤_;omega)
theorem r_TextOfSchema (x:List Tbl) (hF:FitX x):R K (.call 6 [schC x] [])=some (.tup [.str (wrX x).1,I (wrX x).2],[]):=by
 have h1:=r_SchemaFault x hF
 unfold wrX
 by_cases h0:chkE x=0
 ·have h2:=r_SchemaLines x (right_fit h0)
  have h4:=r_text x (right_fit h0)
  rw [h0] at h1
  rw [if_pos h0]
  generalize txtOf (lnTx showS) x=w at *
  by_cases h3:65536 < w.length
  ·have d:((65536:Int) < (w.length:Int))=True:=eq_true (by omega)
   rw [if_pos h3]
   rw [call_6]
   simp -implicitDefEqProofs only [go_sem,simprocAttr,Tryz.f6,h1,h2,h4,d,bne,beq_self_eq_true]
  ·have d:((65536:Int) < (w.length:Int))=False:=eq_false (by omega)
   rw [if_neg h3]
   rw [call_6]
   simp -implicitDefEqProofs only [go_sem,simprocAttr,Tryz.f6,h1,h2,h4,d,bne,beq_self_eq_true]
 ·have d0:(chkE x==0)=false:=by simpa using h0
  rw [if_neg h0]
  generalize chkE x=e at *
  rw [call_6]
  simp -implicitDefEqProofs only [go_sem,simprocAttr,Tryz.f6,h1,d0,bne]
theorem gturn_E (ks:List It) (Bo:Code) (hB:Loop Tryz.f12 0 Bo):RL K (.run 12 0 (GKs Bo ks) (GFr [] [[]] 0) (DA false))=RL K (.run 12 0 (GKs Bo ks) (GFr [] [[]] ((1:Nat):Int)) (DA false)):=by
 have d:((0:Int) < ((1:Nat):Int))=True:=eq_true (by omega)
 have hz:wrapI .i64 ((0:Int)+1)=((1:Nat):Int):=rfl
 have hc:=p_CutPrefix [] tabP
 simp only [tabP] at hc
 simp only [GFr,SLs,List.map_cons,List.map_nil,List.length_cons,List.length_nil]
 unfold Loop at hB
 simp -implicitDefEqProofs only [go_sem,simprocAttr,Tryz.f12,loopOf] at hB
 subst hB
 rw [RL_eq]
 simp -implicitDefEqProofs only [go_sem,simprocAttr,d,hc,hz,at_zero,rB,isF,beq_self_eq_true,locsR]
 all_goals rfl
theorem end_E (ks:List It) (Bo:Code) (hB:Loop Tryz.f12 0 Bo):RL K (.run 12 0 (GKs Bo ks) (GFr [] [[]] 0) (DA false))=R K (.run 12 0 ks (PFr []) (DF false [])):=by
 rw [gturn_E ks Bo hB]
 exact gxit_A [] [[]] (by simp) ks Bo hB false
section
variable (s u:List UInt8) (ok:Bool) (ls:List (List UInt8)) (b':Bool) (y:List Tbl) (hb:¬65536 < s.length) (hc:R K (.call 27 [.str s,.str [10]] [])=some (.tup [.str u,.bool ok],[])) (hok:((s==[])=true∧ok=false)∨((s==[])=false∧ok=true)) (hp:R K (.call 28 [.str u,.str [10]] [])=some (.rows (SLs ls),[]))
 (lk:∀ (ks:List It) (Bo:Code),Loop Tryz.f12 0 Bo→RL K (.run 12 0 (GKs Bo ks) (GFr s ls 0) (DA false))=R K (.run 12 0 ks (PFr s) (DF b' y)))
include hb hc hok hp lk
theorem from_bad (hB:b'=true):R K (.call 12 [.str s] [])=some (.tup [schC [],I 14],[]):=by
 subst hB
 have d:((65536:Int) < (s.length:Int))=False:=eq_false (by omega)
 simp only [GKs,GFr,DA,DF,PFr,rB] at lk
 rcases hok with ⟨bs,rfl⟩ | ⟨bs,rfl⟩
 ·rw [call_12]
  simp -implicitDefEqProofs only [go_sem,simprocAttr,Tryz.f12,d,hc,hp,bs,bne,SLs_len]
  rw [lk _ _ ?_]
  ·simp -implicitDefEqProofs only [go_sem,simprocAttr]
   all_goals rfl
  ·rfl
 ·rw [call_12]
  simp -implicitDefEqProofs only [go_sem,simprocAttr,Tryz.f12,d,hc,hp,bs,bne,SLs_len]
  rw [lk _ _ ?_]
  ·simp -implicitDefEqProofs only [go_sem,simprocAttr]
   all_goals rfl
  ·rfl
theorem from_other (hB:b'=false) (fS:FitS y) (hw:txtOf (lnTx showS) y≠s):R K (.call 12 [.str s] [])=some (.tup [schC [],I 14],[]):=by
 subst hB
 have d:((65536:Int) < (s.length:Int))=False:=eq_false (by omega)
 simp only [GKs,GFr,DA,DF,PFr,rB] at lk
 have h1:=r_SchemaLines y fS
 have h2:=r_text y fS
 generalize txtOf (lnTx showS) y=w at *
 have bw:(w==s)=false:=by simpa using hw
 rcases hok with ⟨bs,rfl⟩ | ⟨bs,rfl⟩
 ·rw [call_12]
  simp -implicitDefEqProofs only [go_sem,simprocAttr,Tryz.f12,d,hc,hp,bs,bne,SLs_len]
  rw [lk _ _ ?_]
  ·simp -implicitDefEqProofs only [go_sem,simprocAttr,h1,h2,bw,bne]
   all_goals rfl
  ·rfl
 ·rw [call_12]
  simp -implicitDefEqProofs only [go_sem,simprocAttr,Tryz.f12,d,hc,hp,bs,bne,SLs_len]
  rw [lk _ _ ?_]
  ·simp -implicitDefEqProofs only [go_sem,simprocAttr,h1,h2,bw,bne]
   all_goals rfl
  ·rfl
theorem from_ok (hB:b'=false) (fS:FitS y) (fX:FitX y) (hw:txtOf (lnTx showS) y=s) (he:chkE y=0):R K (.call 12 [.str s] [])=some (.tup [schC y,I 0],[]):=by
 subst hB
 have d:((65536:Int) < (s.length:Int))=False:=eq_false (by omega)
 simp only [GKs,GFr,DA,DF,PFr,rB] at lk
 have h1:=r_SchemaLines y fS
 have h2:=r_text y fS
 generalize txtOf (lnTx showS) y=w at *
 have h3:=r_SchemaFault y fX
 rw [he] at h3
 have bw:(w==s)=true:=by simpa using hw
 rcases hok with ⟨bs,rfl⟩ | ⟨bs,rfl⟩
 ·rw [call_12]
  simp -implicitDefEqProofs only [go_sem,simprocAttr,Tryz.f12,d,hc,hp,bs,bne,SLs_len]
  rw [lk _ _ ?_]
  ·simp -implicitDefEqProofs only [go_sem,simprocAttr,h1,h2,h3,bw,bne,beq_self_eq_true]
   all_goals rfl
  ·rfl
 ·rw [call_12]
  simp -implicitDefEqProofs only [go_sem,simprocAttr,Tryz.f12,d,hc,hp,bs,bne,SLs_len]
  rw [lk _ _ ?_]
  ·simp -implicitDefEqProofs only [go_sem,simprocAttr,h1,h2,h3,bw,bne,beq_self_eq_true]
   all_goals rfl
  ·rfl
theorem from_wrong (hB:b'=false) (fS:FitS y) (fX:FitX y) (hw:txtOf (lnTx showS) y=s) (he:chkE y≠0):R K (.call 12 [.str s] [])=some (.tup [schC [],I (chkE y)],[]):=by
 subst hB
 have d:((65536:Int) < (s.length:Int))=False:=eq_false (by omega)
 simp only [GKs,GFr,DA,DF,PFr,rB] at lk
 have h1:=r_SchemaLines y fS
 have h2:=r_text y fS
 generalize txtOf (lnTx showS) y=w at *
 have h3:=r_SchemaFault y fX
 have bw:(w==s)=true:=by simpa using hw
 have be:(chkE y==0)=false:=by simpa using he
 generalize chkE y=e at *
 rcases hok with ⟨bs,rfl⟩ | ⟨bs,rfl⟩
 ·rw [call_12]
  simp -implicitDefEqProofs only [go_sem,simprocAttr,Tryz.f12,d,hc,hp,bs,bne,SLs_len]
  rw [lk _ _ ?_]
  ·simp -implicitDefEqProofs only [go_sem,simprocAttr,h1,h2,h3,bw,bne,be]
   all_goals rfl
  ·rfl
 ·rw [call_12]
  simp -implicitDefEqProofs only [go_sem,simprocAttr,Tryz.f12,d,hc,hp,bs,bne,SLs_len]
  rw [lk _ _ ?_]
  ·simp -implicitDefEqProofs only [go_sem,simprocAttr,h1,h2,h3,bw,bne,be]
   all_goals rfl
  ·rfl
end
theorem from_ls (s u:List UInt8) (ok:Bool) (ls ls':List (List UInt8)) (b':Bool) (y:List Tbl) (hb:¬65536 < s.length) (hc:R K (.call 27 [.str s,.str [10]] [])=some (.tup [.str u,.bool ok],[])) (hok:((s==[])=true∧ok=false)∨((s==[])=false∧ok=true)) (hp:R K (.call 28 [.str u,.str [10]] [])=some (.rows (SLs ls),[]))
  (lk:∀ (ks:List It) (Bo:Code),Loop Tryz.f12 0 Bo→RL K (.run 12 0 (GKs Bo ks) (GFr s ls 0) (DA false))=R K (.run 12 0 ks (PFr s) (DF b' y)))
  (hL:linesOf s=some ls') (z1:ls'.length≤65537) (z2:∀ l∈ls',l.length≤65537) (q:(match readAll (pLn rdS false) ls' with
    | some ns=>asmL ns
    | none=>none)=if b'=false then some y else none):R K (.call 12 [.str s] [])=some (.tup [schC (rdX false asmL s).1,I (rdX false asmL s).2],[]):=by
 have hQ:rdL (lnTx showS) (pLn rdS false) asmL s=match (if b'=false then some y else none:Option (List Tbl)) with
   | none=>none
   | some y=>if txtOf (lnTx showS) y=s then some y else none:=by
  unfold rdL
  rw [hL]
  simp only
  rw [←q]
  cases readAll (pLn rdS false) ls'<;>rfl
 unfold rdX
 rw [if_neg hb,hQ]
 by_cases hg:b'=false
 ·rw [if_pos hg] at q ⊢
  obtain ⟨ns,hns,has⟩:∃ ns,readAll (pLn rdS false) ls'=some ns∧asmL ns=some y:=by
   cases hr:readAll (pLn rdS false) ls' with
   | none=>rw [hr] at q;simp at q
   | some ns=>rw [hr] at q;exact ⟨ns,rfl,q⟩
  obtain ⟨fS,fX⟩:=read_fit z1 z2 hns has
  simp only
  by_cases hw:txtOf (lnTx showS) y=s
  ·rw [if_pos hw]
   simp only
   by_cases he:chkE y=0
   ·rw [if_pos he]
    exact from_ok s u ok ls b' y hb hc hok hp lk hg fS fX hw he
   ·rw [if_neg he]
    exact from_wrong s u ok ls b' y hb hc hok hp lk hg fS fX hw he
  ·rw [if_neg hw]
   exact from_other s u ok ls b' y hb hc hok hp lk hg fS hw
 ·rw [if_neg hg]
  exact from_bad s u ok ls b' y hb hc hok hp lk (by simpa using hg)
theorem r_SchemaFrom (s:List UInt8) (hs:s.length≤8000000):R K (.call 12 [.str s] [])=some (.tup [schC (rdX false asmL s).1,I (rdX false asmL s).2],[]):=by
 by_cases hb:65536 < s.length
 ·have d:((65536:Int) < (s.length:Int))=True:=eq_true (by omega)
  unfold rdX
  rw [if_pos hb]
  rw [call_12]
  simp -implicitDefEqProofs only [go_sem,simprocAttr,Tryz.f12,d]
  all_goals rfl
 ·rcases lines_cases s with ⟨h0,hL⟩ | ⟨u,h0,hL⟩ | ⟨h0,h1,hL⟩
  ·subst h0
   have hc:=p_CutSuffix [] [10] (by simp)
   have hp:=p_Split [] 10 (by simp)
   exact from_ls [] [] false [[]] [] false [] (by simp) hc (.inl ⟨rfl,rfl⟩) hp (fun ks Bo hB=>end_E ks Bo hB) hL (by simp) (by simp) rfl
  ·subst h0
   obtain ⟨z1,z2⟩:=splitC_len 10 u
   have hb':=hb
   rw [List.length_append,List.length_singleton] at hb' hs
   obtain ⟨hn,ht⟩:=suf_one u
   have hc:=p_CutSuffix (u++[10]) [10] (by simp;omega)
   rw [hn,ht] at hc
   have hp:=p_Split u 10 (by omega)
   obtain ⟨b',y,lk,_,q⟩:=l_fromA (u++[10]) (splitC 10 u) (by omega) (fun l hl=>by have:=z2 l hl;omega) (by simp) (splitC 10 u).length 0 false (by omega) (fun _=>rfl) (fun h=>absurd h (by omega))
   exact from_ls (u++[10]) u true (splitC 10 u) (splitC 10 u) b' y hb hc (.inr ⟨by simp,rfl⟩) hp lk hL (by omega) (fun l hl=>by have:=z2 l hl;omega) (q rfl)
  ·unfold rdX rdL
   rw [if_neg hb,hL]
   have d:((65536:Int) < (s.length:Int))=False:=eq_false (by omega)
   have hn:=suf_no h1
   have hc:=p_CutSuffix s [10] (by omega)
   rw [hn] at hc
   have bs:(s==[])=false:=by simpa using h0
   rw [call_12]
   simp -implicitDefEqProofs only [go_sem,simprocAttr,Tryz.f12,d,hc,bs,bne]
   all_goals rfl
theorem l_eqC (l:List Col) (hl:l.length≤1000000) (ks:List It):∀ (q j:Nat) (i:Int) (Bo:Code),Loop Tryz.f34 0 Bo→i=(j:Int)→l.length=j+q →
  RL K (.run 34 0 (.code Bo::.lp Bo (some ([0,1,12,13],[])) 0::.blk 0 0::ks) [(0,.rows (l.map colC)),(1,.rows (l.map colC)),(12,I (l.length:Int)),(13,I i)] []) =
  R K (.run 34 0 ks [] [])
 | 0,j,i,Bo,hB,hi,hq=>by
  subst hi
  have d:¬(j:Int) < (l.length:Int):=by omega
  unfold Loop at hB
  simp -implicitDefEqProofs only [go_sem,simprocAttr,Tryz.f34,loopOf] at hB
  subst hB
  rw [RL_eq]
  simp -implicitDefEqProofs only [go_sem,simprocAttr,d]
 | q+1,j,i,Bo,hB,hi,hq=>by
  subst hi
  have hB':=hB
  have d:(j:Int) < (l.length:Int):=by omega
  have h7:=next_id (i:=j) (n:=l.length) (by omega) (by omega)
  obtain ⟨c,hc⟩:=some_at (l:=l) (i:=j) (by omega)
  have gc:=col_get hc
  have ih:=l_eqC l hl ks q (j+1) _ Bo hB' rfl (by omega)
  simp only [colC] at gc
  unfold Loop at hB
  simp -implicitDefEqProofs only [go_sem,simprocAttr,Tryz.f34,loopOf] at hB
  subst hB
  rw [RL_eq]
  simp -implicitDefEqProofs only [go_sem,simprocAttr,d,h7,gc,bne,beq_self_eq_true,Bool.and_self]
  exact ih
theorem c_eqC (l:List Col) (hl:l.length≤1000000):R K (.call 34 [.rows (l.map colC),.rows (l.map colC)] [])=some (.bool true,[]):=by
 have lk:=fun ks B hB=>l_eqC l hl ks l.length 0 0 B hB rfl (by omega)
 rw [call_34]
 simp -implicitDefEqProofs only [go_sem,simprocAttr,Tryz.f34,List.length_map,bne,beq_self_eq_true]
 rw [lk _ _ ?_]
 ·simp -implicitDefEqProofs only [go_sem,simprocAttr]
 ·rfl
theorem l_efF (l:List Fgn) (hl:l.length≤1000000) (g:Nat) (hg:∀ c∈l,R K (.call g [.agg (fgnC c),.agg (fgnC c)] [])=some (.bool true,[])) (hG:g=37) (ks:List It):∀ (q j:Nat) (i:Int) (Bo:Code),Loop Tryz.f36 0 Bo→i=(j:Int)→l.length=j+q →
  RL K (.run 36 0 (.code Bo::.lp Bo (some ([1,2,15,16,17],[])) 0::.blk 0 0::ks) [(1,.rows (l.map fgnC)),(2,.fn g []),(15,.rows (l.map fgnC)),(16,I (l.length:Int)),(17,I i)] []) =
  R K (.run 36 0 ks [] [])
 | 0,j,i,Bo,hB,hi,hq=>by
  subst hi
  have d:¬(j:Int) < (l.length:Int):=by omega
  unfold Loop at hB
  simp -implicitDefEqProofs only [go_sem,simprocAttr,Tryz.f36,loopOf] at hB
  subst hB
  rw [RL_eq]
  simp -implicitDefEqProofs only [go_sem,simprocAttr,d]
 | q+1,j,i,Bo,hB,hi,hq=>by
  subst hi
  have hB':=hB
  have d:(j:Int) < (l.length:Int):=by omega
  have h7:=next_id (i:=j) (n:=l.length) (by omega) (by omega)
  obtain ⟨c,hc⟩:=some_at (l:=l) (i:=j) (by omega)
  have gc:=fgn_get hc
  have ih:=l_efF l hl g hg hG ks q (j+1) _ Bo hB' rfl (by omega)
  have h1:=hg c (List.mem_of_getElem? hc)
  subst hG
  simp only [fgnC] at gc h1
  unfold Loop at hB
  simp -implicitDefEqProofs only [go_sem,simprocAttr,Tryz.f36,loopOf] at hB
  subst hB
  rw [RL_eq]
  simp -implicitDefEqProofs only [go_sem,simprocAttr,d,h7,gc,h1]
  exact ih
theorem c_efF (l:List Fgn) (hl:l.length≤1000000) (g:Nat) (hg:∀ c∈l,R K (.call g [.agg (fgnC c),.agg (fgnC c)] [])=some (.bool true,[])) (hG:g=37):R K (.call 36 [.rows (l.map fgnC),.rows (l.map fgnC),.fn g []] [])=some (.bool true,[]):=by
 have lk:=fun ks B hB=>l_efF l hl g hg hG ks l.length 0 0 B hB rfl (by omega)
 rw [call_36]
 simp -implicitDefEqProofs only [go_sem,simprocAttr,Tryz.f36,List.length_map,bne,beq_self_eq_true]
 rw [lk _ _ ?_]
 ·simp -implicitDefEqProofs only [go_sem,simprocAttr]
 ·rfl
theorem l_efI (l:List Idx) (hl:l.length≤1000000) (g:Nat) (hg:∀ c∈l,R K (.call g [.agg (idxC c),.agg (idxC c)] [])=some (.bool true,[])) (hG:g=39) (ks:List It):∀ (q j:Nat) (i:Int) (Bo:Code),Loop Tryz.f38 0 Bo→i=(j:Int)→l.length=j+q →
  RL K (.run 38 0 (.code Bo::.lp Bo (some ([1,2,15,16,17],[])) 0::.blk 0 0::ks) [(1,.rows (l.map idxC)),(2,.fn g []),(15,.rows (l.map idxC)),(16,I (l.length:Int)),(17,I i)] []) =
  R K (.run 38 0 ks [] [])
 | 0,j,i,Bo,hB,hi,hq=>by
  subst hi
  have d:¬(j:Int) < (l.length:Int):=by omega
  unfold Loop at hB
  simp -implicitDefEqProofs only [go_sem,simprocAttr,Tryz.f38,loopOf] at hB
  subst hB
  rw [RL_eq]
  simp -implicitDefEqProofs only [go_sem,simprocAttr,d]
 | q+1,j,i,Bo,hB,hi,hq=>by
  subst hi
  have hB':=hB
  have d:(j:Int) < (l.length:Int):=by omega
  have h7:=next_id (i:=j) (n:=l.length) (by omega) (by omega)
  obtain ⟨c,hc⟩:=some_at (l:=l) (i:=j) (by omega)
  have gc:=idx_get hc
  have ih:=l_efI l hl g hg hG ks q (j+1) _ Bo hB' rfl (by omega)
  have h1:=hg c (List.mem_of_getElem? hc)
  subst hG
  simp only [idxC] at gc h1
  unfold Loop at hB
  simp -implicitDefEqProofs only [go_sem,simprocAttr,Tryz.f38,loopOf] at hB
  subst hB
  rw [RL_eq]
  simp -implicitDefEqProofs only [go_sem,simprocAttr,d,h7,gc,h1]
  exact ih
theorem c_efI (l:List Idx) (hl:l.length≤1000000) (g:Nat) (hg:∀ c∈l,R K (.call g [.agg (idxC c),.agg (idxC c)] [])=some (.bool true,[])) (hG:g=39):R K (.call 38 [.rows (l.map idxC),.rows (l.map idxC),.fn g []] [])=some (.bool true,[]):=by
 have lk:=fun ks B hB=>l_efI l hl g hg hG ks l.length 0 0 B hB rfl (by omega)
 rw [call_38]
 simp -implicitDefEqProofs only [go_sem,simprocAttr,Tryz.f38,List.length_map,bne,beq_self_eq_true]
 rw [lk _ _ ?_]
 ·simp -implicitDefEqProofs only [go_sem,simprocAttr]
 ·rfl
theorem l_efT (l:List Tbl) (hl:l.length≤1000000) (g:Nat) (hg:∀ c∈l,R K (.call g [.agg (tblC c),.agg (tblC c)] [])=some (.bool true,[])) (hG:g=33) (ks:List It):∀ (q j:Nat) (i:Int) (Bo:Code),Loop Tryz.f32 0 Bo→i=(j:Int)→l.length=j+q →
  RL K (.run 32 0 (.code Bo::.lp Bo (some ([1,2,15,16,17],[])) 0::.blk 0 0::ks) [(1,.rows (l.map tblC)),(2,.fn g []),(15,.rows (l.map tblC)),(16,I (l.length:Int)),(17,I i)] []) =
  R K (.run 32 0 ks [] [])
 | 0,j,i,Bo,hB,hi,hq=>by
  subst hi
  have d:¬(j:Int) < (l.length:Int):=by omega
  unfold Loop at hB
  simp -implicitDefEqProofs only [go_sem,simprocAttr,Tryz.f32,loopOf] at hB
  subst hB
  rw [RL_eq]
  simp -implicitDefEqProofs only [go_sem,simprocAttr,d]
 | q+1,j,i,Bo,hB,hi,hq=>by
  subst hi
  have hB':=hB
  have d:(j:Int) < (l.length:Int):=by omega
  have h7:=next_id (i:=j) (n:=l.length) (by omega) (by omega)
  obtain ⟨c,hc⟩:=some_at (l:=l) (i:=j) (by omega)
  have gc:=tbl_get hc
  have ih:=l_efT l hl g hg hG ks q (j+1) _ Bo hB' rfl (by omega)
  have h1:=hg c (List.mem_of_getElem? hc)
  subst hG
  simp only [tblC] at gc h1
  unfold Loop at hB
  simp -implicitDefEqProofs only [go_sem,simprocAttr,Tryz.f32,loopOf] at hB
  subst hB
  rw [RL_eq]
  simp -implicitDefEqProofs only [go_sem,simprocAttr,d,h7,gc,h1]
  exact ih
theorem c_efT (l:List Tbl) (hl:l.length≤1000000) (g:Nat) (hg:∀ c∈l,R K (.call g [.agg (tblC c),.agg (tblC c)] [])=some (.bool true,[])) (hG:g=33):R K (.call 32 [.rows (l.map tblC),.rows (l.map tblC),.fn g []] [])=some (.bool true,[]):=by
 have lk:=fun ks B hB=>l_efT l hl g hg hG ks l.length 0 0 B hB rfl (by omega)
 rw [call_32]
 simp -implicitDefEqProofs only [go_sem,simprocAttr,Tryz.f32,List.length_map,bne,beq_self_eq_true]
 rw [lk _ _ ?_]
 ·simp -implicitDefEqProofs only [go_sem,simprocAttr]
 ·rfl
theorem r_sameF (f:Fgn) (h:f.cols.length≤1000000):R K (.call 37 [.agg (fgnC f),.agg (fgnC f)] [])=some (.bool true,[]):=by
 have h1:=c_Equal f.cols h
 rw [call_37]
 simp -implicitDefEqProofs only [go_sem,simprocAttr,Tryz.f37,fgnC,h1,beq_self_eq_true]
theorem r_sameI (f:Idx) (h:f.cols.length≤1000000):R K (.call 39 [.agg (idxC f),.agg (idxC f)] [])=some (.bool true,[]):=by
 have h1:=c_Equal f.cols h
 rw [call_39]
 simp -implicitDefEqProofs only [go_sem,simprocAttr,Tryz.f39,idxC,h1,beq_self_eq_true]
theorem r_sameT (t:Tbl) (hc:t.cols.length≤1000000) (hk:t.key.length≤1000000) (hf:t.fgn.length≤1000000∧∀ f∈t.fgn,f.cols.length≤1000000) (hi:t.idx.length≤1000000∧∀ f∈t.idx,f.cols.length≤1000000):R K (.call 33 [tblA t,tblA t] [])=some (.bool true,[]):=by
 have h1:=c_eqC t.cols hc
 have h2:=c_Equal t.key hk
 have h3:=c_efF t.fgn hf.1 _ (fun f hm=>r_sameF f (hf.2 f hm)) rfl
 have h4:=c_efI t.idx hi.1 _ (fun f hm=>r_sameI f (hi.2 f hm)) rfl
 rw [call_33]
 simp -implicitDefEqProofs only [go_sem,simprocAttr,Tryz.f33,tblC,h1,h2,h3,h4,beq_self_eq_true]
def SmS (x:List Tbl):Prop:=x.length≤1000000∧∀ t∈x,t.cols.length≤1000000∧t.key.length≤1000000∧(t.fgn.length≤1000000∧∀ f∈t.fgn,f.cols.length≤1000000)∧(t.idx.length≤1000000∧∀ f∈t.idx,f.cols.length≤1000000)
theorem r_same (x:List Tbl) (h:SmS x):R K (.call 13 [schC x,schC x] [])=some (.bool true,[]):=by
 have h1:=c_efT x h.1 _ (fun t hm=>r_sameT t (h.2 t hm).1 (h.2 t hm).2.1 (h.2 t hm).2.2.1 (h.2 t hm).2.2.2) rfl
 rw [call_13]
 simp -implicitDefEqProofs only [go_sem,simprocAttr,Tryz.f13,h1]
theorem utf_one:∀ i:Fin 128,(Utf8.encode ((i.val:Nat):Int)).data.toList=[UInt8.ofNat i.val]:=by decide +kernel
theorem wrap_one:∀ i:Fin 128,wrapI .i32 ((i.val:Nat):Int)=((i.val:Nat):Int):=by decide +kernel
theorem utf_c (c:UInt8) (h:c.toNat < 128):(Utf8.encode ((c.toNat:Nat):Int)).data.toList=[c]:=by
 have:=utf_one ⟨c.toNat,h⟩
 simpa using this
theorem take_self (t:List UInt8) (i:Nat):(t.drop i).take (t.length - i)=t.drop i:=List.take_of_length_le (by simp)
section
variable {L:List Int} {a B:Int}
theorem g_Changed (h:Gd L a B) (hB:3≤B) (t w:List UInt8) (ht:t.length≤10000000) (hw0:w≠[]) (hw1:w.length≤17) (hw2:w.all (fun c=>decide (c.toNat < 128))=true):∃ u a',R K (.call 9 [.ptr 0 0,.str t,.str w] (St L a))=some (.str u,St L a')∧a≤a'∧a'≤a+3∧u.length≤t.length+17:=by
 have bw:(w==[])=false:=by simpa using hw0
 cases t with
 | nil =>
  refine ⟨w,a,?_,by omega,by omega,by simp;omega⟩
  rw [call_9]
  simp -implicitDefEqProofs only [go_sem,simprocAttr,Tryz.f9,beq_self_eq_true]
 | cons t0 tr =>
  generalize htt:t0::tr=t at ht ⊢
  have bt:(t==[])=false:=by rw [←htt];rfl
  have hl:1≤t.length:=by rw [←htt];simp
  have hlw:1≤w.length:=by cases w;exact absurd rfl hw0;simp
  clear htt
  have x0:=g_Next h (by omega) (t.length:Int)
  have b0:=next_bounds L a (t.length:Int) (by omega) (by omega)
  have x1:=g_Next (h.step (a+1) (B - 1) (by omega) (by omega)) (by omega) (w.length:Int)
  have b1:=next_bounds L (a+1) (w.length:Int) (by omega) (by omega)
  have x2:=g_Next (h.step (a+1+1) (B - 2) (by omega) (by omega)) (by omega) 3
  have b2:=next_bounds L (a+1+1) 3 (by omega) (by omega)
  generalize nextS L a (t.length:Int)=i at x0 b0
  generalize nextS L (a+1) (w.length:Int)=j at x1 b1
  generalize nextS L (a+1+1) 3=q at x2 b2
  obtain ⟨i,rfl⟩:=Int.eq_ofNat_of_zero_le b0.1
  obtain ⟨j,rfl⟩:=Int.eq_ofNat_of_zero_le b1.1
  obtain ⟨c,hc⟩:=some_at (l:=w) (i:=j) (by omega)
  have hg:=byte_get hc
  have hcl:c.toNat < 128:=by
   have:=List.all_eq_true.1 hw2 c (List.mem_of_getElem? hc)
   simpa using this
  have hu:=utf_c c hcl
  have w1:wrapI .i64 ((i:Int)+1)=((i+1:Nat):Int):=by rw [wrap_id (by omega) (by omega)];rfl
  have wc:wrapI .i32 ((c.toNat:Nat):Int)=((c.toNat:Nat):Int):=wrap_one ⟨c.toNat,hcl⟩
  have g1:((0:Int)≤(i:Int))=True:=eq_true (by omega)
  have g2:((i:Int)≤(t.length:Int))=True:=eq_true (by omega)
  have g3:((0:Int)≤((i+1:Nat):Int))=True:=eq_true (by omega)
  have g4:(((i+1:Nat):Int)≤(t.length:Int))=True:=eq_true (by omega)
  have e1:(t.drop i).take (t.length - i)=t.drop i:=take_self t i
  have e2:(t.drop (i+1)).take (t.length - (i+1))=t.drop (i+1):=take_self t (i+1)
  have ltk:(t.take i).length=i:=by rw [List.length_take];omega
  have ldr:(t.drop i).length≤t.length - i:=by simp
  have ldr1:(t.drop (i+1)).length≤t.length - (i+1):=by simp
  have s1:(i+1≤strMax)=True:=eq_true (by unfold strMax;omega)
  have s2:(i+1+(t.drop (i+1)).length≤strMax)=True:=eq_true (by unfold strMax;omega)
  have s3:(i+1+(t.drop i).length≤strMax)=True:=eq_true (by unfold strMax;omega)
  have s4:(i+(t.drop (i+1)).length≤strMax)=True:=eq_true (by unfold strMax;omega)
  by_cases q0:q=0
  ·subst q0
   refine ⟨t.take i++[c]++t.drop (i+1),a+1+1+1,?_,by omega,by omega,by simp only [List.length_append,List.length_cons,List.length_nil];omega⟩
   rw [call_9]
   simp -implicitDefEqProofs only [go_sem,simprocAttr,Tryz.f9,bt,bw,x0,x1,x2,hg,hu,wc,w1,g1,g2,g3,g4,and_self,Int.toNat_natCast,Nat.sub_zero,List.drop_zero,e1,e2,ltk,s1,s2,beq_self_eq_true]
  have bq0:(q==0)=false:=by simpa using q0
  by_cases q1:q=1
  ·subst q1
   refine ⟨t.take i++[c]++t.drop i,a+1+1+1,?_,by omega,by omega,by simp only [List.length_append,List.length_cons,List.length_nil];omega⟩
   rw [call_9]
   simp -implicitDefEqProofs only [go_sem,simprocAttr,Tryz.f9,bt,bw,x0,x1,x2,hg,hu,wc,w1,g1,g2,g3,g4,and_self,Int.toNat_natCast,Nat.sub_zero,List.drop_zero,e1,e2,ltk,s1,s3,bq0,beq_self_eq_true]
  have bq1:(q==1)=false:=by simpa using q1
  refine ⟨t.take i++t.drop (i+1),a+1+1+1,?_,by omega,by omega,by simp only [List.length_append,List.length_cons,List.length_nil];omega⟩
  rw [call_9]
  simp -implicitDefEqProofs only [go_sem,simprocAttr,Tryz.f9,bt,bw,x0,x1,x2,hg,hu,wc,w1,g1,g2,g3,g4,and_self,Int.toNat_natCast,Nat.sub_zero,List.drop_zero,e1,e2,ltk,s4,bq0,bq1]
end
def withs:List (List UInt8):=[[32],[10],[97],[48],[95],[116,97,98,108,101,32,116,113,10],[99,111,108,117,109,110,32,122,32,105,110,116,10],[107,101,121,32,105,100,10],[107,101,121,10],[105,110,100,101,120,32,105,120,32,105,100,10],[117,110,105,113,117,101],[102,111,114,101,105,103,110,32,102,120,32,116,97,32,105,100,10],[32,100,101,102,97,117,108,116,32,53],[32,110,117,108,108],[39]]
theorem withs_ok:∀ w∈withs,w≠[]∧w.length≤17∧w.all (fun c=>decide (c.toNat < 128))=true:=by decide
theorem with_at (i:Int) (h0:0≤i) (h1:i < 15):∃ w∈withs,at? (SLs withs) i=some [.str w]:=by
 obtain ⟨n,rfl⟩:=Int.eq_ofNat_of_zero_le h0
 obtain ⟨w,hw⟩:=some_at (l:=withs) (i:=n) (by have:withs.length=15:=rfl;omega)
 exact ⟨w,List.mem_of_getElem? hw,at_get (str_get hw)⟩
section
variable {L:List Int}
theorem l_changed (n:Nat) (hn:n≤2) (ks:List It) (H0:List AV) (hH:locsL H0=[]):∀ (m j:Nat) (i a B:Int) (t:List UInt8) (Bo:Code),Loop Tryz.f3 0 Bo→Gd L a B→4*m≤B→i=(j:Int)→n=j+m→t.length≤70000+17*j →
  ∃ (t':List UInt8) (a':Int),t'.length≤t.length+17*m ∧
  RL K (.run 3 0 (.code Bo::.lp Bo (some ([3,7,41,42],[])) 2::.blk 0 2::ks) [(3,.ptr 0 0),(7,.str t),(41,I (n:Int)),(42,I i)] [.cells [LR L,I a],.cells H0]) =
  R K (.run 3 0 ks [(7,.str t')] [.cells [LR L,I a'],.cells H0])
 | 0,j,i,a,B,t,Bo,hB,hG,hm,hi,hj,ht=>by
  subst hi
  have h1:¬(j:Int) < (n:Int):=by omega
  refine ⟨t,a,by omega,?_⟩
  unfold Loop at hB
  simp -implicitDefEqProofs only [go_sem,simprocAttr,Tryz.f3,loopOf] at hB
  subst hB
  rw [RL_eq]
  simp -implicitDefEqProofs only [go_sem,simprocAttr,h1,hH]
 | m+1,j,i,a,B,t,Bo,hB,hG,hm,hi,hj,ht=>by
  subst hi
  have hB':=hB
  have h1:(j:Int) < (n:Int):=by omega
  have w1:wrapI .i64 ((j:Int)+1)=((j+1:Nat):Int):=by rw [wrap_id (by omega) (by omega)];rfl
  have x0:=g_Next hG (by omega) 15
  have b0:=next_bounds L a 15 (by omega) (by omega)
  obtain ⟨w,hw,hg⟩:=with_at _ b0.1 b0.2
  obtain ⟨k0,k1,k2⟩:=withs_ok w hw
  generalize nextS L a 15=p at x0 hg
  have hG1:=hG.step (a+1) (B - 1) (by omega) (by omega)
  obtain ⟨u,a1,x1,q1,q2,q3⟩:=g_Changed hG1 (by omega) t w (by omega) k0 k1 k2
  obtain ⟨t',a',r1,ih⟩:=l_changed n hn ks H0 hH m (j+1) _ a1 (B - 4) u Bo hB' (hG.step _ _ (by omega) (by omega)) (by omega) rfl (by omega) (by omega)
  refine ⟨t',a',by omega,?_⟩
  simp only [withs,SLs,List.map_cons,List.map_nil] at hg
  unfold Loop at hB
  simp -implicitDefEqProofs only [go_sem,simprocAttr,Tryz.f3,loopOf] at hB
  subst hB
  rw [RL_eq]
  simp -implicitDefEqProofs only [go_sem,simprocAttr,h1,hH,x0,hg,x1,w1]
  rw [ih]
end
theorem rdX_fit (s:List UInt8):FitX (rdX false asmL s).1:=by
 have h0:FitX []:=⟨by simp,by simp⟩
 unfold rdX
 by_cases hb:65536 < s.length
 ·rw [if_pos hb];exact h0
 rw [if_neg hb]
 have key:∀ y,rdL (lnTx showS) (pLn rdS false) asmL s=some y→FitX y:=by
  intro y hy
  unfold rdL at hy
  have hz:∀ ls,linesOf s=some ls→ls.length≤65537∧∀ l∈ls,l.length≤65537:=by
   intro ls e
   rcases lines_cases s with ⟨_,hL⟩ | ⟨u,hu,hL⟩ | ⟨_,_,hL⟩
   ·obtain rfl:=Option.some.inj (hL.symm.trans e);simp
   ·obtain rfl:=Option.some.inj (hL.symm.trans e)
    obtain ⟨z1,z2⟩:=splitC_len 10 u
    have:=congrArg List.length hu
    simp only [List.length_append,List.length_singleton] at this
    exact ⟨by omega,fun l hl=>by have:=z2 l hl;omega⟩
   ·exact absurd (hL.symm.trans e) (by simp)
  cases hL:linesOf s with
  | none=>rw [hL] at hy;simp at hy
  | some ls =>
   rw [hL] at hy
   simp only at hy
   obtain ⟨z1,z2⟩:=hz ls hL
   cases hr:readAll (pLn rdS false) ls with
   | none=>rw [hr] at hy;simp at hy
   | some ns =>
    rw [hr] at hy
    simp only at hy
    cases ha:asmL ns with
    | none=>rw [ha] at hy;simp at hy
    | some z =>
     rw [ha] at hy
     simp only at hy
     split at hy
     ·obtain rfl:=Option.some.inj hy
      exact (read_fit z1 z2 hr ha).2
     ·simp at hy
 cases hr:rdL (lnTx showS) (pLn rdS false) asmL s with
 | none=>exact h0
 | some y =>
  simp only
  by_cases he:chkE y=0
  ·rw [if_pos he];exact key y hr
  ·rw [if_neg he];exact h0
theorem fit_sm {x:List Tbl} (h:FitX x):SmS x:=⟨h.len,fun t ht=>by
 have:=h.tbl t ht
 exact ⟨this.cols,this.key,⟨this.fgn,fun f hf=>(this.fg f hf).2⟩,⟨this.idx,fun f hf=>(this.ix f hf).2⟩⟩⟩
theorem wrX_len (x:List Tbl):(wrX x).1.length≤65536:=by
 unfold wrX
 split
 ·split
  ·simp
  ·simp only;omega
 ·simp
theorem rd_eq (s:List UInt8):rdX true asmP s=rdX false asmL s:=by
 unfold rdX
 rw [readers_same sr_ok s]
theorem law_texts (L:List Int) (hL:L.length≤9223372036854775807):R K (.call 3 [LR L] [])=some (.bool true,[]):=by
 have hG:Gd L 0 4611686018427000000:=⟨by omega,by omega,hL⟩
 obtain ⟨x,a1,x0,hx,p1,p2⟩:=g_loose hG (by omega)
 have hF:=hx.fit (by omega)
 have x1:=c_SchemaText x hF
 have x2:=r_TextOfSchema x hF
 have hw:=wrX_len x
 have h1:=hG.step a1 4611686018426000000 (by omega) (by omega)
 obtain ⟨n,hn,y⟩:=g_Pick h1 (by omega) [0,1,1,2] (by decide) (by decide)
 have hb:0≤n∧n≤2:=(by decide:∀ x∈([0,1,1,2]:List Int),0≤x∧x≤2) n hn
 obtain ⟨k,rfl⟩:∃ k:Nat,n=(k:Int):=⟨n.toNat,by omega⟩
 simp only [List.map] at y
 generalize (wrX x).1=w at *
 generalize (wrX x).2=e at *
 obtain ⟨t,a3,r1,lk⟩:=l_changed (L:=L) k (by omega) _ [.rows (x.map tblC)] (by simp [locsL,locs]) k 0 0 (a1+1) 4611686018420000000 w _ rfl (h1.step (a1+1) 4611686018420000000 (by omega) (by omega)) (by omega) rfl (by omega) (by omega)
 have x3:=c_SchemaRead t (by omega)
 have x4:=r_SchemaFrom t (by omega)
 rw [rd_eq t] at x3
 have x5:=r_same _ (fit_sm (rdX_fit t))
 generalize (rdX false asmL t).1=z at *
 generalize (rdX false asmL t).2=q at *
 rw [call_3]
 simp -implicitDefEqProofs only [go_sem,simprocAttr,Tryz.f3,x0,x1,x2,y,r_schemas,bne,beq_self_eq_true]
 rw [lk]
 simp -implicitDefEqProofs only [go_sem,simprocAttr,x3,x4,x5,beq_self_eq_true]
end Go.Ab
