/- What is proved: contracts of the program's and the reference's functions in the evaluator, and plain laws on them. Conditions: as each states. -/
import Derived.Test.YthdocgcbifoaaaaGreatDoorMQ2
set_option linter.unusedSimpArgs false
set_option linter.unusedSectionVars false
set_option linter.unusedVariables false
set_option maxRecDepth 100000
namespace Go.Ab
open Go Go.Proofs
theorem r_SortRows (t:Tbl) (ht:t.cols.length≤1000000) (hk:t.key.length≤1000000) (hN:NamesIn t t.key) (rs:List (List Val)) (hl:rs.length < 20) (hf:RowsFit t rs) :
  ∃ rs',Shuf rs rs'∧R K (.call 252 [tblA t,.own 0 rs.length] [.rows 1 (rs.map rowC) true])=some (.tup [],[.rows 1 (rs'.map rowC) true]):=by
 obtain ⟨rs',m,x0⟩:=c_SortStable t ht hk hN rs hl hf
 refine ⟨rs',m,?_⟩
 simp only [soH,tblA,tblC] at x0 ⊢
 rw [call_252]
 simp -implicitDefEqProofs only [go_sem,simprocAttr,Tryz.f252,x0,true_or]
theorem c_clone2 (rs:List (List Val)) (hl:rs.length≤1000000):R K (.call 29 [.rows (rs.map rowC)] [])=some (.own 0 rs.length,[.rows 1 (rs.map rowC) true]):=by
 cases rs with
 | nil=>exact R_primH rfl rfl
 | cons r rs =>
  have rm:((rs.length+1)*25≤roomMax)=True:=eq_true (by unfold roomMax;simp at hl;omega)
  have al:=allLen_rows (r::rs)
  have lr:=locsR_rows (r::rs)
  simp only [List.map_cons] at al lr
  have l1:((rowC r).length==1)=true:=rfl
  have ar:=allLen_rows rs
  have lL:locsL (rowC r)=[]:=rfl
  rw [List.map_cons,call_29 rfl rfl]
  simp -implicitDefEqProofs only [go_sem,simprocAttr,Tryz.f29,rm,al,ar,l1,lr,lL,Bool.and_true,List.isEmpty_cons,List.length_cons,List.length_map,List.length_nil,Nat.zero_add,List.nil_append,Nat.zero_lt_succ]
theorem r_mark (a b c:List UInt8) (l:List Val) (ha:a.length≤100000) (hb:b.length≤100000) (hc:c.length≤100000) (hl:l.length≤1000000):∃ s,R K (.call 68 [.str a,.str b,.str c,vsA l] [])=some (.str s,[]):=by
 have x0:=r_keyText l hl
 have kl:=keyB_len l
 have x1:R K (.call 118 [.rows [[.str a],[.str b],[.str c],[.str (keyB l)]],.str [124]] [])=some (.str (Lib.join [a,b,c,keyB l] [124]),[]):=R_prim (by
  show pJoin [.rows [[.str a],[.str b],[.str c],[.str (keyB l)]],.str [124]]=_
  simp only [pJoin,strsOf]
  rw [if_pos]
  simp only [Bool.and_eq_true,decide_eq_true_eq,Lib.join,List.intercalate,List.intersperse,List.flatten_cons,List.flatten_nil,List.length_append,List.length_cons,List.length_nil]
  omega)
 refine ⟨Lib.join [a,b,c,keyB l] [124],?_⟩
 rw [call_68]
 simp -implicitDefEqProofs only [go_sem,simprocAttr,Tryz.f68,x0,x1]
theorem range_1:List.range 1=[0]:=rfl
attribute [go_sem] settle settleBy List.range_zero range_1 List.contains_cons List.contains_nil
theorem at_0 (a:List AV) (l:List (List AV)):at? (a::l) 0=some a:=rfl
theorem at_1 (a b:List AV) (l:List (List AV)):at? (a::b::l) 1=some b:=rfl
theorem at_2 (a b c:List AV) (l:List (List AV)):at? (a::b::c::l) 2=some c:=rfl
theorem rm_41:(41≤roomMax)=True:=eq_true (by unfold roomMax;omega)
theorem rm_82:(82≤roomMax)=True:=eq_true (by unfold roomMax;omega)
theorem rm_123:(123≤roomMax)=True:=eq_true (by unfold roomMax;omega)
attribute [go_sem] at_0 at_1 at_2 rm_41 rm_82 rm_123
def nlC (t:Tbl):List AV:=[.str t.nm,.nils]
abbrev storeH (x:List Tbl):Heap:=[.cells [.rows (x.map tblC),.rows (x.map nlC),.nils]]
theorem r_NewStore (x:List Tbl) (h1:1≤x.length) (h3:x.length≤3):R K (.call 22 [schC x] [])=some (.ptr 0 0,storeH x):=by
 rcases x with _ | ⟨a,_ | ⟨b,_ | ⟨c,_ | ⟨d,x⟩⟩⟩⟩
 ·simp at h1
 ·simp only [storeH,List.map_cons,List.map_nil,tblC,nlC]
  rw [call_22]
  simp -implicitDefEqProofs only [go_sem,simprocAttr,Tryz.f22,tblC,nlC,List.map_cons,List.map_nil]
  rw [RL_eq]
  simp -implicitDefEqProofs only [go_sem,simprocAttr,tblC]
  rw [RL_eq]
  simp -implicitDefEqProofs only [go_sem,simprocAttr,tblC]
 ·simp only [storeH,List.map_cons,List.map_nil,tblC,nlC]
  rw [call_22]
  simp -implicitDefEqProofs only [go_sem,simprocAttr,Tryz.f22,tblC,nlC,List.map_cons,List.map_nil]
  rw [RL_eq]
  simp -implicitDefEqProofs only [go_sem,simprocAttr,tblC]
  rw [RL_eq]
  simp -implicitDefEqProofs only [go_sem,simprocAttr,tblC]
  rw [RL_eq]
  simp -implicitDefEqProofs only [go_sem,simprocAttr,tblC]
 ·simp only [storeH,List.map_cons,List.map_nil,tblC,nlC]
  rw [call_22]
  simp -implicitDefEqProofs only [go_sem,simprocAttr,Tryz.f22,tblC,nlC,List.map_cons,List.map_nil]
  rw [RL_eq]
  simp -implicitDefEqProofs only [go_sem,simprocAttr,tblC]
  rw [RL_eq]
  simp -implicitDefEqProofs only [go_sem,simprocAttr,tblC]
  rw [RL_eq]
  simp -implicitDefEqProofs only [go_sem,simprocAttr,tblC]
  rw [RL_eq]
  simp -implicitDefEqProofs only [go_sem,simprocAttr,tblC]
 ·simp at h3
def outD:Nat→List Dat→List (List AV)
 | _,[]=>[]
 | k,d::l=>[.str d.nm,.own k d.rows.length]::outD (k+1) l
def blkD (d:Dat):Blk:=.rows 1 (d.rows.map rowC) true
theorem c_copy (ds:List Dat) (h1:1≤ds.length) (h3:ds.length≤3) (hr:∀ d∈ds,d.rows.length≤1000):R K (.call 62 [datS ds] [])=some (.agg [.own 0 ds.length],.rows 2 (outD 1 ds) true::ds.map blkD):=by
 rcases ds with _ | ⟨a,_ | ⟨b,_ | ⟨c,_ | ⟨d,x⟩⟩⟩⟩
 ·simp at h1
 ·have h:=fun d (hd:d∈[a])=>c_clone2 d.rows (by have:=hr d hd;omega)
  have xa:=h a (by simp)
  simp only [outD,blkD,List.map_cons,List.map_nil,List.length_cons,List.length_nil]
  rw [call_62]
  simp -implicitDefEqProofs only [go_sem,simprocAttr,Tryz.f62,datC,xa]
  rw [RL_eq]
  simp -implicitDefEqProofs only [go_sem,simprocAttr,datC,xa]
  rw [RL_eq]
  simp -implicitDefEqProofs only [go_sem,simprocAttr,datC,xa]
 ·have h:=fun d (hd:d∈[a,b])=>c_clone2 d.rows (by have:=hr d hd;omega)
  have xa:=h a (by simp)
  have xb:=h b (by simp)
  simp only [outD,blkD,List.map_cons,List.map_nil,List.length_cons,List.length_nil]
  rw [call_62]
  simp -implicitDefEqProofs only [go_sem,simprocAttr,Tryz.f62,datC,xa,xb]
  rw [RL_eq]
  simp -implicitDefEqProofs only [go_sem,simprocAttr,datC,xa,xb]
  rw [RL_eq]
  simp -implicitDefEqProofs only [go_sem,simprocAttr,datC,xa,xb]
  rw [RL_eq]
  simp -implicitDefEqProofs only [go_sem,simprocAttr,datC,xa,xb]
 ·have h:=fun d (hd:d∈[a,b,c])=>c_clone2 d.rows (by have:=hr d hd;omega)
  have xa:=h a (by simp)
  have xb:=h b (by simp)
  have xc:=h c (by simp)
  simp only [outD,blkD,List.map_cons,List.map_nil,List.length_cons,List.length_nil]
  rw [call_62]
  simp -implicitDefEqProofs only [go_sem,simprocAttr,Tryz.f62,datC,xa,xb,xc]
  rw [RL_eq]
  simp -implicitDefEqProofs only [go_sem,simprocAttr,datC,xa,xb,xc]
  rw [RL_eq]
  simp -implicitDefEqProofs only [go_sem,simprocAttr,datC,xa,xb,xc]
  rw [RL_eq]
  simp -implicitDefEqProofs only [go_sem,simprocAttr,datC,xa,xb,xc]
  rw [RL_eq]
  simp -implicitDefEqProofs only [go_sem,simprocAttr,datC,xa,xb,xc]
 ·simp at h3
abbrev noD (x:List Tbl):List Dat:=x.map fun t=>⟨t.nm,[]⟩
theorem c_copyN (x:List Tbl) (h1:1≤x.length) (h3:x.length≤3):R K (.call 62 [.agg [.rows (x.map nlC)]] [])=some (.agg [.own 0 x.length],.rows 2 (outD 1 (noD x)) true::(noD x).map blkD):=by
 have xa:=c_clone2 [] (by simp)
 simp only [List.length_nil,List.map_nil] at xa
 rcases x with _ | ⟨a,_ | ⟨b,_ | ⟨c,_ | ⟨d,x⟩⟩⟩⟩
 ·simp at h1
 ·simp only [outD,blkD,nlC,List.map_cons,List.map_nil,List.length_cons,List.length_nil]
  rw [call_62]
  simp -implicitDefEqProofs only [go_sem,simprocAttr,Tryz.f62,xa]
  rw [RL_eq]
  simp -implicitDefEqProofs only [go_sem,simprocAttr,xa]
  rw [RL_eq]
  simp -implicitDefEqProofs only [go_sem,simprocAttr,xa]
 ·simp only [outD,blkD,nlC,List.map_cons,List.map_nil,List.length_cons,List.length_nil]
  rw [call_62]
  simp -implicitDefEqProofs only [go_sem,simprocAttr,Tryz.f62,xa]
  rw [RL_eq]
  simp -implicitDefEqProofs only [go_sem,simprocAttr,xa]
  rw [RL_eq]
  simp -implicitDefEqProofs only [go_sem,simprocAttr,xa]
  rw [RL_eq]
  simp -implicitDefEqProofs only [go_sem,simprocAttr,xa]
 ·simp only [outD,blkD,nlC,List.map_cons,List.map_nil,List.length_cons,List.length_nil]
  rw [call_62]
  simp -implicitDefEqProofs only [go_sem,simprocAttr,Tryz.f62,xa]
  rw [RL_eq]
  simp -implicitDefEqProofs only [go_sem,simprocAttr,xa]
  rw [RL_eq]
  simp -implicitDefEqProofs only [go_sem,simprocAttr,xa]
  rw [RL_eq]
  simp -implicitDefEqProofs only [go_sem,simprocAttr,xa]
  rw [RL_eq]
  simp -implicitDefEqProofs only [go_sem,simprocAttr,xa]
 ·simp at h3
abbrev txC (x:List Tbl) (ds:List Dat) (l m:Nat):List AV:=[.ptr l 0,I 0,.rows (x.map tblC),.rows (ds.map datC),.rows (x.map nlC),.mp m,.bool false,.bool false]
theorem r_Begin (x:List Tbl) (h1:1≤x.length) (h3:x.length≤3):R K (.call 23 [.ptr 0 0] (storeH x))=some (.ptr 1 0,storeH x++[.cells (txC x (noD x) 0 2),.map []]):=by
 have x0:=c_copyN x h1 h3
 rcases x with _ | ⟨a,_ | ⟨b,_ | ⟨c,_ | ⟨d,x⟩⟩⟩⟩
 ·simp at h1
 ·simp only [outD,blkD,nlC,List.map_cons,List.map_nil,List.length_cons,List.length_nil,storeH,Nat.reduceAdd,Nat.zero_add,txC,datC,tblC,List.cons_append,List.nil_append] at x0 ⊢
  rw [call_23]
  simp -implicitDefEqProofs only [go_sem,simprocAttr,Tryz.f23,x0,true_or,singles,single,locsL,locs]
 ·simp only [outD,blkD,nlC,List.map_cons,List.map_nil,List.length_cons,List.length_nil,storeH,Nat.reduceAdd,Nat.zero_add,txC,datC,tblC,List.cons_append,List.nil_append] at x0 ⊢
  rw [call_23]
  simp -implicitDefEqProofs only [go_sem,simprocAttr,Tryz.f23,x0,true_or,singles,single,locsL,locs]
 ·simp only [outD,blkD,nlC,List.map_cons,List.map_nil,List.length_cons,List.length_nil,storeH,Nat.reduceAdd,Nat.zero_add,txC,datC,tblC,List.cons_append,List.nil_append] at x0 ⊢
  rw [call_23]
  simp -implicitDefEqProofs only [go_sem,simprocAttr,Tryz.f23,x0,true_or,singles,single,locsL,locs]
 ·simp at h3
abbrev txH (x:List Tbl) (ds:List Dat) (es:List (AV×AV)):Heap:=[.cells (txC x ds 1 2),.cells [.rows (x.map tblC),.rows (x.map nlC),.nils],.map es]
theorem locsR_nlC:∀ l:List Tbl,locsR (l.map nlC)=[]
 | []=>rfl
 | x::l=>by simpa [nlC,locsR,locsL,locs] using locsR_nlC l
theorem renR_nlC (σ:Nat→Nat):∀ l:List Tbl,renR σ (l.map nlC)=l.map nlC
 | []=>rfl
 | x::l=>by
  simp only [List.map_cons,renR,renR_nlC σ l]
  rfl
theorem renR_dats (σ:Nat→Nat):∀ l:List Dat,renR σ (l.map datC)=l.map datC
 | []=>rfl
 | x::l=>by
  simp only [List.map_cons,renR,renR_dats σ l]
  rfl
attribute [go_sem] locsR_nlC renR_nlC renR_dats locsR_dats
structure Seen (x:List Tbl) (ds:List Dat) (nm:List UInt8) (w:Nat) (u:Tbl) (d:Dat):Prop where
 ix:ixN nm (x.map (·.nm)) 0=(w:Int)
 tb:x[w]? = some u
 da:ds[w]? = some d
theorem r_see (x:List Tbl) (ds:List Dat) (es:List (AV×AV)) (hx:x.length≤1000000) {nm:List UInt8} {w:Nat} {u:Tbl} {d:Dat} (h:Seen x ds nm w u d) :
  R K (.call 115 [.ptr 0 0,.str nm] (txH x ds es))=some (.tup [tblA u,.rptr (datC d) 0,I 0],txH x ds es):=by
 have xt:=r_TableAt x nm hx
 rw [h.ix] at xt
 have gu:=tbl_get h.tb
 have gd:=dat_at h.da
 have b0:¬(w:Int) < 0:=by omega
 simp only [txH,txC,tblA,tblC,datC] at gu gd ⊢
 rw [call_115]
 simp -implicitDefEqProofs only [go_sem,simprocAttr,Tryz.f115,xt,gu,gd,b0,tblC,datC]
def chC (nm:List UInt8) (r:List Val):List AV:=[I 1,.str nm,.rows [],vsA r]
theorem r_formOf (x:List Tbl) (ds:List Dat) (es:List (AV×AV)) (hx:x.length≤1000000) {nm:List UInt8} {w:Nat} {u:Tbl} {d:Dat} (h:Seen x ds nm w u d) (hu:u.cols.length≤1000000) (r:List Val) (hr:r.length≤1000000) :
  R K (.call 190 [.ptr 0 0,.rows [chC nm r]] (txH x ds es))=some (I (rowF true u r),txH x ds es):=by
 have xs:=r_see x ds es hx h
 have xr:=r_rowFault true u hu r hr
 have xw:R K (.call 187 [.int .i64 1,.int .i64 1,.int .i64 3] [])=some (.bool true,[]):=r_within 1 1 3
 simp only [txH,txC,tblA,tblC,datC] at xs xr ⊢
 by_cases h0:rowF true u r=0
 ·have b0:(rowF true u r==0)=true:=by simpa using h0
  rw [h0] at xr ⊢
  rw [call_190]
  simp -implicitDefEqProofs only [go_sem,simprocAttr,Tryz.f190,chC]
  rw [RL_eq]
  simp -implicitDefEqProofs only [go_sem,simprocAttr,chC,xs,xr,xw,bne]
  rw [RL_eq]
  simp -implicitDefEqProofs only [go_sem,simprocAttr,chC,xs,xr,xw,bne]
 ·have b0:(rowF true u r==0)=false:=by simpa using h0
  rw [call_190]
  simp -implicitDefEqProofs only [go_sem,simprocAttr,Tryz.f190,chC]
  rw [RL_eq]
  simp -implicitDefEqProofs only [go_sem,simprocAttr,chC,xs,xr,xw,bne,b0]
def SetE (es:List (AV×AV)):Prop:=∃ S,SetM es S
theorem SetE.put {es:List (AV×AV)} (h:SetE es) (k:List UInt8):∃ r,findA .str (.str k) es 0=some r∧SetE (mapPut es (.str k) (.bool true) r):=by
 obtain ⟨S,h⟩:=h
 obtain ⟨r,h1,_,_,h2⟩:=set_both h k
 exact ⟨r,h1,k::S,h2⟩
structure Noted (x:List Tbl) (u:Tbl) (r:List Val):Prop where
 cols:u.cols.length≤1000000
 row:r.length=u.cols.length
 key:NamesIn u u.key∧u.key.length≤1000000
 idx:u.idx.length≤1000000∧∀ y∈u.idx,NamesIn u y.cols∧y.cols.length≤1000000∧y.nm.length≤100000
 fgn:u.fgn.length≤1000000∧∀ f∈u.fgn,NamesIn u f.cols∧f.cols.length≤1000000∧f.tb.length≤100000
theorem l_note6 (x:List Tbl) (ds:List Dat) (nm:List UInt8) (hnm:nm.length≤100000) (u:Tbl) (r:List Val) (hn:Noted x u r) :
  ∀ (q j:Nat) (es:List (AV×AV)),u.idx.length=j+q→SetE es→∃ es',SetE es'∧∀ (ks:List It) (jj:Int) (Bo:Code),Loop Tryz.f191 6 Bo→jj=(j:Int) →
  RL K (.run 191 3 (.code Bo::.lp Bo (some ([0,5,6,23,24,25,105,106,107],[])) 5::.blk 6 5::ks) [(0,.ptr 0 0),(5,.ptr 3 0),(6,.ptr 4 0),(23,.rows [chC nm r]),(24,I 1),(25,I 0),(105,.rows (u.idx.map idxC)),(106,I (u.idx.length:Int)),(107,I jj)] (txH x ds es++[.cells (chC nm r),.cells (tblC u)])) =
  R K (.run 191 3 ks [(0,.ptr 0 0),(5,.ptr 3 0),(6,.ptr 4 0),(23,.rows [chC nm r]),(24,I 1),(25,I 0)] (txH x ds es'++[.cells (chC nm r),.cells (tblC u)]))
 | 0,j,es,hq,hS=>by
  have d:¬(j:Int) < (u.idx.length:Int):=by omega
  refine ⟨es,hS,fun ks jj Bo hB hj=>?_⟩
  subst hj
  simp only [txH,txC,chC,tblC,List.cons_append,List.nil_append]
  unfold Loop at hB
  simp -implicitDefEqProofs only [go_sem,simprocAttr,Tryz.f191,loopOf] at hB
  subst hB
  rw [RL_eq]
  simp -implicitDefEqProofs only [go_sem,simprocAttr,d,tblC,chC]
 | q+1,j,es,hq,hS=>by
  have d:(j:Int) < (u.idx.length:Int):=by omega
  have hil:=hn.idx.1
  have h7:=next_id (i:=j) (n:=u.idx.length) (by omega) (by omega)
  obtain ⟨y,hy⟩:=some_at (l:=u.idx) (i:=j) (by omega)
  have gy:=idx_get hy
  obtain ⟨n1,n2,n3⟩:=hn.idx.2 y (List.mem_of_getElem? hy)
  have xp:=r_picked u hn.cols r hn.row y.cols n1 n2
  obtain ⟨s,xm⟩:=r_mark [105,110,100,101,120] nm y.nm (pickV u y.cols r) (by simp) hnm n3 (by rw [pickV_len];exact n2)
  simp only [idxC] at gy
  simp only [tblA,tblC] at xp
  by_cases hc:y.uq=true∧nullV (pickV u y.cols r)=false
  ·obtain ⟨c1,c2⟩:=hc
   obtain ⟨v,hf,hS'⟩:=hS.put s
   obtain ⟨es',h',ih⟩:=l_note6 x ds nm hnm u r hn q (j+1) _ (by omega) hS'
   refine ⟨es',h',fun ks jj Bo hB hj=>?_⟩
   subst hj
   have ih:=ih ks _ Bo hB rfl
   rw [c2] at xp
   rw [c1] at gy
   simp only [txH,txC,chC,tblC,List.cons_append,List.nil_append] at ih ⊢
   unfold Loop at hB
   simp -implicitDefEqProofs only [go_sem,simprocAttr,Tryz.f191,loopOf] at hB
   subst hB
   rw [RL_eq]
   simp -implicitDefEqProofs only [go_sem,simprocAttr,d,h7,gy,xp,xm,hf,Bool.not_false,tblC,chC,idxC]
   exact ih
  ·obtain ⟨es',h',ih⟩:=l_note6 x ds nm hnm u r hn q (j+1) es (by omega) hS
   refine ⟨es',h',fun ks jj Bo hB hj=>?_⟩
   subst hj
   have ih:=ih ks _ Bo hB rfl
   simp only [txH,txC,chC,tblC,List.cons_append,List.nil_append] at ih ⊢
   cases hu:y.uq with
   | false =>
    rw [hu] at gy
    unfold Loop at hB
    simp -implicitDefEqProofs only [go_sem,simprocAttr,Tryz.f191,loopOf] at hB
    subst hB
    rw [RL_eq]
    simp -implicitDefEqProofs only [go_sem,simprocAttr,d,h7,gy,xp,xm,tblC,chC,idxC]
    exact ih
   | true =>
    have c2:nullV (pickV u y.cols r)=true:=by
     cases hv:nullV (pickV u y.cols r) with
     | true=>rfl
     | false=>exact absurd ⟨hu,hv⟩ hc
    rw [c2] at xp
    rw [hu] at gy
    unfold Loop at hB
    simp -implicitDefEqProofs only [go_sem,simprocAttr,Tryz.f191,loopOf] at hB
    subst hB
    rw [RL_eq]
    simp -implicitDefEqProofs only [go_sem,simprocAttr,d,h7,gy,xp,xm,Bool.not_true,tblC,chC,idxC]
    exact ih
theorem l_note8 (x:List Tbl) (ds:List Dat) (nm:List UInt8) (hnm:nm.length≤100000) (u:Tbl) (r:List Val) (hn:Noted x u r) :
  ∀ (q j:Nat) (es:List (AV×AV)),u.fgn.length=j+q→SetE es→∃ es',SetE es'∧∀ (ks:List It) (jj:Int) (Bo:Code),Loop Tryz.f191 8 Bo→jj=(j:Int) →
  RL K (.run 191 3 (.code Bo::.lp Bo (some ([0,5,6,23,24,25,137,138,139],[])) 5::.blk 8 5::ks) [(0,.ptr 0 0),(5,.ptr 3 0),(6,.ptr 4 0),(23,.rows [chC nm r]),(24,I 1),(25,I 0),(137,.rows (u.fgn.map fgnC)),(138,I (u.fgn.length:Int)),(139,I jj)] (txH x ds es++[.cells (chC nm r),.cells (tblC u)])) =
  R K (.run 191 3 ks [(0,.ptr 0 0),(23,.rows [chC nm r]),(24,I 1),(25,I 0)] (txH x ds es'++[.cells (chC nm r),.cells (tblC u)]))
 | 0,j,es,hq,hS=>by
  have d:¬(j:Int) < (u.fgn.length:Int):=by omega
  refine ⟨es,hS,fun ks jj Bo hB hj=>?_⟩
  subst hj
  simp only [txH,txC,chC,tblC,List.cons_append,List.nil_append]
  unfold Loop at hB
  simp -implicitDefEqProofs only [go_sem,simprocAttr,Tryz.f191,loopOf] at hB
  subst hB
  rw [RL_eq]
  simp -implicitDefEqProofs only [go_sem,simprocAttr,d,tblC,chC]
 | q+1,j,es,hq,hS=>by
  have d:(j:Int) < (u.fgn.length:Int):=by omega
  have hil:=hn.fgn.1
  have h7:=next_id (i:=j) (n:=u.fgn.length) (by omega) (by omega)
  obtain ⟨f,hy⟩:=some_at (l:=u.fgn) (i:=j) (by omega)
  have gy:=fgn_get hy
  obtain ⟨n1,n2,n3⟩:=hn.fgn.2 f (List.mem_of_getElem? hy)
  have xp:=r_picked u hn.cols r hn.row f.cols n1 n2
  obtain ⟨s,xm⟩:=r_mark [107,101,121] f.tb [] (pickV u f.cols r) (by simp) n3 (by simp) (by rw [pickV_len];exact n2)
  simp only [fgnC] at gy
  simp only [tblA,tblC] at xp
  cases hv:nullV (pickV u f.cols r) with
  | false =>
   obtain ⟨v,hf,hS'⟩:=hS.put s
   obtain ⟨es',h',ih⟩:=l_note8 x ds nm hnm u r hn q (j+1) _ (by omega) hS'
   refine ⟨es',h',fun ks jj Bo hB hj=>?_⟩
   subst hj
   have ih:=ih ks _ Bo hB rfl
   rw [hv] at xp
   simp only [txH,txC,chC,tblC,List.cons_append,List.nil_append] at ih ⊢
   unfold Loop at hB
   simp -implicitDefEqProofs only [go_sem,simprocAttr,Tryz.f191,loopOf] at hB
   subst hB
   rw [RL_eq]
   simp -implicitDefEqProofs only [go_sem,simprocAttr,d,h7,gy,xp,xm,hf,Bool.not_false,tblC,chC,fgnC]
   exact ih
  | true =>
   obtain ⟨es',h',ih⟩:=l_note8 x ds nm hnm u r hn q (j+1) es (by omega) hS
   refine ⟨es',h',fun ks jj Bo hB hj=>?_⟩
   subst hj
   have ih:=ih ks _ Bo hB rfl
   rw [hv] at xp
   simp only [txH,txC,chC,tblC,List.cons_append,List.nil_append] at ih ⊢
   unfold Loop at hB
   simp -implicitDefEqProofs only [go_sem,simprocAttr,Tryz.f191,loopOf] at hB
   subst hB
   rw [RL_eq]
   simp -implicitDefEqProofs only [go_sem,simprocAttr,d,h7,gy,xp,xm,Bool.not_true,tblC,chC,fgnC]
   exact ih
theorem r_note (x:List Tbl) (ds:List Dat) (es:List (AV×AV)) (hS:SetE es) (hx:x.length≤1000000) {nm:List UInt8} (hnm:nm.length≤100000) {w:Nat} {u:Tbl} {d:Dat} (h:Seen x ds nm w u d) (r:List Val) (hn:Noted x u r) :
  ∃ es',SetE es'∧R K (.call 191 [.ptr 0 0,.rows [chC nm r]] (txH x ds es))=some (.tup [],txH x ds es'):=by
 have xs:=fun es=>r_see x ds es hx h
 obtain ⟨k1,k2⟩:=hn.key
 have xp:=r_picked u hn.cols r hn.row u.key k1 k2
 obtain ⟨s,xm⟩:=r_mark [107,101,121] nm [] (pickV u u.key r) (by simp) hnm (by simp) (by rw [pickV_len];exact k2)
 obtain ⟨v,hf,hS'⟩:=hS.put s
 obtain ⟨es1,h1,l6⟩:=l_note6 x ds nm hnm u r hn u.idx.length 0 _ (by omega) hS'
 obtain ⟨es2,h2,l8⟩:=l_note8 x ds nm hnm u r hn u.fgn.length 0 es1 (by omega) h1
 refine ⟨es2,h2,?_⟩
 have l6:=fun ks B hB=>l6 ks 0 B hB rfl
 have l8:=fun ks B hB=>l8 ks 0 B hB rfl
 simp only [txH,txC,tblA,chC,tblC,datC,mapPut,List.cons_append,List.nil_append] at xs xp l6 l8 ⊢
 rw [call_191]
 simp -implicitDefEqProofs only [go_sem,simprocAttr,Tryz.f191,chC]
 rw [RL_eq]
 simp -implicitDefEqProofs only [go_sem,simprocAttr,chC,tblC,datC,xs,xp,xm,hf,List.length_map]
 rw [l6 _ _ ?_]
 ·simp -implicitDefEqProofs only [go_sem,simprocAttr,chC,tblC,List.length_map]
  rw [l8 _ _ ?_]
  ·simp -implicitDefEqProofs only [go_sem,simprocAttr,chC,tblC]
   rw [RL_eq]
   simp -implicitDefEqProofs only [go_sem,simprocAttr,chC,tblC]
  ·rfl
 ·rfl
theorem c_cloneV (r:List Val) (hl:r.length≤1000000):R K (.call 30 [.rows (r.map vC)] [])=some (.own 0 r.length,[.rows 3 (r.map vC) true]):=by
 cases r with
 | nil=>exact R_primH rfl rfl
 | cons a r =>
  have rm:((r.length+1)*33≤roomMax)=True:=eq_true (by unfold roomMax;simp at hl;omega)
  have al:=allLen_vs (a::r)
  have lr:=locsR_vs (a::r)
  simp only [List.map_cons] at al lr
  have ar:=allLen_vs r
  have l1:((vC a).length==3)=true:=rfl
  have lL:locsL (vC a)=[]:=rfl
  rw [List.map_cons,call_30 rfl rfl]
  simp -implicitDefEqProofs only [go_sem,simprocAttr,Tryz.f30,locsR_vs,rm,al,ar,l1,lr,lL,Bool.and_true,List.isEmpty_cons,List.length_cons,List.length_map,List.length_nil,Nat.zero_add,List.nil_append,Nat.zero_lt_succ]
attribute [go_sem] afterMany outer back locsR_vs
theorem r_moved10 (x:List Tbl) (a:Dat) (es:List (AV×AV)) (hx:x.length≤1000000) {nm:List UInt8} (hnm:nm.length≤100000) {u:Tbl} (hw:ixN nm (x.map (·.nm)) 0=0) (hu:x[0]? = some u) (hr:∀ d∈[a],d.rows.length≤1000)
  (h1:u.cols.length≤1000000) (h2:u.key.length≤1000000) (h3:NamesIn u u.key) (hs:a.rows.length < 19) (hf:RowsFit u a.rows) (r:List Val) (hr1:1≤r.length) (hrl:r.length=u.cols.length) :
  ∃ rs,Shuf (a.rows++[r]) rs∧R K (.call 192 [.ptr 0 0,.rows [chC nm r]] (txH x [a] es))=some (.tup [datS [⟨a.nm,rs⟩],I 0],txH x [a] es):=by
 have xt:=r_TableAt x nm hx
 rw [hw] at xt
 have gu:at? (x.map tblC) 0=some (tblC u):=tbl_get hu
 obtain ⟨s,xm⟩:∃ s,R K (.call 68 [.str [107,101,121],.str nm,.str [],.rows []] [])=some (.str s,[]):=r_mark [107,101,121] nm [] [] (by simp) hnm (by simp) (by simp)
 have xc:=c_copy [a] (by simp) (by simp) hr
 have xv:=c_cloneV r (by omega)
 have ra:=rows_app a.rows r
 have rm:((a.rows.length+1)*25≤roomMax)=True:=eq_true (by unfold roomMax;omega)
 obtain ⟨rs,m,xs⟩:=r_SortRows u h1 h2 h3 (a.rows++[r]) (by simp;omega) (fun o ho=>by
  rcases List.mem_append.1 ho with h | h
  ·exact hf o h
  ·rw [List.mem_singleton] at h;rw [h];exact hrl)
 have ml:=m.1
 refine ⟨rs,m,?_⟩
 simp only [outD,blkD,datS,datC,tblA,tblC,rowC,txH,txC,chC,List.map_cons,List.map_nil,List.length_append,List.length_cons,List.length_nil,Nat.reduceAdd,Nat.zero_add] at xc gu xs ml ra ⊢
 rw [call_192]
 simp -implicitDefEqProofs only [go_sem,simprocAttr,Tryz.f192,chC]
 rw [RL_eq]
 simp -implicitDefEqProofs only [go_sem,simprocAttr,chC,xm]
 rw [RL_eq]
 simp -implicitDefEqProofs only [go_sem,simprocAttr,chC,xc]
 rw [RL_eq]
 simp -implicitDefEqProofs only [go_sem,simprocAttr,chC,xt,gu,tblC,datC]
 rw [RL_eq]
 simp -implicitDefEqProofs only [go_sem,simprocAttr,chC]
 rw [RL_eq]
 simp -implicitDefEqProofs only [go_sem,simprocAttr,chC,xt,gu,xv,xs,ra,rm,ml,tblC,datC,rowC,true_or]
 rw [RL_eq]
 simp -implicitDefEqProofs only [go_sem,simprocAttr,chC,datC,rowC,true_or,ml,singles,single,locsL,locs]
theorem r_moved20 (x:List Tbl) (a b:Dat) (es:List (AV×AV)) (hx:x.length≤1000000) {nm:List UInt8} (hnm:nm.length≤100000) {u:Tbl} (hw:ixN nm (x.map (·.nm)) 0=0) (hu:x[0]? = some u) (hr:∀ d∈[a,b],d.rows.length≤1000)
  (h1:u.cols.length≤1000000) (h2:u.key.length≤1000000) (h3:NamesIn u u.key) (hs:a.rows.length < 19) (hf:RowsFit u a.rows) (r:List Val) (hr1:1≤r.length) (hrl:r.length=u.cols.length) :
  ∃ rs,Shuf (a.rows++[r]) rs∧R K (.call 192 [.ptr 0 0,.rows [chC nm r]] (txH x [a,b] es))=some (.tup [datS [⟨a.nm,rs⟩,b],I 0],txH x [a,b] es):=by
 have xt:=r_TableAt x nm hx
 rw [hw] at xt
 have gu:at? (x.map tblC) 0=some (tblC u):=tbl_get hu
 obtain ⟨s,xm⟩:∃ s,R K (.call 68 [.str [107,101,121],.str nm,.str [],.rows []] [])=some (.str s,[]):=r_mark [107,101,121] nm [] [] (by simp) hnm (by simp) (by simp)
 have xc:=c_copy [a,b] (by simp) (by simp) hr
 have xv:=c_cloneV r (by omega)
 have ra:=rows_app a.rows r
 have rm:((a.rows.length+1)*25≤roomMax)=True:=eq_true (by unfold roomMax;omega)
 obtain ⟨rs,m,xs⟩:=r_SortRows u h1 h2 h3 (a.rows++[r]) (by simp;omega) (fun o ho=>by
  rcases List.mem_append.1 ho with h | h
  ·exact hf o h
  ·rw [List.mem_singleton] at h;rw [h];exact hrl)
 have ml:=m.1
 refine ⟨rs,m,?_⟩
 simp only [outD,blkD,datS,datC,tblA,tblC,rowC,txH,txC,chC,List.map_cons,List.map_nil,List.length_append,List.length_cons,List.length_nil,Nat.reduceAdd,Nat.zero_add] at xc gu xs ml ra ⊢
 rw [call_192]
 simp -implicitDefEqProofs only [go_sem,simprocAttr,Tryz.f192,chC]
 rw [RL_eq]
 simp -implicitDefEqProofs only [go_sem,simprocAttr,chC,xm]
 rw [RL_eq]
 simp -implicitDefEqProofs only [go_sem,simprocAttr,chC,xc]
 rw [RL_eq]
 simp -implicitDefEqProofs only [go_sem,simprocAttr,chC,xt,gu,tblC,datC]
 rw [RL_eq]
 simp -implicitDefEqProofs only [go_sem,simprocAttr,chC]
 rw [RL_eq]
 simp -implicitDefEqProofs only [go_sem,simprocAttr,chC,xt,gu,xv,xs,ra,rm,ml,tblC,datC,rowC,true_or]
 rw [RL_eq]
 simp -implicitDefEqProofs only [go_sem,simprocAttr,chC,datC,rowC,true_or,ml,singles,single,locsL,locs]
theorem r_moved21 (x:List Tbl) (a b:Dat) (es:List (AV×AV)) (hx:x.length≤1000000) {nm:List UInt8} (hnm:nm.length≤100000) {u:Tbl} (hw:ixN nm (x.map (·.nm)) 0=1) (hu:x[1]? = some u) (hr:∀ d∈[a,b],d.rows.length≤1000)
  (h1:u.cols.length≤1000000) (h2:u.key.length≤1000000) (h3:NamesIn u u.key) (hs:b.rows.length < 19) (hf:RowsFit u b.rows) (r:List Val) (hr1:1≤r.length) (hrl:r.length=u.cols.length) :
  ∃ rs,Shuf (b.rows++[r]) rs∧R K (.call 192 [.ptr 0 0,.rows [chC nm r]] (txH x [a,b] es))=some (.tup [datS [a,⟨b.nm,rs⟩],I 0],txH x [a,b] es):=by
 have xt:=r_TableAt x nm hx
 rw [hw] at xt
 have gu:at? (x.map tblC) 1=some (tblC u):=tbl_get hu
 obtain ⟨s,xm⟩:∃ s,R K (.call 68 [.str [107,101,121],.str nm,.str [],.rows []] [])=some (.str s,[]):=r_mark [107,101,121] nm [] [] (by simp) hnm (by simp) (by simp)
 have xc:=c_copy [a,b] (by simp) (by simp) hr
 have xv:=c_cloneV r (by omega)
 have ra:=rows_app b.rows r
 have rm:((b.rows.length+1)*25≤roomMax)=True:=eq_true (by unfold roomMax;omega)
 obtain ⟨rs,m,xs⟩:=r_SortRows u h1 h2 h3 (b.rows++[r]) (by simp;omega) (fun o ho=>by
  rcases List.mem_append.1 ho with h | h
  ·exact hf o h
  ·rw [List.mem_singleton] at h;rw [h];exact hrl)
 have ml:=m.1
 refine ⟨rs,m,?_⟩
 simp only [outD,blkD,datS,datC,tblA,tblC,rowC,txH,txC,chC,List.map_cons,List.map_nil,List.length_append,List.length_cons,List.length_nil,Nat.reduceAdd,Nat.zero_add] at xc gu xs ml ra ⊢
 rw [call_192]
 simp -implicitDefEqProofs only [go_sem,simprocAttr,Tryz.f192,chC]
 rw [RL_eq]
 simp -implicitDefEqProofs only [go_sem,simprocAttr,chC,xm]
 rw [RL_eq]
 simp -implicitDefEqProofs only [go_sem,simprocAttr,chC,xc]
 rw [RL_eq]
 simp -implicitDefEqProofs only [go_sem,simprocAttr,chC,xt,gu,tblC,datC]
 rw [RL_eq]
 simp -implicitDefEqProofs only [go_sem,simprocAttr,chC]
 rw [RL_eq]
 simp -implicitDefEqProofs only [go_sem,simprocAttr,chC,xt,gu,xv,xs,ra,rm,ml,tblC,datC,rowC,true_or]
 rw [RL_eq]
 simp -implicitDefEqProofs only [go_sem,simprocAttr,chC,datC,rowC,true_or,ml,singles,single,locsL,locs]
theorem r_moved30 (x:List Tbl) (a b c:Dat) (es:List (AV×AV)) (hx:x.length≤1000000) {nm:List UInt8} (hnm:nm.length≤100000) {u:Tbl} (hw:ixN nm (x.map (·.nm)) 0=0) (hu:x[0]? = some u) (hr:∀ d∈[a,b,c],d.rows.length≤1000)
  (h1:u.cols.length≤1000000) (h2:u.key.length≤1000000) (h3:NamesIn u u.key) (hs:a.rows.length < 19) (hf:RowsFit u a.rows) (r:List Val) (hr1:1≤r.length) (hrl:r.length=u.cols.length) :
  ∃ rs,Shuf (a.rows++[r]) rs∧R K (.call 192 [.ptr 0 0,.rows [chC nm r]] (txH x [a,b,c] es))=some (.tup [datS [⟨a.nm,rs⟩,b,c],I 0],txH x [a,b,c] es):=by
 have xt:=r_TableAt x nm hx
 rw [hw] at xt
 have gu:at? (x.map tblC) 0=some (tblC u):=tbl_get hu
 obtain ⟨s,xm⟩:∃ s,R K (.call 68 [.str [107,101,121],.str nm,.str [],.rows []] [])=some (.str s,[]):=r_mark [107,101,121] nm [] [] (by simp) hnm (by simp) (by simp)
 have xc:=c_copy [a,b,c] (by simp) (by simp) hr
 have xv:=c_cloneV r (by omega)
 have ra:=rows_app a.rows r
 have rm:((a.rows.length+1)*25≤roomMax)=True:=eq_true (by unfold roomMax;omega)
 obtain ⟨rs,m,xs⟩:=r_SortRows u h1 h2 h3 (a.rows++[r]) (by simp;omega) (fun o ho=>by
  rcases List.mem_append.1 ho with h | h
  ·exact hf o h
  ·rw [List.mem_singleton] at h;rw [h];exact hrl)
 have ml:=m.1
 refine ⟨rs,m,?_⟩
 simp only [outD,blkD,datS,datC,tblA,tblC,rowC,txH,txC,chC,List.map_cons,List.map_nil,List.length_append,List.length_cons,List.length_nil,Nat.reduceAdd,Nat.zero_add] at xc gu xs ml ra ⊢
 rw [call_192]
 simp -implicitDefEqProofs only [go_sem,simprocAttr,Tryz.f192,chC]
 rw [RL_eq]
 simp -implicitDefEqProofs only [go_sem,simprocAttr,chC,xm]
 rw [RL_eq]
 simp -implicitDefEqProofs only [go_sem,simprocAttr,chC,xc]
 rw [RL_eq]
 simp -implicitDefEqProofs only [go_sem,simprocAttr,chC,xt,gu,tblC,datC]
 rw [RL_eq]
 simp -implicitDefEqProofs only [go_sem,simprocAttr,chC]
 rw [RL_eq]
 simp -implicitDefEqProofs only [go_sem,simprocAttr,chC,xt,gu,xv,xs,ra,rm,ml,tblC,datC,rowC,true_or]
 rw [RL_eq]
 simp -implicitDefEqProofs only [go_sem,simprocAttr,chC,datC,rowC,true_or,ml,singles,single,locsL,locs]
theorem r_moved31 (x:List Tbl) (a b c:Dat) (es:List (AV×AV)) (hx:x.length≤1000000) {nm:List UInt8} (hnm:nm.length≤100000) {u:Tbl} (hw:ixN nm (x.map (·.nm)) 0=1) (hu:x[1]? = some u) (hr:∀ d∈[a,b,c],d.rows.length≤1000)
  (h1:u.cols.length≤1000000) (h2:u.key.length≤1000000) (h3:NamesIn u u.key) (hs:b.rows.length < 19) (hf:RowsFit u b.rows) (r:List Val) (hr1:1≤r.length) (hrl:r.length=u.cols.length) :
  ∃ rs,Shuf (b.rows++[r]) rs∧R K (.call 192 [.ptr 0 0,.rows [chC nm r]] (txH x [a,b,c] es))=some (.tup [datS [a,⟨b.nm,rs⟩,c],I 0],txH x [a,b,c] es):=by
 have xt:=r_TableAt x nm hx
 rw [hw] at xt
 have gu:at? (x.map tblC) 1=some (tblC u):=tbl_get hu
 obtain ⟨s,xm⟩:∃ s,R K (.call 68 [.str [107,101,121],.str nm,.str [],.rows []] [])=some (.str s,[]):=r_mark [107,101,121] nm [] [] (by simp) hnm (by simp) (by simp)
 have xc:=c_copy [a,b,c] (by simp) (by simp) hr
 have xv:=c_cloneV r (by omega)
 have ra:=rows_app b.rows r
 have rm:((b.rows.length+1)*25≤roomMax)=True:=eq_true (by unfold roomMax;omega)
 obtain ⟨rs,m,xs⟩:=r_SortRows u h1 h2 h3 (b.rows++[r]) (by simp;omega) (fun o ho=>by
  rcases List.mem_append.1 ho with h | h
  ·exact hf o h
  ·rw [List.mem_singleton] at h;rw [h];exact hrl)
 have ml:=m.1
 refine ⟨rs,m,?_⟩
 simp only [outD,blkD,datS,datC,tblA,tblC,rowC,txH,txC,chC,List.map_cons,List.map_nil,List.length_append,List.length_cons,List.length_nil,Nat.reduceAdd,Nat.zero_add] at xc gu xs ml ra ⊢
 rw [call_192]
 simp -implicitDefEqProofs only [go_sem,simprocAttr,Tryz.f192,chC]
 rw [RL_eq]
 simp -implicitDefEqProofs only [go_sem,simprocAttr,chC,xm]
 rw [RL_eq]
 simp -implicitDefEqProofs only [go_sem,simprocAttr,chC,xc]
 rw [RL_eq]
 simp -implicitDefEqProofs only [go_sem,simprocAttr,chC,xt,gu,tblC,datC]
 rw [RL_eq]
 simp -implicitDefEqProofs only [go_sem,simprocAttr,chC]
 rw [RL_eq]
 simp -implicitDefEqProofs only [go_sem,simprocAttr,chC,xt,gu,xv,xs,ra,rm,ml,tblC,datC,rowC,true_or]
 rw [RL_eq]
 simp -implicitDefEqProofs only [go_sem,simprocAttr,chC,datC,rowC,true_or,ml,singles,single,locsL,locs]
theorem r_moved32 (x:List Tbl) (a b c:Dat) (es:List (AV×AV)) (hx:x.length≤1000000) {nm:List UInt8} (hnm:nm.length≤100000) {u:Tbl} (hw:ixN nm (x.map (·.nm)) 0=2) (hu:x[2]? = some u) (hr:∀ d∈[a,b,c],d.rows.length≤1000)
  (h1:u.cols.length≤1000000) (h2:u.key.length≤1000000) (h3:NamesIn u u.key) (hs:c.rows.length < 19) (hf:RowsFit u c.rows) (r:List Val) (hr1:1≤r.length) (hrl:r.length=u.cols.length) :
  ∃ rs,Shuf (c.rows++[r]) rs∧R K (.call 192 [.ptr 0 0,.rows [chC nm r]] (txH x [a,b,c] es))=some (.tup [datS [a,b,⟨c.nm,rs⟩],I 0],txH x [a,b,c] es):=by
 have xt:=r_TableAt x nm hx
 rw [hw] at xt
 have gu:at? (x.map tblC) 2=some (tblC u):=tbl_get hu
 obtain ⟨s,xm⟩:∃ s,R K (.call 68 [.str [107,101,121],.str nm,.str [],.rows []] [])=some (.str s,[]):=r_mark [107,101,121] nm [] [] (by simp) hnm (by simp) (by simp)
 have xc:=c_copy [a,b,c] (by simp) (by simp) hr
 have xv:=c_cloneV r (by omega)
 have ra:=rows_app c.rows r
 have rm:((c.rows.length+1)*25≤roomMax)=True:=eq_true (by unfold roomMax;omega)
 obtain ⟨rs,m,xs⟩:=r_SortRows u h1 h2 h3 (c.rows++[r]) (by simp;omega) (fun o ho=>by
  rcases List.mem_append.1 ho with h | h
  ·exact hf o h
  ·rw [List.mem_singleton] at h;rw [h];exact hrl)
 have ml:=m.1
 refine ⟨rs,m,?_⟩
 simp only [outD,blkD,datS,datC,tblA,tblC,rowC,txH,txC,chC,List.map_cons,List.map_nil,List.length_append,List.length_cons,List.length_nil,Nat.reduceAdd,Nat.zero_add] at xc gu xs ml ra ⊢
 rw [call_192]
 simp -implicitDefEqProofs only [go_sem,simprocAttr,Tryz.f192,chC]
 rw [RL_eq]
 simp -implicitDefEqProofs only [go_sem,simprocAttr,chC,xm]
 rw [RL_eq]
 simp -implicitDefEqProofs only [go_sem,simprocAttr,chC,xc]
 rw [RL_eq]
 simp -implicitDefEqProofs only [go_sem,simprocAttr,chC,xt,gu,tblC,datC]
 rw [RL_eq]
 simp -implicitDefEqProofs only [go_sem,simprocAttr,chC]
 rw [RL_eq]
 simp -implicitDefEqProofs only [go_sem,simprocAttr,chC,xt,gu,xv,xs,ra,rm,ml,tblC,datC,rowC,true_or]
 rw [RL_eq]
 simp -implicitDefEqProofs only [go_sem,simprocAttr,chC,datC,rowC,true_or,ml,singles,single,locsL,locs]
theorem r_moved (x:List Tbl) (ds:List Dat) (es:List (AV×AV)) (hx:x.length≤1000000) (d1:1≤ds.length) (d3:ds.length≤3) {nm:List UInt8} (hnm:nm.length≤100000) {w:Nat} {u:Tbl} {d:Dat} (h:Seen x ds nm w u d) (hr:∀ d∈ds,d.rows.length≤1000)
  (h1:u.cols.length≤1000000) (h2:u.key.length≤1000000) (h3:NamesIn u u.key) (hs:d.rows.length < 19) (hf:RowsFit u d.rows) (r:List Val) (hr1:1≤r.length) (hrl:r.length=u.cols.length) :
  ∃ rs,Shuf (d.rows++[r]) rs∧R K (.call 192 [.ptr 0 0,.rows [chC nm r]] (txH x ds es))=some (.tup [datS (ds.set w ⟨d.nm,rs⟩),I 0],txH x ds es):=by
 rcases ds with _ | ⟨a,_ | ⟨b,_ | ⟨c,_ | ⟨d',ds⟩⟩⟩⟩
 ·simp at d1
 ·rcases w with _ | w
  ·obtain rfl:a=d:=Option.some.inj h.da
   exact r_moved10 x a es hx hnm h.ix h.tb hr h1 h2 h3 hs hf r hr1 hrl
  ·exact absurd h.da (by simp)
 ·rcases w with _ | _ | w
  ·obtain rfl:a=d:=Option.some.inj h.da
   exact r_moved20 x a b es hx hnm h.ix h.tb hr h1 h2 h3 hs hf r hr1 hrl
  ·obtain rfl:b=d:=Option.some.inj h.da
   exact r_moved21 x a b es hx hnm h.ix h.tb hr h1 h2 h3 hs hf r hr1 hrl
  ·exact absurd h.da (by simp)
 ·rcases w with _ | _ | _ | w
  ·obtain rfl:a=d:=Option.some.inj h.da
   exact r_moved30 x a b c es hx hnm h.ix h.tb hr h1 h2 h3 hs hf r hr1 hrl
  ·obtain rfl:b=d:=Option.some.inj h.da
   exact r_moved31 x a b c es hx hnm h.ix h.tb hr h1 h2 h3 hs hf r hr1 hrl
  ·obtain rfl:c=d:=Option.some.inj h.da
   exact r_moved32 x a b c es hx hnm h.ix h.tb hr h1 h2 h3 hs hf r hr1 hrl
  ·exact absurd h.da (by simp)
 ·simp at d3
theorem l_kf0 (t:Tbl) (ht:t.cols.length≤1000000) (hk:t.key.length≤1000000) (hN:NamesIn t t.key) (rs:List (List Val)) (hrs:RowsFit t rs) (hl:rs.length≤1000000) :
  ∀ (q j:Nat),rs.length≤j+1+q→∃ o:Option Int,∀ (ks:List It) (jj:Int) (Bo:Code),Loop Tryz.f89 0 Bo→jj=((j+1:Nat):Int) →
  RL K (.run 89 0 (.code Bo::.lp Bo (some ([1,2,5],[])) 1::.blk 0 1::ks) [(1,.rows (rs.map rowC)),(2,.ptr 0 0),(5,I jj)] [.cells (tblC t)]) =
  match o with
  | some e=>some (I e,[])
  | none=>R K (.run 89 0 ks [(1,.rows (rs.map rowC)),(2,.ptr 0 0)] [.cells (tblC t)])
 | 0,j,hq=>by
  have d:¬((j+1:Nat):Int) < (rs.length:Int):=by omega
  refine ⟨none,fun ks jj Bo hB hj=>?_⟩
  subst hj
  unfold Loop at hB
  simp -implicitDefEqProofs only [go_sem,simprocAttr,Tryz.f89,loopOf] at hB
  subst hB
  rw [RL_eq]
  simp -implicitDefEqProofs only [go_sem,simprocAttr,d,tblC,List.length_map]
 | q+1,j,hq=>by
  by_cases d:((j+1:Nat):Int) < (rs.length:Int)
  ·have h7:=next_id (i:=j+1) (n:=rs.length) (by omega) (by omega)
   have h6:wrapI .i64 (((j+1:Nat):Int) - 1)=(j:Int):=by rw [wrap_id (by omega) (by omega)];omega
   obtain ⟨a,ha⟩:=some_at (l:=rs) (i:=j) (by omega)
   obtain ⟨b,hb⟩:=some_at (l:=rs) (i:=j+1) (by omega)
   have ga:=row_at ha
   have gb:=row_at hb
   have xa:=r_picked t ht a (hrs a (List.mem_of_getElem? ha)) t.key hN hk
   have xb:=r_picked t ht b (hrs b (List.mem_of_getElem? hb)) t.key hN hk
   obtain ⟨c,xc⟩:=r_ComparedLists (pickV t t.key a) (pickV t t.key b) (by rw [pickV_len];exact hk) (by rw [pickV_len];exact hk)
   simp only [rowC] at ga gb
   simp only [tblA,tblC] at xa xb
   by_cases c1:0 < c
   ·refine ⟨some 7,fun ks jj Bo hB hj=>?_⟩
    subst hj
    unfold Loop at hB
    simp -implicitDefEqProofs only [go_sem,simprocAttr,Tryz.f89,loopOf] at hB
    subst hB
    rw [RL_eq]
    simp -implicitDefEqProofs only [go_sem,simprocAttr,d,h6,ga,gb,xa,xb,xc,c1,tblC,rowC,List.length_map]
   ·by_cases c2:c=0
    ·refine ⟨some 10,fun ks jj Bo hB hj=>?_⟩
     subst hj
     have b2:(c==0)=true:=by simpa using c2
     unfold Loop at hB
     simp -implicitDefEqProofs only [go_sem,simprocAttr,Tryz.f89,loopOf] at hB
     subst hB
     rw [RL_eq]
     simp -implicitDefEqProofs only [go_sem,simprocAttr,d,h6,ga,gb,xa,xb,xc,c1,b2,tblC,rowC,List.length_map]
    ·have b2:(c==0)=false:=by simpa using c2
     obtain ⟨o,ih⟩:=l_kf0 t ht hk hN rs hrs hl q (j+1) (by omega)
     refine ⟨o,fun ks jj Bo hB hj=>?_⟩
     subst hj
     have ih:=ih ks _ Bo hB rfl
     simp only [tblC] at ih
     unfold Loop at hB
     simp -implicitDefEqProofs only [go_sem,simprocAttr,Tryz.f89,loopOf] at hB
     subst hB
     rw [RL_eq]
     simp -implicitDefEqProofs only [go_sem,simprocAttr,d,h6,h7,ga,gb,xa,xb,xc,c1,b2,tblC,rowC,List.length_map]
     exact ih
  ·refine ⟨none,fun ks jj Bo hB hj=>?_⟩
   subst hj
   unfold Loop at hB
   simp -implicitDefEqProofs only [go_sem,simprocAttr,Tryz.f89,loopOf] at hB
   subst hB
   rw [RL_eq]
   simp -implicitDefEqProofs only [go_sem,simprocAttr,d,tblC,List.length_map]
theorem l_uf2 (t:Tbl) (ht:t.cols.length≤1000000) (y:Idx) (hN:NamesIn t y.cols) (hk:y.cols.length≤1000000) (rs:List (List Val)) (hrs:RowsFit t rs) (hl:rs.length≤1000000) (l:List Idx) (i:Int) :
  ∀ (q j:Nat) (es:List (AV×AV)) (S:List (List UInt8)),rs.length=j+q→SetM es S→∃ (o:Option Int) (es':List (AV×AV)),∀ (ks:List It) (jj:Int) (Bo:Code),Loop Tryz.f148 2 Bo→jj=(j:Int) →
  RL K (.run 148 0 (.code Bo::.lp Bo (some ([1,2,6,7,14,15,16,21,22,23],[])) 3::.blk 2 3::ks) [(1,.rows (rs.map rowC)),(2,.ptr 0 0),(6,.ptr 1 0),(7,.mp 2),(14,.rows (l.map idxC)),(15,I (l.length:Int)),(16,I i),(21,.rows (rs.map rowC)),(22,I (rs.length:Int)),(23,I jj)] [.cells (tblC t),.cells (idxC y),.map es]) =
  match o with
  | some e=>some (I e,[])
  | none=>R K (.run 148 0 ks [(1,.rows (rs.map rowC)),(2,.ptr 0 0),(14,.rows (l.map idxC)),(15,I (l.length:Int)),(16,I i)] [.cells (tblC t),.cells (idxC y),.map es'])
 | 0,j,es,S,hq,hS=>by
  have d:¬(j:Int) < (rs.length:Int):=by omega
  refine ⟨none,es,fun ks jj Bo hB hj=>?_⟩
  subst hj
  unfold Loop at hB
  simp -implicitDefEqProofs only [go_sem,simprocAttr,Tryz.f148,loopOf] at hB
  subst hB
  rw [RL_eq]
  simp -implicitDefEqProofs only [go_sem,simprocAttr,d,tblC,idxC,List.length_map]
 | q+1,j,es,S,hq,hS=>by
  have d:(j:Int) < (rs.length:Int):=by omega
  have h7:=next_id (i:=j) (n:=rs.length) (by omega) (by omega)
  obtain ⟨r,hr⟩:=some_at (l:=rs) (i:=j) (by omega)
  have gr:=row_at hr
  have xp:=r_picked t ht r (hrs r (List.mem_of_getElem? hr)) y.cols hN hk
  have xk:=r_keyText (pickV t y.cols r) (by rw [pickV_len];exact hk)
  simp only [rowC] at gr
  simp only [tblA,tblC] at xp
  by_cases hc:y.uq=true∧nullV (pickV t y.cols r)=false
  ·obtain ⟨c1,c2⟩:=hc
   rw [c2] at xp
   obtain ⟨w,hf,hin,hout,hS'⟩:=set_both hS (keyB (pickV t y.cols r))
   by_cases hm:keyB (pickV t y.cols r)∈S
   ·obtain ⟨i0,rfl⟩:=hin hm
    refine ⟨some 10,es,fun ks jj Bo hB hj=>?_⟩
    subst hj
    unfold Loop at hB
    simp -implicitDefEqProofs only [go_sem,simprocAttr,Tryz.f148,loopOf] at hB
    subst hB
    rw [RL_eq]
    simp -implicitDefEqProofs only [go_sem,simprocAttr,d,h7,gr,xp,xk,c1,hf,Bool.not_false,tblC,idxC,rowC,List.length_map]
   ·obtain rfl:=hout hm
    obtain ⟨o,es',ih⟩:=l_uf2 t ht y hN hk rs hrs hl l i q (j+1) _ _ (by omega) hS'
    refine ⟨o,es',fun ks jj Bo hB hj=>?_⟩
    subst hj
    have ih:=ih ks _ Bo hB rfl
    simp only [tblC,idxC,mapPut,c1] at ih
    unfold Loop at hB
    simp -implicitDefEqProofs only [go_sem,simprocAttr,Tryz.f148,loopOf] at hB
    subst hB
    rw [RL_eq]
    simp -implicitDefEqProofs only [go_sem,simprocAttr,d,h7,gr,xp,xk,c1,hf,Bool.not_false,tblC,idxC,rowC,List.length_map]
    exact ih
  ·obtain ⟨o,es',ih⟩:=l_uf2 t ht y hN hk rs hrs hl l i q (j+1) es S (by omega) hS
   refine ⟨o,es',fun ks jj Bo hB hj=>?_⟩
   subst hj
   have ih:=ih ks _ Bo hB rfl
   cases hu:y.uq with
   | false =>
    simp only [tblC,idxC,hu] at ih
    unfold Loop at hB
    simp -implicitDefEqProofs only [go_sem,simprocAttr,Tryz.f148,loopOf] at hB
    subst hB
    rw [RL_eq]
    simp -implicitDefEqProofs only [go_sem,simprocAttr,d,h7,gr,xp,xk,hu,tblC,idxC,rowC,List.length_map]
    exact ih
   | true =>
    have c2:nullV (pickV t y.cols r)=true:=by
     cases hv:nullV (pickV t y.cols r) with
     | true=>rfl
     | false=>exact absurd ⟨hu,hv⟩ hc
    rw [c2] at xp
    simp only [tblC,idxC,hu] at ih
    unfold Loop at hB
    simp -implicitDefEqProofs only [go_sem,simprocAttr,Tryz.f148,loopOf] at hB
    subst hB
    rw [RL_eq]
    simp -implicitDefEqProofs only [go_sem,simprocAttr,d,h7,gr,xp,xk,hu,Bool.not_true,tblC,idxC,rowC,List.length_map]
    exact ih
theorem l_uf0 (t:Tbl) (ht:t.cols.length≤1000000) (hN:t.idx.length≤1000000∧∀ y∈t.idx,NamesIn t y.cols∧y.cols.length≤1000000) (rs:List (List Val)) (hrs:RowsFit t rs) (hl:rs.length≤1000000) :
  ∀ (q j:Nat),t.idx.length=j+q→∃ (o:Option Int),∀ (ks:List It) (jj:Int) (Bo:Code),Loop Tryz.f148 0 Bo→jj=(j:Int) →
  RL K (.run 148 0 (.code Bo::.lp Bo (some ([1,2,14,15,16],[])) 1::.blk 0 1::ks) [(1,.rows (rs.map rowC)),(2,.ptr 0 0),(14,.rows (t.idx.map idxC)),(15,I (t.idx.length:Int)),(16,I jj)] [.cells (tblC t)]) =
  match o with
  | some e=>some (I e,[])
  | none=>R K (.run 148 0 ks [] [.cells (tblC t)])
 | 0,j,hq=>by
  have d:¬(j:Int) < (t.idx.length:Int):=by omega
  refine ⟨none,fun ks jj Bo hB hj=>?_⟩
  subst hj
  unfold Loop at hB
  simp -implicitDefEqProofs only [go_sem,simprocAttr,Tryz.f148,loopOf] at hB
  subst hB
  rw [RL_eq]
  simp -implicitDefEqProofs only [go_sem,simprocAttr,d,tblC,List.length_map]
 | q+1,j,hq=>by
  have d:(j:Int) < (t.idx.length:Int):=by omega
  have hil:=hN.1
  have h7:=next_id (i:=j) (n:=t.idx.length) (by omega) (by omega)
  obtain ⟨y,hy⟩:=some_at (l:=t.idx) (i:=j) (by omega)
  have gy:=idx_get hy
  obtain ⟨n1,n2⟩:=hN.2 y (List.mem_of_getElem? hy)
  obtain ⟨o1,es',l2⟩:=l_uf2 t ht y n1 n2 rs hrs hl t.idx (j:Int) rs.length 0 [] [] (by omega) SetM.nil
  have l2:=fun ks B hB=>l2 ks 0 B hB rfl
  cases o1 with
  | some e =>
   refine ⟨some e,fun ks jj Bo hB hj=>?_⟩
   subst hj
   simp only [tblC,idxC] at l2 gy
   unfold Loop at hB
   simp -implicitDefEqProofs only [go_sem,simprocAttr,Tryz.f148,loopOf] at hB
   subst hB
   rw [RL_eq]
   simp -implicitDefEqProofs only [go_sem,simprocAttr,d,h7,gy,tblC,idxC,List.length_map]
   rw [l2 _ _ ?_]
   rfl
  | none =>
   obtain ⟨o,ih⟩:=l_uf0 t ht hN rs hrs hl q (j+1) (by omega)
   refine ⟨o,fun ks jj Bo hB hj=>?_⟩
   subst hj
   have ih:=ih ks _ Bo hB rfl
   simp only [tblC,idxC] at l2 gy ih
   unfold Loop at hB
   simp -implicitDefEqProofs only [go_sem,simprocAttr,Tryz.f148,loopOf] at hB
   subst hB
   rw [RL_eq]
   simp -implicitDefEqProofs only [go_sem,simprocAttr,d,h7,gy,tblC,idxC,List.length_map]
   rw [l2 _ _ ?_]
   ·simp -implicitDefEqProofs only [go_sem,simprocAttr,h7,tblC,idxC,List.length_map]
    exact ih
   ·rfl
theorem r_uniquesFault (t:Tbl) (ht:t.cols.length≤1000000) (hN:t.idx.length≤1000000∧∀ y∈t.idx,NamesIn t y.cols∧y.cols.length≤1000000) (rs:List (List Val)) (hrs:RowsFit t rs) (hl:rs.length≤1000000) :
  ∃ e,R K (.call 148 [tblA t,.rows (rs.map rowC)] [])=some (I e,[]):=by
 obtain ⟨o,l0⟩:=l_uf0 t ht hN rs hrs hl t.idx.length 0 (by omega)
 have l0:=fun ks B hB=>l0 ks 0 B hB rfl
 cases o with
 | some e =>
  refine ⟨e,?_⟩
  simp only [tblA,tblC] at l0 ⊢
  rw [call_148]
  simp -implicitDefEqProofs only [go_sem,simprocAttr,Tryz.f148,tblC,List.length_map]
  rw [l0 _ _ ?_]
  rfl
 | none =>
  refine ⟨0,?_⟩
  simp only [tblA,tblC] at l0 ⊢
  rw [call_148]
  simp -implicitDefEqProofs only [go_sem,simprocAttr,Tryz.f148,tblC,List.length_map]
  rw [l0 _ _ ?_]
  ·simp -implicitDefEqProofs only [go_sem,simprocAttr,tblC]
  ·rfl
theorem r_keysFault (t:Tbl) (ht:t.cols.length≤1000000) (hk:t.key.length≤1000000) (hK:NamesIn t t.key) (hN:t.idx.length≤1000000∧∀ y∈t.idx,NamesIn t y.cols∧y.cols.length≤1000000) (rs:List (List Val)) (hrs:RowsFit t rs) (hl:rs.length≤1000000) :
  ∃ e,R K (.call 89 [tblA t,.rows (rs.map rowC)] [])=some (I e,[]):=by
 obtain ⟨o,l0⟩:=l_kf0 t ht hk hK rs hrs hl rs.length 0 (by omega)
 have l0:=fun ks B hB=>l0 ks 1 B hB rfl
 obtain ⟨e,xu⟩:=r_uniquesFault t ht hN rs hrs hl
 cases o with
 | some e =>
  refine ⟨e,?_⟩
  simp only [tblA,tblC] at l0 ⊢
  rw [call_89]
  simp -implicitDefEqProofs only [go_sem,simprocAttr,Tryz.f89,tblC,List.length_map]
  rw [l0 _ _ ?_]
  rfl
 | none =>
  refine ⟨e,?_⟩
  simp only [tblA,tblC] at l0 xu ⊢
  rw [call_89]
  simp -implicitDefEqProofs only [go_sem,simprocAttr,Tryz.f89,tblC,List.length_map]
  rw [l0 _ _ ?_]
  ·simp -implicitDefEqProofs only [go_sem,simprocAttr,xu,tblC]
  ·rfl
theorem mk241 (h:Heap) (n:Nat) (hn:n≤1000000):makeSliceV Tryz.prog 241 h (.int .i64 (n:Int)) (.int .i64 (n:Int))=some (.own h.length n,h++[.rows 1 (List.replicate n [.nilm]) true]):=by
 have e:es Tryz.prog 241=some (1,8):=rfl
 have e2:elemZero Tryz.prog 241=some .nilm:=rfl
 unfold makeSliceV
 simp only [if_true,e,e2,makeOf,makeRows,Int.toNat_natCast]
 rw [if_pos ⟨by omega,by unfold roomMax;omega⟩]
 rfl
theorem mk241_1 (h:Heap):makeSliceV Tryz.prog 241 h (.int .i64 1) (.int .i64 1)=some (.own h.length 1,h++[.rows 1 [[.nilm]] true]):=mk241 h 1 (by omega)
theorem mk241_2 (h:Heap):makeSliceV Tryz.prog 241 h (.int .i64 2) (.int .i64 2)=some (.own h.length 2,h++[.rows 1 [[.nilm],[.nilm]] true]):=mk241 h 2 (by omega)
theorem mk241_3 (h:Heap):makeSliceV Tryz.prog 241 h (.int .i64 3) (.int .i64 3)=some (.own h.length 3,h++[.rows 1 [[.nilm],[.nilm],[.nilm]] true]):=mk241 h 3 (by omega)
theorem SetE.ask {es:List (AV×AV)} (h:SetE es) (k:List UInt8):(∃ i,findA .str (.str k) es 0=some (some (i,.bool true)))∨findA .str (.str k) es 0=some none:=by
 obtain ⟨S,h⟩:=h
 obtain ⟨h1,h2⟩:=set_ask h k
 by_cases hm:k∈S
 ·exact .inl (h1 hm)
 ·exact .inr (h2 hm)
theorem SetE.nil:SetE []:=⟨[],SetM.nil⟩
theorem l_rf2_10 (x:List Tbl) (ds:List Dat) (t0:Tbl) (hc:t0.cols.length≤1000000) (hk:t0.key.length≤1000000) (hN:NamesIn t0 t0.key) (rs:List (List Val)) (hrs:RowsFit t0 rs) (hl:rs.length≤1000000) :
  ∀ (q j:Nat) (es:List (AV×AV)),rs.length=j+q→SetE es→∃ es',SetE es'∧∀ (ks:List It) (jj:Int) (Bo:Code),Loop Tryz.f193 2 Bo→jj=(j:Int) →
  RL K (.run 193 0 (.code Bo::.lp Bo (some ([2,3,5,6,7,25,26,27,41,42,43],[])) 5::.blk 2 5::ks) [(2,.ptr 0 0),(3,.ptr 1 0),(5,.own 2 1),(6,I 0),(7,.ptr 3 0),(25,.rows (x.map tblC)),(26,I 1),(27,I 0),(41,.rows (rs.map rowC)),(42,I (rs.length:Int)),(43,I jj)] [.cells [.rows (x.map tblC)],.cells [.rows (ds.map datC)],.rows 1 [[.mp 4]] true,.cells (tblC t0),.map es]) =
  R K (.run 193 0 ks [(2,.ptr 0 0),(3,.ptr 1 0),(5,.own 2 1),(25,.rows (x.map tblC)),(26,I 1),(27,I 0)] [.cells [.rows (x.map tblC)],.cells [.rows (ds.map datC)],.rows 1 [[.mp 4]] true,.cells (tblC t0),.map es'])
 | 0,j,es,hq,hS=>by
  have d:¬(j:Int) < (rs.length:Int):=by omega
  refine ⟨es,hS,fun ks jj Bo hB hj=>?_⟩
  subst hj
  unfold Loop at hB
  simp -implicitDefEqProofs only [go_sem,simprocAttr,Tryz.f193,loopOf] at hB
  subst hB
  rw [RL_eq]
  simp -implicitDefEqProofs only [go_sem,simprocAttr,d,tblC]
 | q+1,j,es,hq,hS=>by
  have d:(j:Int) < (rs.length:Int):=by omega
  have h7:=next_id (i:=j) (n:=rs.length) (by omega) (by omega)
  obtain ⟨r,hr⟩:=some_at (l:=rs) (i:=j) (by omega)
  have gr:=row_at hr
  have xp:=r_picked t0 hc r (hrs r (List.mem_of_getElem? hr)) t0.key hN hk
  have xk:=r_keyText (pickV t0 t0.key r) (by rw [pickV_len];exact hk)
  obtain ⟨v,hf,hS'⟩:=hS.put (keyB (pickV t0 t0.key r))
  obtain ⟨es',h',ih⟩:=l_rf2_10 x ds t0  hc hk hN rs hrs hl q (j+1) _ (by omega) hS'
  refine ⟨es',h',fun ks jj Bo hB hj=>?_⟩
  subst hj
  have ih:=ih ks _ Bo hB rfl
  simp only [rowC] at gr
  simp only [tblA,tblC] at xp
  simp only [tblC] at ih
  unfold Loop at hB
  simp -implicitDefEqProofs only [go_sem,simprocAttr,Tryz.f193,loopOf] at hB
  subst hB
  rw [RL_eq]
  simp -implicitDefEqProofs only [go_sem,simprocAttr,d,h7,gr,xp,xk,hf,tblC,rowC]
  exact ih
theorem l_rf8_1 (x:List Tbl) (ds:List Dat) (h:Led x ds) (hm:x.length=1) (t0:Tbl) (e0:List (AV×AV)) (s0:SetE e0) (i:Nat) (t:Tbl) (d:Dat) (hi:x[i]? = some t) (hd:ds[i]? = some d) (f:Fgn) (mf:f∈t.fgn) (jf:Int) :
  ∀ (q j:Nat),d.rows.length=j+q→∃ o:Option Int,∀ (ks:List It) (jj:Int) (Bo:Code),Loop Tryz.f193 8 Bo→jj=(j:Int) →
  RL K (.run 193 0 (.code Bo::.lp Bo (some ([2,3,5,12,13,15,64,65,66,72,73,74,83,84,85],[])) 7::.blk 8 7::ks) [(2,.ptr 0 0),(3,.ptr 1 0),(5,.own 2 1),(12,I (i:Int)),(13,.ptr 5 0),(15,.ptr 6 0),(64,.rows (x.map tblC)),(65,I 1),(66,I (i:Int)),(72,.rows (t.fgn.map fgnC)),(73,I (t.fgn.length:Int)),(74,I jf),(83,.rows (d.rows.map rowC)),(84,I (d.rows.length:Int)),(85,I jj)] [.cells [.rows (x.map tblC)],.cells [.rows (ds.map datC)],.rows 1 [[.mp 4]] true,.cells (tblC t0),.map e0,.cells (tblC t),.cells (fgnC f)]) =
  match o with
  | some e=>some (I e,[])
  | none=>R K (.run 193 0 ks [(2,.ptr 0 0),(3,.ptr 1 0),(5,.own 2 1),(12,I (i:Int)),(13,.ptr 5 0),(64,.rows (x.map tblC)),(65,I 1),(66,I (i:Int)),(72,.rows (t.fgn.map fgnC)),(73,I (t.fgn.length:Int)),(74,I jf)] [.cells [.rows (x.map tblC)],.cells [.rows (ds.map datC)],.rows 1 [[.mp 4]] true,.cells (tblC t0),.map e0,.cells (tblC t),.cells (fgnC f)])
 | 0,j,hq=>by
  have d1:¬(j:Int) < (d.rows.length:Int):=by omega
  refine ⟨none,fun ks jj Bo hB hj=>?_⟩
  subst hj
  unfold Loop at hB
  simp -implicitDefEqProofs only [go_sem,simprocAttr,Tryz.f193,loopOf] at hB
  subst hB
  rw [RL_eq]
  simp -implicitDefEqProofs only [go_sem,simprocAttr,d1,tblC,fgnC]
 | q+1,j,hq=>by
  have mt:=List.mem_of_getElem? hi
  have ft:=h.fit.tbl t mt
  have fd:=h.few.rows d (List.mem_of_getElem? hd)
  have hfit:=h.ok.fit i t d hi hd
  have d1:(j:Int) < (d.rows.length:Int):=by omega
  have h7:=next_id (i:=j) (n:=d.rows.length) (by omega) (by omega)
  obtain ⟨r,hr⟩:=some_at (l:=d.rows) (i:=j) (by omega)
  have gr:=row_at hr
  have hcf:=(ft.fg f mf).2
  have xp:=r_picked t ft.cols r (hfit r (List.mem_of_getElem? hr)) f.cols ((h.right.ok t mt).fg f mf) hcf
  have xk:=r_keyText (pickV t f.cols r) (by rw [pickV_len];exact hcf)
  have ekk:keyB (pickV t f.cols r)=keyT t f.cols r:=rfl
  rw [ekk] at xk
  obtain ⟨w,u,g,hw,hu,hg⟩:=h.to mt mf
  have xt:=r_TableAt x f.tb h.fit.len
  rw [hw] at xt
  have hwl:=(List.getElem?_eq_some_iff.1 hu).1
  rw [hm] at hwl
  simp only [rowC] at gr
  simp only [tblA,tblC] at xp
  cases hv:nullV (pickV t f.cols r) with
  | true =>
   rw [hv] at xp
   obtain ⟨o,ih⟩:=l_rf8_1 x ds h hm t0 e0 s0 i t d hi hd f mf jf q (j+1) (by omega)
   refine ⟨o,fun ks jj Bo hB hj=>?_⟩
   subst hj
   have ih:=ih ks _ Bo hB rfl
   simp only [tblC,fgnC] at ih
   unfold Loop at hB
   simp -implicitDefEqProofs only [go_sem,simprocAttr,Tryz.f193,loopOf] at hB
   subst hB
   rw [RL_eq]
   simp -implicitDefEqProofs only [go_sem,simprocAttr,d1,h7,gr,xp,xk,xt,Bool.not_true,tblC,fgnC,rowC]
   exact ih
  | false =>
   rw [hv] at xp
   have hw0:w=0:=by omega
   ·obtain rfl:=hw0
    rcases s0.ask (keyT t f.cols r) with ⟨i0,hf⟩ | hf
    ·obtain ⟨o,ih⟩:=l_rf8_1 x ds h hm t0 e0 s0 i t d hi hd f mf jf q (j+1) (by omega)
     refine ⟨o,fun ks jj Bo hB hj=>?_⟩
     subst hj
     have ih:=ih ks _ Bo hB rfl
     simp only [tblC,fgnC] at ih
     unfold Loop at hB
     simp -implicitDefEqProofs only [go_sem,simprocAttr,Tryz.f193,loopOf] at hB
     subst hB
     rw [RL_eq]
     simp -implicitDefEqProofs only [go_sem,simprocAttr,d1,h7,gr,xp,xk,xt,hf,Bool.not_false,tblC,fgnC,rowC]
     exact ih
    ·refine ⟨some 11,fun ks jj Bo hB hj=>?_⟩
     subst hj
     unfold Loop at hB
     simp -implicitDefEqProofs only [go_sem,simprocAttr,Tryz.f193,loopOf] at hB
     subst hB
     rw [RL_eq]
     simp -implicitDefEqProofs only [go_sem,simprocAttr,d1,h7,gr,xp,xk,xt,hf,Bool.not_false,tblC,fgnC,rowC]
theorem l_rf6_1 (x:List Tbl) (ds:List Dat) (h:Led x ds) (hm:x.length=1) (t0:Tbl) (e0:List (AV×AV)) (s0:SetE e0) (i:Nat) (t:Tbl) (d:Dat) (hi:x[i]? = some t) (hd:ds[i]? = some d) :
  ∀ (q j:Nat),t.fgn.length=j+q→∃ o:Option Int,∀ (ks:List It) (jj:Int) (Bo:Code),Loop Tryz.f193 6 Bo→jj=(j:Int) →
  RL K (.run 193 0 (.code Bo::.lp Bo (some ([2,3,5,12,13,64,65,66,72,73,74],[])) 6::.blk 6 6::ks) [(2,.ptr 0 0),(3,.ptr 1 0),(5,.own 2 1),(12,I (i:Int)),(13,.ptr 5 0),(64,.rows (x.map tblC)),(65,I 1),(66,I (i:Int)),(72,.rows (t.fgn.map fgnC)),(73,I (t.fgn.length:Int)),(74,I jj)] [.cells [.rows (x.map tblC)],.cells [.rows (ds.map datC)],.rows 1 [[.mp 4]] true,.cells (tblC t0),.map e0,.cells (tblC t)]) =
  match o with
  | some e=>some (I e,[])
  | none=>R K (.run 193 0 ks [(2,.ptr 0 0),(3,.ptr 1 0),(5,.own 2 1),(64,.rows (x.map tblC)),(65,I 1),(66,I (i:Int))] [.cells [.rows (x.map tblC)],.cells [.rows (ds.map datC)],.rows 1 [[.mp 4]] true,.cells (tblC t0),.map e0,.cells (tblC t)])
 | 0,j,hq=>by
  have d1:¬(j:Int) < (t.fgn.length:Int):=by omega
  refine ⟨none,fun ks jj Bo hB hj=>?_⟩
  subst hj
  unfold Loop at hB
  simp -implicitDefEqProofs only [go_sem,simprocAttr,Tryz.f193,loopOf] at hB
  subst hB
  rw [RL_eq]
  simp -implicitDefEqProofs only [go_sem,simprocAttr,d1,tblC]
 | q+1,j,hq=>by
  have mt:=List.mem_of_getElem? hi
  have tfl:=(h.fit.tbl t mt).fgn
  have d1:(j:Int) < (t.fgn.length:Int):=by omega
  have h7:=next_id (i:=j) (n:=t.fgn.length) (by omega) (by omega)
  obtain ⟨f,hf⟩:=some_at (l:=t.fgn) (i:=j) (by omega)
  have gf:=fgn_get hf
  have gd:=dat_at hd
  obtain ⟨o1,l8⟩:=l_rf8_1 x ds h hm t0 e0 s0 i t d hi hd f (List.mem_of_getElem? hf) (j:Int) d.rows.length 0 (by omega)
  have l8:=fun ks B hB=>l8 ks 0 B hB rfl
  simp only [fgnC] at gf
  simp only [datC] at gd
  cases o1 with
  | some e =>
   refine ⟨some e,fun ks jj Bo hB hj=>?_⟩
   subst hj
   simp only [tblC,fgnC] at l8
   unfold Loop at hB
   simp -implicitDefEqProofs only [go_sem,simprocAttr,Tryz.f193,loopOf] at hB
   subst hB
   rw [RL_eq]
   simp -implicitDefEqProofs only [go_sem,simprocAttr,d1,h7,gf,gd,tblC,fgnC,datC,List.length_map]
   rw [l8 _ _ ?_]
   rfl
  | none =>
   obtain ⟨o,ih⟩:=l_rf6_1 x ds h hm t0 e0 s0 i t d hi hd q (j+1) (by omega)
   refine ⟨o,fun ks jj Bo hB hj=>?_⟩
   subst hj
   have ih:=ih ks _ Bo hB rfl
   simp only [tblC,fgnC] at l8 ih
   unfold Loop at hB
   simp -implicitDefEqProofs only [go_sem,simprocAttr,Tryz.f193,loopOf] at hB
   subst hB
   rw [RL_eq]
   simp -implicitDefEqProofs only [go_sem,simprocAttr,d1,h7,gf,gd,tblC,fgnC,datC,List.length_map]
   rw [l8 _ _ ?_]
   ·simp -implicitDefEqProofs only [go_sem,simprocAttr,h7,tblC,fgnC,List.length_map]
    exact ih
   ·rfl
theorem l_rf4_1 (x:List Tbl) (ds:List Dat) (h:Led x ds) (hm:x.length=1) (t0:Tbl) (e0:List (AV×AV)) (s0:SetE e0):∀ (q i:Nat),x.length=i+q→∃ o:Option Int,∀ (ks:List It) (ii:Int) (Bo:Code),Loop Tryz.f193 4 Bo→ii=(i:Int) →
  RL K (.run 193 0 (.code Bo::.lp Bo (some ([2,3,5,64,65,66],[])) 5::.blk 4 5::ks) [(2,.ptr 0 0),(3,.ptr 1 0),(5,.own 2 1),(64,.rows (x.map tblC)),(65,I 1),(66,I ii)] [.cells [.rows (x.map tblC)],.cells [.rows (ds.map datC)],.rows 1 [[.mp 4]] true,.cells (tblC t0),.map e0]) =
  match o with
  | some e=>some (I e,[])
  | none=>R K (.run 193 0 ks [] [.cells [.rows (x.map tblC)],.cells [.rows (ds.map datC)],.rows 1 [[.mp 4]] true,.cells (tblC t0),.map e0])
 | 0,i,hq=>by
  have d1:¬(i:Int) < 1:=by omega
  refine ⟨none,fun ks ii Bo hB hi=>?_⟩
  subst hi
  unfold Loop at hB
  simp -implicitDefEqProofs only [go_sem,simprocAttr,Tryz.f193,loopOf] at hB
  subst hB
  rw [RL_eq]
  simp -implicitDefEqProofs only [go_sem,simprocAttr,d1,tblC]
 | q+1,i,hq=>by
  have d1:(i:Int) < 1:=by omega
  have h7:=next_id (i:=i) (n:=x.length) (by omega) (by omega)
  have hdl:=h.ok.len
  obtain ⟨t,ht⟩:=some_at (l:=x) (i:=i) (by omega)
  obtain ⟨d,hd⟩:=some_at (l:=ds) (i:=i) (by omega)
  have gt:=tbl_get ht
  obtain ⟨o1,l6⟩:=l_rf6_1 x ds h hm t0 e0 s0 i t d ht hd t.fgn.length 0 (by omega)
  have l6:=fun ks B hB=>l6 ks 0 B hB rfl
  cases o1 with
  | some e =>
   refine ⟨some e,fun ks ii Bo hB hi=>?_⟩
   subst hi
   simp only [tblC] at l6 gt
   unfold Loop at hB
   simp -implicitDefEqProofs only [go_sem,simprocAttr,Tryz.f193,loopOf] at hB
   subst hB
   rw [RL_eq]
   simp -implicitDefEqProofs only [go_sem,simprocAttr,d1,h7,gt,tblC,List.length_map]
   rw [l6 _ _ ?_]
   rfl
  | none =>
   obtain ⟨o,ih⟩:=l_rf4_1 x ds h hm t0 e0 s0 q (i+1) (by omega)
   refine ⟨o,fun ks ii Bo hB hi=>?_⟩
   subst hi
   have ih:=ih ks _ Bo hB rfl
   simp only [tblC] at l6 gt ih
   unfold Loop at hB
   simp -implicitDefEqProofs only [go_sem,simprocAttr,Tryz.f193,loopOf] at hB
   subst hB
   rw [RL_eq]
   simp -implicitDefEqProofs only [go_sem,simprocAttr,d1,h7,gt,tblC,List.length_map]
   rw [l6 _ _ ?_]
   ·simp -implicitDefEqProofs only [go_sem,simprocAttr,h7,tblC,List.length_map]
    exact ih
   ·rfl
theorem r_refsFault_1 (x:List Tbl) (ds:List Dat) (h:Led x ds) (hm:x.length=1):∃ e,R K (.call 193 [schC x,datS ds] [])=some (I e,[]):=by
 have hmi:((x.length:Nat):Int)=1:=by omega
 have hdl:=h.ok.len
 obtain ⟨t0,ht0⟩:=some_at (l:=x) (i:=0) (by omega)
 obtain ⟨d0,hd0⟩:=some_at (l:=ds) (i:=0) (by omega)
 have gt0:at? (x.map tblC) 0=some (tblC t0):=tbl_get ht0
 have gd0:at? (ds.map datC) 0=some (datC d0):=dat_at hd0
 have mt0:=List.mem_of_getElem? ht0
 obtain ⟨e0,s0,l0⟩:=l_rf2_10 x ds t0  (h.fit.tbl t0 mt0).cols (h.fit.tbl t0 mt0).key (h.right.ok t0 mt0).key d0.rows (h.ok.fit 0 t0 d0 ht0 hd0) (h.few.rows d0 (List.mem_of_getElem? hd0)).1 d0.rows.length 0 [] (by omega) SetE.nil
 have l0:=fun ks B hB=>l0 ks 0 B hB rfl
 obtain ⟨o,l4⟩:=l_rf4_1 x ds h hm t0 e0 s0 x.length 0 (by omega)
 have l4:=fun ks B hB=>l4 ks 0 B hB rfl
 simp only [tblC] at l4 l0 gt0
 simp only [datC] at gd0
 cases o with
 | some e =>
  refine ⟨e,?_⟩
  rw [call_193]
  simp -implicitDefEqProofs only [go_sem,simprocAttr,Tryz.f193,mk241_1,hmi,gt0,gd0,tblC,datC,List.length_map]
  rw [RL_eq]
  simp -implicitDefEqProofs only [go_sem,simprocAttr,mk241_1,hmi,gt0,gd0,tblC,datC,List.length_map]
  rw [l0 _ _ (by rfl)]
  simp -implicitDefEqProofs only [go_sem,simprocAttr,mk241_1,hmi,gt0,gd0,tblC,datC,List.length_map]
  rw [RL_eq]
  simp -implicitDefEqProofs only [go_sem,simprocAttr,mk241_1,hmi,gt0,gd0,tblC,datC,List.length_map]
  rw [l4 _ _ (by rfl)]
 | none =>
  refine ⟨0,?_⟩
  rw [call_193]
  simp -implicitDefEqProofs only [go_sem,simprocAttr,Tryz.f193,mk241_1,hmi,gt0,gd0,tblC,datC,List.length_map]
  rw [RL_eq]
  simp -implicitDefEqProofs only [go_sem,simprocAttr,mk241_1,hmi,gt0,gd0,tblC,datC,List.length_map]
  rw [l0 _ _ (by rfl)]
  simp -implicitDefEqProofs only [go_sem,simprocAttr,mk241_1,hmi,gt0,gd0,tblC,datC,List.length_map]
  rw [RL_eq]
  simp -implicitDefEqProofs only [go_sem,simprocAttr,mk241_1,hmi,gt0,gd0,tblC,datC,List.length_map]
  rw [l4 _ _ (by rfl)]
  simp -implicitDefEqProofs only [go_sem,simprocAttr,tblC]
theorem l_rf2_20 (x:List Tbl) (ds:List Dat) (t0:Tbl) (hc:t0.cols.length≤1000000) (hk:t0.key.length≤1000000) (hN:NamesIn t0 t0.key) (rs:List (List Val)) (hrs:RowsFit t0 rs) (hl:rs.length≤1000000) :
  ∀ (q j:Nat) (es:List (AV×AV)),rs.length=j+q→SetE es→∃ es',SetE es'∧∀ (ks:List It) (jj:Int) (Bo:Code),Loop Tryz.f193 2 Bo→jj=(j:Int) →
  RL K (.run 193 0 (.code Bo::.lp Bo (some ([2,3,5,6,7,25,26,27,41,42,43],[])) 5::.blk 2 5::ks) [(2,.ptr 0 0),(3,.ptr 1 0),(5,.own 2 2),(6,I 0),(7,.ptr 3 0),(25,.rows (x.map tblC)),(26,I 2),(27,I 0),(41,.rows (rs.map rowC)),(42,I (rs.length:Int)),(43,I jj)] [.cells [.rows (x.map tblC)],.cells [.rows (ds.map datC)],.rows 1 [[.mp 4],[.nilm]] true,.cells (tblC t0),.map es]) =
  R K (.run 193 0 ks [(2,.ptr 0 0),(3,.ptr 1 0),(5,.own 2 2),(25,.rows (x.map tblC)),(26,I 2),(27,I 0)] [.cells [.rows (x.map tblC)],.cells [.rows (ds.map datC)],.rows 1 [[.mp 4],[.nilm]] true,.cells (tblC t0),.map es'])
 | 0,j,es,hq,hS=>by
  have d:¬(j:Int) < (rs.length:Int):=by omega
  refine ⟨es,hS,fun ks jj Bo hB hj=>?_⟩
  subst hj
  unfold Loop at hB
  simp -implicitDefEqProofs only [go_sem,simprocAttr,Tryz.f193,loopOf] at hB
  subst hB
  rw [RL_eq]
  simp -implicitDefEqProofs only [go_sem,simprocAttr,d,tblC]
 | q+1,j,es,hq,hS=>by
  have d:(j:Int) < (rs.length:Int):=by omega
  have h7:=next_id (i:=j) (n:=rs.length) (by omega) (by omega)
  obtain ⟨r,hr⟩:=some_at (l:=rs) (i:=j) (by omega)
  have gr:=row_at hr
  have xp:=r_picked t0 hc r (hrs r (List.mem_of_getElem? hr)) t0.key hN hk
  have xk:=r_keyText (pickV t0 t0.key r) (by rw [pickV_len];exact hk)
  obtain ⟨v,hf,hS'⟩:=hS.put (keyB (pickV t0 t0.key r))
  obtain ⟨es',h',ih⟩:=l_rf2_20 x ds t0  hc hk hN rs hrs hl q (j+1) _ (by omega) hS'
  refine ⟨es',h',fun ks jj Bo hB hj=>?_⟩
  subst hj
  have ih:=ih ks _ Bo hB rfl
  simp only [rowC] at gr
  simp only [tblA,tblC] at xp
  simp only [tblC] at ih
  unfold Loop at hB
  simp -implicitDefEqProofs only [go_sem,simprocAttr,Tryz.f193,loopOf] at hB
  subst hB
  rw [RL_eq]
  simp -implicitDefEqProofs only [go_sem,simprocAttr,d,h7,gr,xp,xk,hf,tblC,rowC]
  exact ih
theorem l_rf2_21 (x:List Tbl) (ds:List Dat) (t0 t1:Tbl) (e0:List (AV×AV)) (hc:t1.cols.length≤1000000) (hk:t1.key.length≤1000000) (hN:NamesIn t1 t1.key) (rs:List (List Val)) (hrs:RowsFit t1 rs) (hl:rs.length≤1000000) :
  ∀ (q j:Nat) (es:List (AV×AV)),rs.length=j+q→SetE es→∃ es',SetE es'∧∀ (ks:List It) (jj:Int) (Bo:Code),Loop Tryz.f193 2 Bo→jj=(j:Int) →
  RL K (.run 193 0 (.code Bo::.lp Bo (some ([2,3,5,6,7,25,26,27,41,42,43],[])) 7::.blk 2 7::ks) [(2,.ptr 0 0),(3,.ptr 1 0),(5,.own 2 2),(6,I 1),(7,.ptr 5 0),(25,.rows (x.map tblC)),(26,I 2),(27,I 1),(41,.rows (rs.map rowC)),(42,I (rs.length:Int)),(43,I jj)] [.cells [.rows (x.map tblC)],.cells [.rows (ds.map datC)],.rows 1 [[.mp 4],[.mp 6]] true,.cells (tblC t0),.map e0,.cells (tblC t1),.map es]) =
  R K (.run 193 0 ks [(2,.ptr 0 0),(3,.ptr 1 0),(5,.own 2 2),(25,.rows (x.map tblC)),(26,I 2),(27,I 1)] [.cells [.rows (x.map tblC)],.cells [.rows (ds.map datC)],.rows 1 [[.mp 4],[.mp 6]] true,.cells (tblC t0),.map e0,.cells (tblC t1),.map es'])
 | 0,j,es,hq,hS=>by
  have d:¬(j:Int) < (rs.length:Int):=by omega
  refine ⟨es,hS,fun ks jj Bo hB hj=>?_⟩
  subst hj
  unfold Loop at hB
  simp -implicitDefEqProofs only [go_sem,simprocAttr,Tryz.f193,loopOf] at hB
  subst hB
  rw [RL_eq]
  simp -implicitDefEqProofs only [go_sem,simprocAttr,d,tblC]
 | q+1,j,es,hq,hS=>by
  have d:(j:Int) < (rs.length:Int):=by omega
  have h7:=next_id (i:=j) (n:=rs.length) (by omega) (by omega)
  obtain ⟨r,hr⟩:=some_at (l:=rs) (i:=j) (by omega)
  have gr:=row_at hr
  have xp:=r_picked t1 hc r (hrs r (List.mem_of_getElem? hr)) t1.key hN hk
  have xk:=r_keyText (pickV t1 t1.key r) (by rw [pickV_len];exact hk)
  obtain ⟨v,hf,hS'⟩:=hS.put (keyB (pickV t1 t1.key r))
  obtain ⟨es',h',ih⟩:=l_rf2_21 x ds t0 t1 e0 hc hk hN rs hrs hl q (j+1) _ (by omega) hS'
  refine ⟨es',h',fun ks jj Bo hB hj=>?_⟩
  subst hj
  have ih:=ih ks _ Bo hB rfl
  simp only [rowC] at gr
  simp only [tblA,tblC] at xp
  simp only [tblC] at ih
  unfold Loop at hB
  simp -implicitDefEqProofs only [go_sem,simprocAttr,Tryz.f193,loopOf] at hB
  subst hB
  rw [RL_eq]
  simp -implicitDefEqProofs only [go_sem,simprocAttr,d,h7,gr,xp,xk,hf,tblC,rowC]
  exact ih
theorem l_rf8_2 (x:List Tbl) (ds:List Dat) (h:Led x ds) (hm:x.length=2) (t0 t1:Tbl) (e0 e1:List (AV×AV)) (s0:SetE e0) (s1:SetE e1) (i:Nat) (t:Tbl) (d:Dat) (hi:x[i]? = some t) (hd:ds[i]? = some d) (f:Fgn) (mf:f∈t.fgn) (jf:Int) :
  ∀ (q j:Nat),d.rows.length=j+q→∃ o:Option Int,∀ (ks:List It) (jj:Int) (Bo:Code),Loop Tryz.f193 8 Bo→jj=(j:Int) →
  RL K (.run 193 0 (.code Bo::.lp Bo (some ([2,3,5,12,13,15,64,65,66,72,73,74,83,84,85],[])) 9::.blk 8 9::ks) [(2,.ptr 0 0),(3,.ptr 1 0),(5,.own 2 2),(12,I (i:Int)),(13,.ptr 7 0),(15,.ptr 8 0),(64,.rows (x.map tblC)),(65,I 2),(66,I (i:Int)),(72,.rows (t.fgn.map fgnC)),(73,I (t.fgn.length:Int)),(74,I jf),(83,.rows (d.rows.map rowC)),(84,I (d.rows.length:Int)),(85,I jj)] [.cells [.rows (x.map tblC)],.cells [.rows (ds.map datC)],.rows 1 [[.mp 4],[.mp 6]] true,.cells (tblC t0),.map e0,.cells (tblC t1),.map e1,.cells (tblC t),.cells (fgnC f)]) =
  match o with
  | some e=>some (I e,[])
  | none=>R K (.run 193 0 ks [(2,.ptr 0 0),(3,.ptr 1 0),(5,.own 2 2),(12,I (i:Int)),(13,.ptr 7 0),(64,.rows (x.map tblC)),(65,I 2),(66,I (i:Int)),(72,.rows (t.fgn.map fgnC)),(73,I (t.fgn.length:Int)),(74,I jf)] [.cells [.rows (x.map tblC)],.cells [.rows (ds.map datC)],.rows 1 [[.mp 4],[.mp 6]] true,.cells (tblC t0),.map e0,.cells (tblC t1),.map e1,.cells (tblC t),.cells (fgnC f)])
 | 0,j,hq=>by
  have d1:¬(j:Int) < (d.rows.length:Int):=by omega
  refine ⟨none,fun ks jj Bo hB hj=>?_⟩
  subst hj
  unfold Loop at hB
  simp -implicitDefEqProofs only [go_sem,simprocAttr,Tryz.f193,loopOf] at hB
  subst hB
  rw [RL_eq]
  simp -implicitDefEqProofs only [go_sem,simprocAttr,d1,tblC,fgnC]
 | q+1,j,hq=>by
  have mt:=List.mem_of_getElem? hi
  have ft:=h.fit.tbl t mt
  have fd:=h.few.rows d (List.mem_of_getElem? hd)
  have hfit:=h.ok.fit i t d hi hd
  have d1:(j:Int) < (d.rows.length:Int):=by omega
  have h7:=next_id (i:=j) (n:=d.rows.length) (by omega) (by omega)
  obtain ⟨r,hr⟩:=some_at (l:=d.rows) (i:=j) (by omega)
  have gr:=row_at hr
  have hcf:=(ft.fg f mf).2
  have xp:=r_picked t ft.cols r (hfit r (List.mem_of_getElem? hr)) f.cols ((h.right.ok t mt).fg f mf) hcf
  have xk:=r_keyText (pickV t f.cols r) (by rw [pickV_len];exact hcf)
  have ekk:keyB (pickV t f.cols r)=keyT t f.cols r:=rfl
  rw [ekk] at xk
  obtain ⟨w,u,g,hw,hu,hg⟩:=h.to mt mf
  have xt:=r_TableAt x f.tb h.fit.len
  rw [hw] at xt
  have hwl:=(List.getElem?_eq_some_iff.1 hu).1
  rw [hm] at hwl
  simp only [rowC] at gr
  simp only [tblA,tblC] at xp
  cases hv:nullV (pickV t f.cols r) with
  | true =>
   rw [hv] at xp
   obtain ⟨o,ih⟩:=l_rf8_2 x ds h hm t0 t1 e0 e1 s0 s1 i t d hi hd f mf jf q (j+1) (by omega)
   refine ⟨o,fun ks jj Bo hB hj=>?_⟩
   subst hj
   have ih:=ih ks _ Bo hB rfl
   simp only [tblC,fgnC] at ih
   unfold Loop at hB
   simp -implicitDefEqProofs only [go_sem,simprocAttr,Tryz.f193,loopOf] at hB
   subst hB
   rw [RL_eq]
   simp -implicitDefEqProofs only [go_sem,simprocAttr,d1,h7,gr,xp,xk,xt,Bool.not_true,tblC,fgnC,rowC]
   exact ih
  | false =>
   rw [hv] at xp
   have hw0:w=0∨w=1:=by omega
   rcases hw0 with hw0 | hw0
   ·obtain rfl:=hw0
    rcases s0.ask (keyT t f.cols r) with ⟨i0,hf⟩ | hf
    ·obtain ⟨o,ih⟩:=l_rf8_2 x ds h hm t0 t1 e0 e1 s0 s1 i t d hi hd f mf jf q (j+1) (by omega)
     refine ⟨o,fun ks jj Bo hB hj=>?_⟩
     subst hj
     have ih:=ih ks _ Bo hB rfl
     simp only [tblC,fgnC] at ih
     unfold Loop at hB
     simp -implicitDefEqProofs only [go_sem,simprocAttr,Tryz.f193,loopOf] at hB
     subst hB
     rw [RL_eq]
     simp -implicitDefEqProofs only [go_sem,simprocAttr,d1,h7,gr,xp,xk,xt,hf,Bool.not_false,tblC,fgnC,rowC]
     exact ih
    ·refine ⟨some 11,fun ks jj Bo hB hj=>?_⟩
     subst hj
     unfold Loop at hB
     simp -implicitDefEqProofs only [go_sem,simprocAttr,Tryz.f193,loopOf] at hB
     subst hB
     rw [RL_eq]
     simp -implicitDefEqProofs only [go_sem,simprocAttr,d1,h7,gr,xp,xk,xt,hf,Bool.not_false,tblC,fgnC,rowC]
   ·obtain rfl:=hw0
    rcases s1.ask (keyT t f.cols r) with ⟨i0,hf⟩ | hf
    ·obtain ⟨o,ih⟩:=l_rf8_2 x ds h hm t0 t1 e0 e1 s0 s1 i t d hi hd f mf jf q (j+1) (by omega)
     refine ⟨o,fun ks jj Bo hB hj=>?_⟩
     subst hj
     have ih:=ih ks _ Bo hB rfl
     simp only [tblC,fgnC] at ih
     unfold Loop at hB
     simp -implicitDefEqProofs only [go_sem,simprocAttr,Tryz.f193,loopOf] at hB
     subst hB
     rw [RL_eq]
     simp -implicitDefEqProofs only [go_sem,simprocAttr,d1,h7,gr,xp,xk,xt,hf,Bool.not_false,tblC,fgnC,rowC]
     exact ih
    ·refine ⟨some 11,fun ks jj Bo hB hj=>?_⟩
     subst hj
     unfold Loop at hB
     simp -implicitDefEqProofs only [go_sem,simprocAttr,Tryz.f193,loopOf] at hB
     subst hB
     rw [RL_eq]
     simp -implicitDefEqProofs only [go_sem,simprocAttr,d1,h7,gr,xp,xk,xt,hf,Bool.not_false,tblC,fgnC,rowC]
theorem l_rf6_2 (x:List Tbl) (ds:List Dat) (h:Led x ds) (hm:x.length=2) (t0 t1:Tbl) (e0 e1:List (AV×AV)) (s0:SetE e0) (s1:SetE e1) (i:Nat) (t:Tbl) (d:Dat) (hi:x[i]? = some t) (hd:ds[i]? = some d) :
  ∀ (q j:Nat),t.fgn.length=j+q→∃ o:Option Int,∀ (ks:List It) (jj:Int) (Bo:Code),Loop Tryz.f193 6 Bo→jj=(j:Int) →
  RL K (.run 193 0 (.code Bo::.lp Bo (some ([2,3,5,12,13,64,65,66,72,73,74],[])) 8::.blk 6 8::ks) [(2,.ptr 0 0),(3,.ptr 1 0),(5,.own 2 2),(12,I (i:Int)),(13,.ptr 7 0),(64,.rows (x.map tblC)),(65,I 2),(66,I (i:Int)),(72,.rows (t.fgn.map fgnC)),(73,I (t.fgn.length:Int)),(74,I jj)] [.cells [.rows (x.map tblC)],.cells [.rows (ds.map datC)],.rows 1 [[.mp 4],[.mp 6]] true,.cells (tblC t0),.map e0,.cells (tblC t1),.map e1,.cells (tblC t)]) =
  match o with
  | some e=>some (I e,[])
  | none=>R K (.run 193 0 ks [(2,.ptr 0 0),(3,.ptr 1 0),(5,.own 2 2),(64,.rows (x.map tblC)),(65,I 2),(66,I (i:Int))] [.cells [.rows (x.map tblC)],.cells [.rows (ds.map datC)],.rows 1 [[.mp 4],[.mp 6]] true,.cells (tblC t0),.map e0,.cells (tblC t1),.map e1,.cells (tblC t)])
 | 0,j,hq=>by
  have d1:¬(j:Int) < (t.fgn.length:Int):=by omega
  refine ⟨none,fun ks jj Bo hB hj=>?_⟩
  subst hj
  unfold Loop at hB
  simp -implicitDefEqProofs only [go_sem,simprocAttr,Tryz.f193,loopOf] at hB
  subst hB
  rw [RL_eq]
  simp -implicitDefEqProofs only [go_sem,simprocAttr,d1,tblC]
 | q+1,j,hq=>by
  have mt:=List.mem_of_getElem? hi
  have tfl:=(h.fit.tbl t mt).fgn
  have d1:(j:Int) < (t.fgn.length:Int):=by omega
  have h7:=next_id (i:=j) (n:=t.fgn.length) (by omega) (by omega)
  obtain ⟨f,hf⟩:=some_at (l:=t.fgn) (i:=j) (by omega)
  have gf:=fgn_get hf
  have gd:=dat_at hd
  obtain ⟨o1,l8⟩:=l_rf8_2 x ds h hm t0 t1 e0 e1 s0 s1 i t d hi hd f (List.mem_of_getElem? hf) (j:Int) d.rows.length 0 (by omega)
  have l8:=fun ks B hB=>l8 ks 0 B hB rfl
  simp only [fgnC] at gf
  simp only [datC] at gd
  cases o1 with
  | some e =>
   refine ⟨some e,fun ks jj Bo hB hj=>?_⟩
   subst hj
   simp only [tblC,fgnC] at l8
   unfold Loop at hB
   simp -implicitDefEqProofs only [go_sem,simprocAttr,Tryz.f193,loopOf] at hB
   subst hB
   rw [RL_eq]
   simp -implicitDefEqProofs only [go_sem,simprocAttr,d1,h7,gf,gd,tblC,fgnC,datC,List.length_map]
   rw [l8 _ _ ?_]
   rfl
  | none =>
   obtain ⟨o,ih⟩:=l_rf6_2 x ds h hm t0 t1 e0 e1 s0 s1 i t d hi hd q (j+1) (by omega)
   refine ⟨o,fun ks jj Bo hB hj=>?_⟩
   subst hj
   have ih:=ih ks _ Bo hB rfl
   simp only [tblC,fgnC] at l8 ih
   unfold Loop at hB
   simp -implicitDefEqProofs only [go_sem,simprocAttr,Tryz.f193,loopOf] at hB
   subst hB
   rw [RL_eq]
   simp -implicitDefEqProofs only [go_sem,simprocAttr,d1,h7,gf,gd,tblC,fgnC,datC,List.length_map]
   rw [l8 _ _ ?_]
   ·simp -implicitDefEqProofs only [go_sem,simprocAttr,h7,tblC,fgnC,List.length_map]
    exact ih
   ·rfl
theorem l_rf4_2 (x:List Tbl) (ds:List Dat) (h:Led x ds) (hm:x.length=2) (t0 t1:Tbl) (e0 e1:List (AV×AV)) (s0:SetE e0) (s1:SetE e1):∀ (q i:Nat),x.length=i+q→∃ o:Option Int,∀ (ks:List It) (ii:Int) (Bo:Code),Loop Tryz.f193 4 Bo→ii=(i:Int) →
  RL K (.run 193 0 (.code Bo::.lp Bo (some ([2,3,5,64,65,66],[])) 7::.blk 4 7::ks) [(2,.ptr 0 0),(3,.ptr 1 0),(5,.own 2 2),(64,.rows (x.map tblC)),(65,I 2),(66,I ii)] [.cells [.rows (x.map tblC)],.cells [.rows (ds.map datC)],.rows 1 [[.mp 4],[.mp 6]] true,.cells (tblC t0),.map e0,.cells (tblC t1),.map e1]) =
  match o with
  | some e=>some (I e,[])
  | none=>R K (.run 193 0 ks [] [.cells [.rows (x.map tblC)],.cells [.rows (ds.map datC)],.rows 1 [[.mp 4],[.mp 6]] true,.cells (tblC t0),.map e0,.cells (tblC t1),.map e1])
 | 0,i,hq=>by
  have d1:¬(i:Int) < 2:=by omega
  refine ⟨none,fun ks ii Bo hB hi=>?_⟩
  subst hi
  unfold Loop at hB
  simp -implicitDefEqProofs only [go_sem,simprocAttr,Tryz.f193,loopOf] at hB
  subst hB
  rw [RL_eq]
  simp -implicitDefEqProofs only [go_sem,simprocAttr,d1,tblC]
 | q+1,i,hq=>by
  have d1:(i:Int) < 2:=by omega
  have h7:=next_id (i:=i) (n:=x.length) (by omega) (by omega)
  have hdl:=h.ok.len
  obtain ⟨t,ht⟩:=some_at (l:=x) (i:=i) (by omega)
  obtain ⟨d,hd⟩:=some_at (l:=ds) (i:=i) (by omega)
  have gt:=tbl_get ht
  obtain ⟨o1,l6⟩:=l_rf6_2 x ds h hm t0 t1 e0 e1 s0 s1 i t d ht hd t.fgn.length 0 (by omega)
  have l6:=fun ks B hB=>l6 ks 0 B hB rfl
  cases o1 with
  | some e =>
   refine ⟨some e,fun ks ii Bo hB hi=>?_⟩
   subst hi
   simp only [tblC] at l6 gt
   unfold Loop at hB
   simp -implicitDefEqProofs only [go_sem,simprocAttr,Tryz.f193,loopOf] at hB
   subst hB
   rw [RL_eq]
   simp -implicitDefEqProofs only [go_sem,simprocAttr,d1,h7,gt,tblC,List.length_map]
   rw [l6 _ _ ?_]
   rfl
  | none =>
   obtain ⟨o,ih⟩:=l_rf4_2 x ds h hm t0 t1 e0 e1 s0 s1 q (i+1) (by omega)
   refine ⟨o,fun ks ii Bo hB hi=>?_⟩
   subst hi
   have ih:=ih ks _ Bo hB rfl
   simp only [tblC] at l6 gt ih
   unfold Loop at hB
   simp -implicitDefEqProofs only [go_sem,simprocAttr,Tryz.f193,loopOf] at hB
   subst hB
   rw [RL_eq]
   simp -implicitDefEqProofs only [go_sem,simprocAttr,d1,h7,gt,tblC,List.length_map]
   rw [l6 _ _ ?_]
   ·simp -implicitDefEqProofs only [go_sem,simprocAttr,h7,tblC,List.length_map]
    exact ih
   ·rfl
theorem r_refsFault_2 (x:List Tbl) (ds:List Dat) (h:Led x ds) (hm:x.length=2):∃ e,R K (.call 193 [schC x,datS ds] [])=some (I e,[]):=by
 have hmi:((x.length:Nat):Int)=2:=by omega
 have hdl:=h.ok.len
 obtain ⟨t0,ht0⟩:=some_at (l:=x) (i:=0) (by omega)
 obtain ⟨d0,hd0⟩:=some_at (l:=ds) (i:=0) (by omega)
 have gt0:at? (x.map tblC) 0=some (tblC t0):=tbl_get ht0
 have gd0:at? (ds.map datC) 0=some (datC d0):=dat_at hd0
 have mt0:=List.mem_of_getElem? ht0
 obtain ⟨e0,s0,l0⟩:=l_rf2_20 x ds t0  (h.fit.tbl t0 mt0).cols (h.fit.tbl t0 mt0).key (h.right.ok t0 mt0).key d0.rows (h.ok.fit 0 t0 d0 ht0 hd0) (h.few.rows d0 (List.mem_of_getElem? hd0)).1 d0.rows.length 0 [] (by omega) SetE.nil
 have l0:=fun ks B hB=>l0 ks 0 B hB rfl
 obtain ⟨t1,ht1⟩:=some_at (l:=x) (i:=1) (by omega)
 obtain ⟨d1,hd1⟩:=some_at (l:=ds) (i:=1) (by omega)
 have gt1:at? (x.map tblC) 1=some (tblC t1):=tbl_get ht1
 have gd1:at? (ds.map datC) 1=some (datC d1):=dat_at hd1
 have mt1:=List.mem_of_getElem? ht1
 obtain ⟨e1,s1,l1⟩:=l_rf2_21 x ds t0 t1 e0 (h.fit.tbl t1 mt1).cols (h.fit.tbl t1 mt1).key (h.right.ok t1 mt1).key d1.rows (h.ok.fit 1 t1 d1 ht1 hd1) (h.few.rows d1 (List.mem_of_getElem? hd1)).1 d1.rows.length 0 [] (by omega) SetE.nil
 have l1:=fun ks B hB=>l1 ks 0 B hB rfl
 obtain ⟨o,l4⟩:=l_rf4_2 x ds h hm t0 t1 e0 e1 s0 s1 x.length 0 (by omega)
 have l4:=fun ks B hB=>l4 ks 0 B hB rfl
 simp only [tblC] at l4 l0 gt0 l1 gt1
 simp only [datC] at gd0 gd1
 cases o with
 | some e =>
  refine ⟨e,?_⟩
  rw [call_193]
  simp -implicitDefEqProofs only [go_sem,simprocAttr,Tryz.f193,mk241_2,hmi,gt0,gd0,gt1,gd1,tblC,datC,List.length_map]
  rw [RL_eq]
  simp -implicitDefEqProofs only [go_sem,simprocAttr,mk241_2,hmi,gt0,gd0,gt1,gd1,tblC,datC,List.length_map]
  rw [l0 _ _ (by rfl)]
  simp -implicitDefEqProofs only [go_sem,simprocAttr,mk241_2,hmi,gt0,gd0,gt1,gd1,tblC,datC,List.length_map]
  rw [RL_eq]
  simp -implicitDefEqProofs only [go_sem,simprocAttr,mk241_2,hmi,gt0,gd0,gt1,gd1,tblC,datC,List.length_map]
  rw [l1 _ _ (by rfl)]
  simp -implicitDefEqProofs only [go_sem,simprocAttr,mk241_2,hmi,gt0,gd0,gt1,gd1,tblC,datC,List.length_map]
  rw [RL_eq]
  simp -implicitDefEqProofs only [go_sem,simprocAttr,mk241_2,hmi,gt0,gd0,gt1,gd1,tblC,datC,List.length_map]
  rw [l4 _ _ (by rfl)]
 | none =>
  refine ⟨0,?_⟩
  rw [call_193]
  simp -implicitDefEqProofs only [go_sem,simprocAttr,Tryz.f193,mk241_2,hmi,gt0,gd0,gt1,gd1,tblC,datC,List.length_map]
  rw [RL_eq]
  simp -implicitDefEqProofs only [go_sem,simprocAttr,mk241_2,hmi,gt0,gd0,gt1,gd1,tblC,datC,List.length_map]
  rw [l0 _ _ (by rfl)]
  simp -implicitDefEqProofs only [go_sem,simprocAttr,mk241_2,hmi,gt0,gd0,gt1,gd1,tblC,datC,List.length_map]
  rw [RL_eq]
  simp -implicitDefEqProofs only [go_sem,simprocAttr,mk241_2,hmi,gt0,gd0,gt1,gd1,tblC,datC,List.length_map]
  rw [l1 _ _ (by rfl)]
  simp -implicitDefEqProofs only [go_sem,simprocAttr,mk241_2,hmi,gt0,gd0,gt1,gd1,tblC,datC,List.length_map]
  rw [RL_eq]
  simp -implicitDefEqProofs only [go_sem,simprocAttr,mk241_2,hmi,gt0,gd0,gt1,gd1,tblC,datC,List.length_map]
  rw [l4 _ _ (by rfl)]
  simp -implicitDefEqProofs only [go_sem,simprocAttr,tblC]
theorem l_rf2_30 (x:List Tbl) (ds:List Dat) (t0:Tbl) (hc:t0.cols.length≤1000000) (hk:t0.key.length≤1000000) (hN:NamesIn t0 t0.key) (rs:List (List Val)) (hrs:RowsFit t0 rs) (hl:rs.length≤1000000) :
  ∀ (q j:Nat) (es:List (AV×AV)),rs.length=j+q→SetE es→∃ es',SetE es'∧∀ (ks:List It) (jj:Int) (Bo:Code),Loop Tryz.f193 2 Bo→jj=(j:Int) →
  RL K (.run 193 0 (.code Bo::.lp Bo (some ([2,3,5,6,7,25,26,27,41,42,43],[])) 5::.blk 2 5::ks) [(2,.ptr 0 0),(3,.ptr 1 0),(5,.own 2 3),(6,I 0),(7,.ptr 3 0),(25,.rows (x.map tblC)),(26,I 3),(27,I 0),(41,.rows (rs.map rowC)),(42,I (rs.length:Int)),(43,I jj)] [.cells [.rows (x.map tblC)],.cells [.rows (ds.map datC)],.rows 1 [[.mp 4],[.nilm],[.nilm]] true,.cells (tblC t0),.map es]) =
  R K (.run 193 0 ks [(2,.ptr 0 0),(3,.ptr 1 0),(5,.own 2 3),(25,.rows (x.map tblC)),(26,I 3),(27,I 0)] [.cells [.rows (x.map tblC)],.cells [.rows (ds.map datC)],.rows 1 [[.mp 4],[.nilm],[.nilm]] true,.cells (tblC t0),.map es'])
 | 0,j,es,hq,hS=>by
  have d:¬(j:Int) < (rs.length:Int):=by omega
  refine ⟨es,hS,fun ks jj Bo hB hj=>?_⟩
  subst hj
  unfold Loop at hB
  simp -implicitDefEqProofs only [go_sem,simprocAttr,Tryz.f193,loopOf] at hB
  subst hB
  rw [RL_eq]
  simp -implicitDefEqProofs only [go_sem,simprocAttr,d,tblC]
 | q+1,j,es,hq,hS=>by
  have d:(j:Int) < (rs.length:Int):=by omega
  have h7:=next_id (i:=j) (n:=rs.length) (by omega) (by omega)
  obtain ⟨r,hr⟩:=some_at (l:=rs) (i:=j) (by omega)
  have gr:=row_at hr
  have xp:=r_picked t0 hc r (hrs r (List.mem_of_getElem? hr)) t0.key hN hk
  have xk:=r_keyText (pickV t0 t0.key r) (by rw [pickV_len];exact hk)
  obtain ⟨v,hf,hS'⟩:=hS.put (keyB (pickV t0 t0.key r))
  obtain ⟨es',h',ih⟩:=l_rf2_30 x ds t0  hc hk hN rs hrs hl q (j+1) _ (by omega) hS'
  refine ⟨es',h',fun ks jj Bo hB hj=>?_⟩
  subst hj
  have ih:=ih ks _ Bo hB rfl
  simp only [rowC] at gr
  simp only [tblA,tblC] at xp
  simp only [tblC] at ih
  unfold Loop at hB
  simp -implicitDefEqProofs only [go_sem,simprocAttr,Tryz.f193,loopOf] at hB
  subst hB
  rw [RL_eq]
  simp -implicitDefEqProofs only [go_sem,simprocAttr,d,h7,gr,xp,xk,hf,tblC,rowC]
  exact ih
theorem l_rf2_31 (x:List Tbl) (ds:List Dat) (t0 t1:Tbl) (e0:List (AV×AV)) (hc:t1.cols.length≤1000000) (hk:t1.key.length≤1000000) (hN:NamesIn t1 t1.key) (rs:List (List Val)) (hrs:RowsFit t1 rs) (hl:rs.length≤1000000) :
  ∀ (q j:Nat) (es:List (AV×AV)),rs.length=j+q→SetE es→∃ es',SetE es'∧∀ (ks:List It) (jj:Int) (Bo:Code),Loop Tryz.f193 2 Bo→jj=(j:Int) →
  RL K (.run 193 0 (.code Bo::.lp Bo (some ([2,3,5,6,7,25,26,27,41,42,43],[])) 7::.blk 2 7::ks) [(2,.ptr 0 0),(3,.ptr 1 0),(5,.own 2 3),(6,I 1),(7,.ptr 5 0),(25,.rows (x.map tblC)),(26,I 3),(27,I 1),(41,.rows (rs.map rowC)),(42,I (rs.length:Int)),(43,I jj)] [.cells [.rows (x.map tblC)],.cells [.rows (ds.map datC)],.rows 1 [[.mp 4],[.mp 6],[.nilm]] true,.cells (tblC t0),.map e0,.cells (tblC t1),.map es]) =
  R K (.run 193 0 ks [(2,.ptr 0 0),(3,.ptr 1 0),(5,.own 2 3),(25,.rows (x.map tblC)),(26,I 3),(27,I 1)] [.cells [.rows (x.map tblC)],.cells [.rows (ds.map datC)],.rows 1 [[.mp 4],[.mp 6],[.nilm]] true,.cells (tblC t0),.map e0,.cells (tblC t1),.map es'])
 | 0,j,es,hq,hS=>by
  have d:¬(j:Int) < (rs.length:Int):=by omega
  refine ⟨es,hS,fun ks jj Bo hB hj=>?_⟩
  subst hj
  unfold Loop at hB
  simp -implicitDefEqProofs only [go_sem,simprocAttr,Tryz.f193,loopOf] at hB
  subst hB
  rw [RL_eq]
  simp -implicitDefEqProofs only [go_sem,simprocAttr,d,tblC]
 | q+1,j,es,hq,hS=>by
  have d:(j:Int) < (rs.length:Int):=by omega
  have h7:=next_id (i:=j) (n:=rs.length) (by omega) (by omega)
  obtain ⟨r,hr⟩:=some_at (l:=rs) (i:=j) (by omega)
  have gr:=row_at hr
  have xp:=r_picked t1 hc r (hrs r (List.mem_of_getElem? hr)) t1.key hN hk
  have xk:=r_keyText (pickV t1 t1.key r) (by rw [pickV_len];exact hk)
  obtain ⟨v,hf,hS'⟩:=hS.put (keyB (pickV t1 t1.key r))
  obtain ⟨es',h',ih⟩:=l_rf2_31 x ds t0 t1 e0 hc hk hN rs hrs hl q (j+1) _ (by omega) hS'
  refine ⟨es',h',fun ks jj Bo hB hj=>?_⟩
  subst hj
  have ih:=ih ks _ Bo hB rfl
  simp only [rowC] at gr
  simp only [tblA,tblC] at xp
  simp only [tblC] at ih
  unfold Loop at hB
  simp -implicitDefEqProofs only [go_sem,simprocAttr,Tryz.f193,loopOf] at hB
  subst hB
  rw [RL_eq]
  simp -implicitDefEqProofs only [go_sem,simprocAttr,d,h7,gr,xp,xk,hf,tblC,rowC]
  exact ih
theorem l_rf2_32 (x:List Tbl) (ds:List Dat) (t0 t1 t2:Tbl) (e0 e1:List (AV×AV)) (hc:t2.cols.length≤1000000) (hk:t2.key.length≤1000000) (hN:NamesIn t2 t2.key) (rs:List (List Val)) (hrs:RowsFit t2 rs) (hl:rs.length≤1000000) :
  ∀ (q j:Nat) (es:List (AV×AV)),rs.length=j+q→SetE es→∃ es',SetE es'∧∀ (ks:List It) (jj:Int) (Bo:Code),Loop Tryz.f193 2 Bo→jj=(j:Int) →
  RL K (.run 193 0 (.code Bo::.lp Bo (some ([2,3,5,6,7,25,26,27,41,42,43],[])) 9::.blk 2 9::ks) [(2,.ptr 0 0),(3,.ptr 1 0),(5,.own 2 3),(6,I 2),(7,.ptr 7 0),(25,.rows (x.map tblC)),(26,I 3),(27,I 2),(41,.rows (rs.map rowC)),(42,I (rs.length:Int)),(43,I jj)] [.cells [.rows (x.map tblC)],.cells [.rows (ds.map datC)],.rows 1 [[.mp 4],[.mp 6],[.mp 8]] true,.cells (tblC t0),.map e0,.cells (tblC t1),.map e1,.cells (tblC t2),.map es]) =
  R K (.run 193 0 ks [(2,.ptr 0 0),(3,.ptr 1 0),(5,.own 2 3),(25,.rows (x.map tblC)),(26,I 3),(27,I 2)] [.cells [.rows (x.map tblC)],.cells [.rows (ds.map datC)],.rows 1 [[.mp 4],[.mp 6],[.mp 8]] true,.cells (tblC t0),.map e0,.cells (tblC t1),.map e1,.cells (tblC t2),.map es'])
 | 0,j,es,hq,hS=>by
  have d:¬(j:Int) < (rs.length:Int):=by omega
  refine ⟨es,hS,fun ks jj Bo hB hj=>?_⟩
  subst hj
  unfold Loop at hB
  simp -implicitDefEqProofs only [go_sem,simprocAttr,Tryz.f193,loopOf] at hB
  subst hB
  rw [RL_eq]
  simp -implicitDefEqProofs only [go_sem,simprocAttr,d,tblC]
 | q+1,j,es,hq,hS=>by
  have d:(j:Int) < (rs.length:Int):=by omega
  have h7:=next_id (i:=j) (n:=rs.length) (by omega) (by omega)
  obtain ⟨r,hr⟩:=some_at (l:=rs) (i:=j) (by omega)
  have gr:=row_at hr
  have xp:=r_picked t2 hc r (hrs r (List.mem_of_getElem? hr)) t2.key hN hk
  have xk:=r_keyText (pickV t2 t2.key r) (by rw [pickV_len];exact hk)
  obtain ⟨v,hf,hS'⟩:=hS.put (keyB (pickV t2 t2.key r))
  obtain ⟨es',h',ih⟩:=l_rf2_32 x ds t0 t1 t2 e0 e1 hc hk hN rs hrs hl q (j+1) _ (by omega) hS'
  refine ⟨es',h',fun ks jj Bo hB hj=>?_⟩
  subst hj
  have ih:=ih ks _ Bo hB rfl
  simp only [rowC] at gr
  simp only [tblA,tblC] at xp
  simp only [tblC] at ih
  unfold Loop at hB
  simp -implicitDefEqProofs only [go_sem,simprocAttr,Tryz.f193,loopOf] at hB
  subst hB
  rw [RL_eq]
  simp -implicitDefEqProofs only [go_sem,simprocAttr,d,h7,gr,xp,xk,hf,tblC,rowC]
  exact ih
theorem l_rf8_3 (x:List Tbl) (ds:List Dat) (h:Led x ds) (hm:x.length=3) (t0 t1 t2:Tbl) (e0 e1 e2:List (AV×AV)) (s0:SetE e0) (s1:SetE e1) (s2:SetE e2) (i:Nat) (t:Tbl) (d:Dat) (hi:x[i]? = some t) (hd:ds[i]? = some d) (f:Fgn) (mf:f∈t.fgn) (jf:Int) :
  ∀ (q j:Nat),d.rows.length=j+q→∃ o:Option Int,∀ (ks:List It) (jj:Int) (Bo:Code),Loop Tryz.f193 8 Bo→jj=(j:Int) →
  RL K (.run 193 0 (.code Bo::.lp Bo (some ([2,3,5,12,13,15,64,65,66,72,73,74,83,84,85],[])) 11::.blk 8 11::ks) [(2,.ptr 0 0),(3,.ptr 1 0),(5,.own 2 3),(12,I (i:Int)),(13,.ptr 9 0),(15,.ptr 10 0),(64,.rows (x.map tblC)),(65,I 3),(66,I (i:Int)),(72,.rows (t.fgn.map fgnC)),(73,I (t.fgn.length:Int)),(74,I jf),(83,.rows (d.rows.map rowC)),(84,I (d.rows.length:Int)),(85,I jj)] [.cells [.rows (x.map tblC)],.cells [.rows (ds.map datC)],.rows 1 [[.mp 4],[.mp 6],[.mp 8]] true,.cells (tblC t0),.map e0,.cells (tblC t1),.map e1,.cells (tblC t2),.map e2,.cells (tblC t),.cells (fgnC f)]) =
  match o with
  | some e=>some (I e,[])
  | none=>R K (.run 193 0 ks [(2,.ptr 0 0),(3,.ptr 1 0),(5,.own 2 3),(12,I (i:Int)),(13,.ptr 9 0),(64,.rows (x.map tblC)),(65,I 3),(66,I (i:Int)),(72,.rows (t.fgn.map fgnC)),(73,I (t.fgn.length:Int)),(74,I jf)] [.cells [.rows (x.map tblC)],.cells [.rows (ds.map datC)],.rows 1 [[.mp 4],[.mp 6],[.mp 8]] true,.cells (tblC t0),.map e0,.cells (tblC t1),.map e1,.cells (tblC t2),.map e2,.cells (tblC t),.cells (fgnC f)])
 | 0,j,hq=>by
  have d1:¬(j:Int) < (d.rows.length:Int):=by omega
  refine ⟨none,fun ks jj Bo hB hj=>?_⟩
  subst hj
  unfold Loop at hB
  simp -implicitDefEqProofs only [go_sem,simprocAttr,Tryz.f193,loopOf] at hB
  subst hB
  rw [RL_eq]
  simp -implicitDefEqProofs only [go_sem,simprocAttr,d1,tblC,fgnC]
 | q+1,j,hq=>by
  have mt:=List.mem_of_getElem? hi
  have ft:=h.fit.tbl t mt
  have fd:=h.few.rows d (List.mem_of_getElem? hd)
  have hfit:=h.ok.fit i t d hi hd
  have d1:(j:Int) < (d.rows.length:Int):=by omega
  have h7:=next_id (i:=j) (n:=d.rows.length) (by omega) (by omega)
  obtain ⟨r,hr⟩:=some_at (l:=d.rows) (i:=j) (by omega)
  have gr:=row_at hr
  have hcf:=(ft.fg f mf).2
  have xp:=r_picked t ft.cols r (hfit r (List.mem_of_getElem? hr)) f.cols ((h.right.ok t mt).fg f mf) hcf
  have xk:=r_keyText (pickV t f.cols r) (by rw [pickV_len];exact hcf)
  have ekk:keyB (pickV t f.cols r)=keyT t f.cols r:=rfl
  rw [ekk] at xk
  obtain ⟨w,u,g,hw,hu,hg⟩:=h.to mt mf
  have xt:=r_TableAt x f.tb h.fit.len
  rw [hw] at xt
  have hwl:=(List.getElem?_eq_some_iff.1 hu).1
  rw [hm] at hwl
  simp only [rowC] at gr
  simp only [tblA,tblC] at xp
  cases hv:nullV (pickV t f.cols r) with
  | true =>
   rw [hv] at xp
   obtain ⟨o,ih⟩:=l_rf8_3 x ds h hm t0 t1 t2 e0 e1 e2 s0 s1 s2 i t d hi hd f mf jf q (j+1) (by omega)
   refine ⟨o,fun ks jj Bo hB hj=>?_⟩
   subst hj
   have ih:=ih ks _ Bo hB rfl
   simp only [tblC,fgnC] at ih
   unfold Loop at hB
   simp -implicitDefEqProofs only [go_sem,simprocAttr,Tryz.f193,loopOf] at hB
   subst hB
   rw [RL_eq]
   simp -implicitDefEqProofs only [go_sem,simprocAttr,d1,h7,gr,xp,xk,xt,Bool.not_true,tblC,fgnC,rowC]
   exact ih
  | false =>
   rw [hv] at xp
   have hw0:w=0∨w=1∨w=2:=by omega
   rcases hw0 with hw0 | hw0 | hw0
   ·obtain rfl:=hw0
    rcases s0.ask (keyT t f.cols r) with ⟨i0,hf⟩ | hf
    ·obtain ⟨o,ih⟩:=l_rf8_3 x ds h hm t0 t1 t2 e0 e1 e2 s0 s1 s2 i t d hi hd f mf jf q (j+1) (by omega)
     refine ⟨o,fun ks jj Bo hB hj=>?_⟩
     subst hj
     have ih:=ih ks _ Bo hB rfl
     simp only [tblC,fgnC] at ih
     unfold Loop at hB
     simp -implicitDefEqProofs only [go_sem,simprocAttr,Tryz.f193,loopOf] at hB
     subst hB
     rw [RL_eq]
     simp -implicitDefEqProofs only [go_sem,simprocAttr,d1,h7,gr,xp,xk,xt,hf,Bool.not_false,tblC,fgnC,rowC]
     exact ih
    ·refine ⟨some 11,fun ks jj Bo hB hj=>?_⟩
     subst hj
     unfold Loop at hB
     simp -implicitDefEqProofs only [go_sem,simprocAttr,Tryz.f193,loopOf] at hB
     subst hB
     rw [RL_eq]
     simp -implicitDefEqProofs only [go_sem,simprocAttr,d1,h7,gr,xp,xk,xt,hf,Bool.not_false,tblC,fgnC,rowC]
   ·obtain rfl:=hw0
    rcases s1.ask (keyT t f.cols r) with ⟨i0,hf⟩ | hf
    ·obtain ⟨o,ih⟩:=l_rf8_3 x ds h hm t0 t1 t2 e0 e1 e2 s0 s1 s2 i t d hi hd f mf jf q (j+1) (by omega)
     refine ⟨o,fun ks jj Bo hB hj=>?_⟩
     subst hj
     have ih:=ih ks _ Bo hB rfl
     simp only [tblC,fgnC] at ih
     unfold Loop at hB
     simp -implicitDefEqProofs only [go_sem,simprocAttr,Tryz.f193,loopOf] at hB
     subst hB
     rw [RL_eq]
     simp -implicitDefEqProofs only [go_sem,simprocAttr,d1,h7,gr,xp,xk,xt,hf,Bool.not_false,tblC,fgnC,rowC]
     exact ih
    ·refine ⟨some 11,fun ks jj Bo hB hj=>?_⟩
     subst hj
     unfold Loop at hB
     simp -implicitDefEqProofs only [go_sem,simprocAttr,Tryz.f193,loopOf] at hB
     subst hB
     rw [RL_eq]
     simp -implicitDefEqProofs only [go_sem,simprocAttr,d1,h7,gr,xp,xk,xt,hf,Bool.not_false,tblC,fgnC,rowC]
   ·obtain rfl:=hw0
    rcases s2.ask (keyT t f.cols r) with ⟨i0,hf⟩ | hf
    ·obtain ⟨o,ih⟩:=l_rf8_3 x ds h hm t0 t1 t2 e0 e1 e2 s0 s1 s2 i t d hi hd f mf jf q (j+1) (by omega)
     refine ⟨o,fun ks jj Bo hB hj=>?_⟩
     subst hj
     have ih:=ih ks _ Bo hB rfl
     simp only [tblC,fgnC] at ih
     unfold Loop at hB
     simp -implicitDefEqProofs only [go_sem,simprocAttr,Tryz.f193,loopOf] at hB
     subst hB
     rw [RL_eq]
     simp -implicitDefEqProofs only [go_sem,simprocAttr,d1,h7,gr,xp,xk,xt,hf,Bool.not_false,tblC,fgnC,rowC]
     exact ih
    ·refine ⟨some 11,fun ks jj Bo hB hj=>?_⟩
     subst hj
     unfold Loop at hB
     simp -implicitDefEqProofs only [go_sem,simprocAttr,Tryz.f193,loopOf] at hB
     subst hB
     rw [RL_eq]
     simp -implicitDefEqProofs only [go_sem,simprocAttr,d1,h7,gr,xp,xk,xt,hf,Bool.not_false,tblC,fgnC,rowC]
theorem l_rf6_3 (x:List Tbl) (ds:List Dat) (h:Led x ds) (hm:x.length=3) (t0 t1 t2:Tbl) (e0 e1 e2:List (AV×AV)) (s0:SetE e0) (s1:SetE e1) (s2:SetE e2) (i:Nat) (t:Tbl) (d:Dat) (hi:x[i]? = some t) (hd:ds[i]? = some d) :
  ∀ (q j:Nat),t.fgn.length=j+q→∃ o:Option Int,∀ (ks:List It) (jj:Int) (Bo:Code),Loop Tryz.f193 6 Bo→jj=(j:Int) →
  RL K (.run 193 0 (.code Bo::.lp Bo (some ([2,3,5,12,13,64,65,66,72,73,74],[])) 10::.blk 6 10::ks) [(2,.ptr 0 0),(3,.ptr 1 0),(5,.own 2 3),(12,I (i:Int)),(13,.ptr 9 0),(64,.rows (x.map tblC)),(65,I 3),(66,I (i:Int)),(72,.rows (t.fgn.map fgnC)),(73,I (t.fgn.length:Int)),(74,I jj)] [.cells [.rows (x.map tblC)],.cells [.rows (ds.map datC)],.rows 1 [[.mp 4],[.mp 6],[.mp 8]] true,.cells (tblC t0),.map e0,.cells (tblC t1),.map e1,.cells (tblC t2),.map e2,.cells (tblC t)]) =
  match o with
  | some e=>some (I e,[])
  | none=>R K (.run 193 0 ks [(2,.ptr 0 0),(3,.ptr 1 0),(5,.own 2 3),(64,.rows (x.map tblC)),(65,I 3),(66,I (i:Int))] [.cells [.rows (x.map tblC)],.cells [.rows (ds.map datC)],.rows 1 [[.mp 4],[.mp 6],[.mp 8]] true,.cells (tblC t0),.map e0,.cells (tblC t1),.map e1,.cells (tblC t2),.map e2,.cells (tblC t)])
 | 0,j,hq=>by
  have d1:¬(j:Int) < (t.fgn.length:Int):=by omega
  refine ⟨none,fun ks jj Bo hB hj=>?_⟩
  subst hj
  unfold Loop at hB
  simp -implicitDefEqProofs only [go_sem,simprocAttr,Tryz.f193,loopOf] at hB
  subst hB
  rw [RL_eq]
  simp -implicitDefEqProofs only [go_sem,simprocAttr,d1,tblC]
 | q+1,j,hq=>by
  have mt:=List.mem_of_getElem? hi
  have tfl:=(h.fit.tbl t mt).fgn
  have d1:(j:Int) < (t.fgn.length:Int):=by omega
  have h7:=next_id (i:=j) (n:=t.fgn.length) (by omega) (by omega)
  obtain ⟨f,hf⟩:=some_at (l:=t.fgn) (i:=j) (by omega)
  have gf:=fgn_get hf
  have gd:=dat_at hd
  obtain ⟨o1,l8⟩:=l_rf8_3 x ds h hm t0 t1 t2 e0 e1 e2 s0 s1 s2 i t d hi hd f (List.mem_of_getElem? hf) (j:Int) d.rows.length 0 (by omega)
  have l8:=fun ks B hB=>l8 ks 0 B hB rfl
  simp only [fgnC] at gf
  simp only [datC] at gd
  cases o1 with
  | some e =>
   refine ⟨some e,fun ks jj Bo hB hj=>?_⟩
   subst hj
   simp only [tblC,fgnC] at l8
   unfold Loop at hB
   simp -implicitDefEqProofs only [go_sem,simprocAttr,Tryz.f193,loopOf] at hB
   subst hB
   rw [RL_eq]
   simp -implicitDefEqProofs only [go_sem,simprocAttr,d1,h7,gf,gd,tblC,fgnC,datC,List.length_map]
   rw [l8 _ _ ?_]
   rfl
  | none =>
   obtain ⟨o,ih⟩:=l_rf6_3 x ds h hm t0 t1 t2 e0 e1 e2 s0 s1 s2 i t d hi hd q (j+1) (by omega)
   refine ⟨o,fun ks jj Bo hB hj=>?_⟩
   subst hj
   have ih:=ih ks _ Bo hB rfl
   simp only [tblC,fgnC] at l8 ih
   unfold Loop at hB
   simp -implicitDefEqProofs only [go_sem,simprocAttr,Tryz.f193,loopOf] at hB
   subst hB
   rw [RL_eq]
   simp -implicitDefEqProofs only [go_sem,simprocAttr,d1,h7,gf,gd,tblC,fgnC,datC,List.length_map]
   rw [l8 _ _ ?_]
   ·simp -implicitDefEqProofs only [go_sem,simprocAttr,h7,tblC,fgnC,List.length_map]
    exact ih
   ·rfl
theorem l_rf4_3 (x:List Tbl) (ds:List Dat) (h:Led x ds) (hm:x.length=3) (t0 t1 t2:Tbl) (e0 e1 e2:List (AV×AV)) (s0:SetE e0) (s1:SetE e1) (s2:SetE e2):∀ (q i:Nat),x.length=i+q→∃ o:Option Int,∀ (ks:List It) (ii:Int) (Bo:Code),Loop Tryz.f193 4 Bo→ii=(i:Int) →
  RL K (.run 193 0 (.code Bo::.lp Bo (some ([2,3,5,64,65,66],[])) 9::.blk 4 9::ks) [(2,.ptr 0 0),(3,.ptr 1 0),(5,.own 2 3),(64,.rows (x.map tblC)),(65,I 3),(66,I ii)] [.cells [.rows (x.map tblC)],.cells [.rows (ds.map datC)],.rows 1 [[.mp 4],[.mp 6],[.mp 8]] true,.cells (tblC t0),.map e0,.cells (tblC t1),.map e1,.cells (tblC t2),.map e2]) =
  match o with
  | some e=>some (I e,[])
  | none=>R K (.run 193 0 ks [] [.cells [.rows (x.map tblC)],.cells [.rows (ds.map datC)],.rows 1 [[.mp 4],[.mp 6],[.mp 8]] true,.cells (tblC t0),.map e0,.cells (tblC t1),.map e1,.cells (tblC t2),.map e2])
 | 0,i,hq=>by
  have d1:¬(i:Int) < 3:=by omega
  refine ⟨none,fun ks ii Bo hB hi=>?_⟩
  subst hi
  unfold Loop at hB
  simp -implicitDefEqProofs only [go_sem,simprocAttr,Tryz.f193,loopOf] at hB
  subst hB
  rw [RL_eq]
  simp -implicitDefEqProofs only [go_sem,simprocAttr,d1,tblC]
 | q+1,i,hq=>by
  have d1:(i:Int) < 3:=by omega
  have h7:=next_id (i:=i) (n:=x.length) (by omega) (by omega)
  have hdl:=h.ok.len
  obtain ⟨t,ht⟩:=some_at (l:=x) (i:=i) (by omega)
  obtain ⟨d,hd⟩:=some_at (l:=ds) (i:=i) (by omega)
  have gt:=tbl_get ht
  obtain ⟨o1,l6⟩:=l_rf6_3 x ds h hm t0 t1 t2 e0 e1 e2 s0 s1 s2 i t d ht hd t.fgn.length 0 (by omega)
  have l6:=fun ks B hB=>l6 ks 0 B hB rfl
  cases o1 with
  | some e =>
   refine ⟨some e,fun ks ii Bo hB hi=>?_⟩
   subst hi
   simp only [tblC] at l6 gt
   unfold Loop at hB
   simp -implicitDefEqProofs only [go_sem,simprocAttr,Tryz.f193,loopOf] at hB
   subst hB
   rw [RL_eq]
   simp -implicitDefEqProofs only [go_sem,simprocAttr,d1,h7,gt,tblC,List.length_map]
   rw [l6 _ _ ?_]
   rfl
  | none =>
   obtain ⟨o,ih⟩:=l_rf4_3 x ds h hm t0 t1 t2 e0 e1 e2 s0 s1 s2 q (i+1) (by omega)
   refine ⟨o,fun ks ii Bo hB hi=>?_⟩
   subst hi
   have ih:=ih ks _ Bo hB rfl
   simp only [tblC] at l6 gt ih
   unfold Loop at hB
   simp -implicitDefEqProofs only [go_sem,simprocAttr,Tryz.f193,loopOf] at hB
   subst hB
   rw [RL_eq]
   simp -implicitDefEqProofs only [go_sem,simprocAttr,d1,h7,gt,tblC,List.length_map]
   rw [l6 _ _ ?_]
   ·simp -implicitDefEqProofs only [go_sem,simprocAttr,h7,tblC,List.length_map]
    exact ih
   ·rfl
theorem r_refsFault_3 (x:List Tbl) (ds:List Dat) (h:Led x ds) (hm:x.length=3):∃ e,R K (.call 193 [schC x,datS ds] [])=some (I e,[]):=by
 have hmi:((x.length:Nat):Int)=3:=by omega
 have hdl:=h.ok.len
 obtain ⟨t0,ht0⟩:=some_at (l:=x) (i:=0) (by omega)
 obtain ⟨d0,hd0⟩:=some_at (l:=ds) (i:=0) (by omega)
 have gt0:at? (x.map tblC) 0=some (tblC t0):=tbl_get ht0
 have gd0:at? (ds.map datC) 0=some (datC d0):=dat_at hd0
 have mt0:=List.mem_of_getElem? ht0
 obtain ⟨e0,s0,l0⟩:=l_rf2_30 x ds t0  (h.fit.tbl t0 mt0).cols (h.fit.tbl t0 mt0).key (h.right.ok t0 mt0).key d0.rows (h.ok.fit 0 t0 d0 ht0 hd0) (h.few.rows d0 (List.mem_of_getElem? hd0)).1 d0.rows.length 0 [] (by omega) SetE.nil
 have l0:=fun ks B hB=>l0 ks 0 B hB rfl
 obtain ⟨t1,ht1⟩:=some_at (l:=x) (i:=1) (by omega)
 obtain ⟨d1,hd1⟩:=some_at (l:=ds) (i:=1) (by omega)
 have gt1:at? (x.map tblC) 1=some (tblC t1):=tbl_get ht1
 have gd1:at? (ds.map datC) 1=some (datC d1):=dat_at hd1
 have mt1:=List.mem_of_getElem? ht1
 obtain ⟨e1,s1,l1⟩:=l_rf2_31 x ds t0 t1 e0 (h.fit.tbl t1 mt1).cols (h.fit.tbl t1 mt1).key (h.right.ok t1 mt1).key d1.rows (h.ok.fit 1 t1 d1 ht1 hd1) (h.few.rows d1 (List.mem_of_getElem? hd1)).1 d1.rows.length 0 [] (by omega) SetE.nil
 have l1:=fun ks B hB=>l1 ks 0 B hB rfl
 obtain ⟨t2,ht2⟩:=some_at (l:=x) (i:=2) (by omega)
 obtain ⟨d2,hd2⟩:=some_at (l:=ds) (i:=2) (by omega)
 have gt2:at? (x.map tblC) 2=some (tblC t2):=tbl_get ht2
 have gd2:at? (ds.map datC) 2=some (datC d2):=dat_at hd2
 have mt2:=List.mem_of_getElem? ht2
 obtain ⟨e2,s2,l2⟩:=l_rf2_32 x ds t0 t1 t2 e0 e1 (h.fit.tbl t2 mt2).cols (h.fit.tbl t2 mt2).key (h.right.ok t2 mt2).key d2.rows (h.ok.fit 2 t2 d2 ht2 hd2) (h.few.rows d2 (List.mem_of_getElem? hd2)).1 d2.rows.length 0 [] (by omega) SetE.nil
 have l2:=fun ks B hB=>l2 ks 0 B hB rfl
 obtain ⟨o,l4⟩:=l_rf4_3 x ds h hm t0 t1 t2 e0 e1 e2 s0 s1 s2 x.length 0 (by omega)
 have l4:=fun ks B hB=>l4 ks 0 B hB rfl
 simp only [tblC] at l4 l0 gt0 l1 gt1 l2 gt2
 simp only [datC] at gd0 gd1 gd2
 cases o with
 | some e =>
  refine ⟨e,?_⟩
  rw [call_193]
  simp -implicitDefEqProofs only [go_sem,simprocAttr,Tryz.f193,mk241_3,hmi,gt0,gd0,gt1,gd1,gt2,gd2,tblC,datC,List.length_map]
  rw [RL_eq]
  simp -implicitDefEqProofs only [go_sem,simprocAttr,mk241_3,hmi,gt0,gd0,gt1,gd1,gt2,gd2,tblC,datC,List.length_map]
  rw [l0 _ _ (by rfl)]
  simp -implicitDefEqProofs only [go_sem,simprocAttr,mk241_3,hmi,gt0,gd0,gt1,gd1,gt2,gd2,tblC,datC,List.length_map]
  rw [RL_eq]
  simp -implicitDefEqProofs only [go_sem,simprocAttr,mk241_3,hmi,gt0,gd0,gt1,gd1,gt2,gd2,tblC,datC,List.length_map]
  rw [l1 _ _ (by rfl)]
  simp -implicitDefEqProofs only [go_sem,simprocAttr,mk241_3,hmi,gt0,gd0,gt1,gd1,gt2,gd2,tblC,datC,List.length_map]
  rw [RL_eq]
  simp -implicitDefEqProofs only [go_sem,simprocAttr,mk241_3,hmi,gt0,gd0,gt1,gd1,gt2,gd2,tblC,datC,List.length_map]
  rw [l2 _ _ (by rfl)]
  simp -implicitDefEqProofs only [go_sem,simprocAttr,mk241_3,hmi,gt0,gd0,gt1,gd1,gt2,gd2,tblC,datC,List.length_map]
  rw [RL_eq]
  simp -implicitDefEqProofs only [go_sem,simprocAttr,mk241_3,hmi,gt0,gd0,gt1,gd1,gt2,gd2,tblC,datC,List.length_map]
  rw [l4 _ _ (by rfl)]
 | none =>
  refine ⟨0,?_⟩
  rw [call_193]
  simp -implicitDefEqProofs only [go_sem,simprocAttr,Tryz.f193,mk241_3,hmi,gt0,gd0,gt1,gd1,gt2,gd2,tblC,datC,List.length_map]
  rw [RL_eq]
  simp -implicitDefEqProofs only [go_sem,simprocAttr,mk241_3,hmi,gt0,gd0,gt1,gd1,gt2,gd2,tblC,datC,List.length_map]
  rw [l0 _ _ (by rfl)]
  simp -implicitDefEqProofs only [go_sem,simprocAttr,mk241_3,hmi,gt0,gd0,gt1,gd1,gt2,gd2,tblC,datC,List.length_map]
  rw [RL_eq]
  simp -implicitDefEqProofs only [go_sem,simprocAttr,mk241_3,hmi,gt0,gd0,gt1,gd1,gt2,gd2,tblC,datC,List.length_map]
  rw [l1 _ _ (by rfl)]
  simp -implicitDefEqProofs only [go_sem,simprocAttr,mk241_3,hmi,gt0,gd0,gt1,gd1,gt2,gd2,tblC,datC,List.length_map]
  rw [RL_eq]
  simp -implicitDefEqProofs only [go_sem,simprocAttr,mk241_3,hmi,gt0,gd0,gt1,gd1,gt2,gd2,tblC,datC,List.length_map]
  rw [l2 _ _ (by rfl)]
  simp -implicitDefEqProofs only [go_sem,simprocAttr,mk241_3,hmi,gt0,gd0,gt1,gd1,gt2,gd2,tblC,datC,List.length_map]
  rw [RL_eq]
  simp -implicitDefEqProofs only [go_sem,simprocAttr,mk241_3,hmi,gt0,gd0,gt1,gd1,gt2,gd2,tblC,datC,List.length_map]
  rw [l4 _ _ (by rfl)]
  simp -implicitDefEqProofs only [go_sem,simprocAttr,tblC]
theorem r_refsFault (x:List Tbl) (ds:List Dat) (h:Led x ds) (h1:1≤x.length) (h3:x.length≤3):∃ e,R K (.call 193 [schC x,datS ds] [])=some (I e,[]):=by
 rcases (show x.length=1∨x.length=2∨x.length=3 by omega) with hm | hm | hm
 ·exact r_refsFault_1 x ds h hm
 ·exact r_refsFault_2 x ds h hm
 ·exact r_refsFault_3 x ds h hm
theorem names_in {t:Tbl} {l:List (List UInt8)} (h:∀ n∈l,n∈t.cols.map (·.nm)):NamesIn t l:=fun n hn hlt=>by
 rcases ixN_ge n (t.cols.map (·.nm)) 0 with h1 | h1
 ·exact (ixN_mem n (t.cols.map (·.nm)) 0).1 h1 (h n hn)
 ·omega
theorem MadeX.idxIn {x:List Tbl} (h:MadeX x):∀ t∈x,∀ y∈t.idx,NamesIn t y.cols:=fun t ht y hy=>names_in (h.idx t ht y hy)
theorem MadeX.noted {x:List Tbl} (h:MadeX x) {u:Tbl} (mu:u∈x) {r:List Val} (hr:r.length=u.cols.length):Noted x u r:=by
 have s:=h.sz.tbl u mu
 refine ⟨by have:=s.cl;omega,hr,⟨(h.right.ok u mu).key,by have:=s.key;omega⟩,⟨by have:=s.il;omega,fun y hy=>⟨h.idxIn u mu y hy,by have:=(s.ix y hy).2;omega,by have:=(s.ix y hy).1;omega⟩⟩,⟨by have:=s.fl;omega,fun f hf=>⟨(h.right.ok u mu).fg f hf,by have:=(s.fg f hf).2;omega,?_⟩⟩⟩
 have h1:=h.right.leads u mu f hf
 have h2:f.tb∈x.map (·.nm):=by
  by_cases hm:f.tb∈x.map (·.nm)
  ·exact hm
  ·exact absurd ((ixN_mem f.tb (x.map (·.nm)) 0).2 hm) (fun e=>h1 (by omega))
 obtain ⟨v,mv,e⟩:=List.mem_map.1 h2
 rw [←e]
 have:=(h.sz.tbl v mv).nm
 omega
theorem Led.more {x:List Tbl} {ds:List Dat} (h:Led x ds) {nm:List UInt8} {w:Nat} {u:Tbl} {d:Dat} (hs:Seen x ds nm w u d) {r:List Val} (hr:r.length=u.cols.length) (hl:r.length≤1000000) (hn:d.rows.length≤100000) {rs:List (List Val)} (m:Shuf (d.rows++[r]) rs):Led x (ds.set w ⟨d.nm,rs⟩):=by
 have hwl:=(List.getElem?_eq_some_iff.1 hs.da).1
 have ml:=m.1
 rw [List.length_append,List.length_cons,List.length_nil] at ml
 refine ⟨h.fit,h.right,h.idx,⟨?_,fun i t d' hi hd=>?_⟩,⟨by rw [List.length_set];exact h.few.len,fun d' hd=>?_⟩⟩
 ·rw [h.ok.nm]
  refine List.ext_getElem? fun i=>?_
  rw [List.getElem?_map,List.getElem?_map,List.getElem?_set]
  by_cases e:w=i
  ·subst e
   rw [if_pos rfl,if_pos hwl,hs.da]
   rfl
  ·rw [if_neg e]
 ·rw [List.getElem?_set] at hd
  by_cases e:w=i
  ·subst e
   rw [if_pos rfl,if_pos hwl] at hd
   obtain rfl:=Option.some.inj hd
   rw [hs.tb] at hi
   obtain rfl:=Option.some.inj hi
   intro o ho
   rcases List.mem_append.1 (m.2 o ho) with h1 | h1
   ·exact h.ok.fit w u d hs.tb hs.da o h1
   ·rw [List.mem_singleton] at h1;rw [h1];exact hr
  ·rw [if_neg e] at hd
   exact h.ok.fit i t d' hi hd
 ·rcases List.mem_or_eq_of_mem_set hd with h1 | h1
  ·exact h.few.rows d' h1
  ·subst h1
   refine ⟨by show rs.length≤_;omega,fun o ho=>?_⟩
   rcases List.mem_append.1 (m.2 o ho) with h1 | h1
   ·exact (h.few.rows d (List.mem_of_getElem? hs.da)).2 o h1
   ·rw [List.mem_singleton] at h1;rw [h1];exact hl
theorem l_ba0 (x:List Tbl) (ds dn:List Dat) (es:List (AV×AV)) (hn:dn.length≤1000000) (hb:∀ d∈dn,d.rows.length≤5000) (ks:List It) :
  ∀ (q j:Nat) (jj:Int) (Bo:Code),Loop Tryz.f116 0 Bo→jj=(j:Int)→dn.length=j+q →
  RL K (.run 116 3 (.code Bo::.lp Bo (some ([0,6,37,38,39],[])) 4::.blk 0 4::ks) [(0,.ptr 0 0),(6,.ptr 3 0),(37,.rows (dn.map datC)),(38,I (dn.length:Int)),(39,I jj)] (txH x ds es++[.cells [.rows (dn.map datC)]])) =
  R K (.run 116 3 ks [(0,.ptr 0 0),(6,.ptr 3 0)] (txH x ds es++[.cells [.rows (dn.map datC)]]))
 | 0,j,jj,Bo,hB,hj,hq=>by
  subst hj
  have d:¬(j:Int) < (dn.length:Int):=by omega
  simp only [txH,txC,List.cons_append,List.nil_append]
  unfold Loop at hB
  simp -implicitDefEqProofs only [go_sem,simprocAttr,Tryz.f116,loopOf] at hB
  subst hB
  rw [RL_eq]
  simp -implicitDefEqProofs only [go_sem,simprocAttr,d]
 | q+1,j,jj,Bo,hB,hj,hq=>by
  subst hj
  have hB':=hB
  have d:(j:Int) < (dn.length:Int):=by omega
  have h7:=next_id (i:=j) (n:=dn.length) (by omega) (by omega)
  obtain ⟨a,ha⟩:=some_at (l:=dn) (i:=j) (by omega)
  have ga:=dat_at ha
  have hal:=hb a (List.mem_of_getElem? ha)
  have d2:¬(5000:Int) < (a.rows.length:Int):=by omega
  have ih:=l_ba0 x ds dn es hn hb ks q (j+1) _ Bo hB' rfl (by omega)
  simp only [datC] at ga
  simp only [txH,txC,List.cons_append,List.nil_append] at ih ⊢
  unfold Loop at hB
  simp -implicitDefEqProofs only [go_sem,simprocAttr,Tryz.f116,loopOf] at hB
  subst hB
  rw [RL_eq]
  simp -implicitDefEqProofs only [go_sem,simprocAttr,d,h7,ga,d2,datC,List.length_map]
  exact ih
theorem l_ba2 (x:List Tbl) (ds dn:List Dat) (es:List (AV×AV)) (h:Led x dn) :
  ∀ (q j:Nat),x.length=j+q→∃ o:Option Int,∀ (ks:List It) (jj:Int) (Bo:Code),Loop Tryz.f116 2 Bo→jj=(j:Int) →
  RL K (.run 116 3 (.code Bo::.lp Bo (some ([0,6,52,53,54],[])) 4::.blk 2 4::ks) [(0,.ptr 0 0),(6,.ptr 3 0),(52,.rows (x.map tblC)),(53,I (x.length:Int)),(54,I jj)] (txH x ds es++[.cells [.rows (dn.map datC)]])) =
  match o with
  | some e=>some (I e,txH x ds es)
  | none=>R K (.run 116 3 ks [(0,.ptr 0 0),(6,.ptr 3 0)] (txH x ds es++[.cells [.rows (dn.map datC)]]))
 | 0,j,hq=>by
  have d:¬(j:Int) < (x.length:Int):=by omega
  refine ⟨none,fun ks jj Bo hB hj=>?_⟩
  subst hj
  simp only [txH,txC,List.cons_append,List.nil_append]
  unfold Loop at hB
  simp -implicitDefEqProofs only [go_sem,simprocAttr,Tryz.f116,loopOf] at hB
  subst hB
  rw [RL_eq]
  simp -implicitDefEqProofs only [go_sem,simprocAttr,d]
 | q+1,j,hq=>by
  have d:(j:Int) < (x.length:Int):=by omega
  have hxl:=h.fit.len
  have hdl:=h.ok.len
  have h7:=next_id (i:=j) (n:=x.length) (by omega) (by omega)
  obtain ⟨t,ht⟩:=some_at (l:=x) (i:=j) (by omega)
  obtain ⟨a,ha⟩:=some_at (l:=dn) (i:=j) (by omega)
  have gt:=tbl_get ht
  have ga:=dat_at ha
  have mt:=List.mem_of_getElem? ht
  have ft:=h.fit.tbl t mt
  obtain ⟨e,xk⟩:=r_keysFault t ft.cols ft.key (h.right.ok t mt).key ⟨ft.idx,fun y hy=>⟨h.idx t mt y hy,(ft.ix y hy).2⟩⟩ a.rows (h.ok.fit j t a ht ha) (h.few.rows a (List.mem_of_getElem? ha)).1
  simp only [datC] at ga
  simp only [tblA,tblC] at gt xk
  by_cases h0:e=0
  ·subst h0
   obtain ⟨o,ih⟩:=l_ba2 x ds dn es h q (j+1) (by omega)
   refine ⟨o,fun ks jj Bo hB hj=>?_⟩
   subst hj
   have ih:=ih ks _ Bo hB rfl
   simp only [txH,txC,List.cons_append,List.nil_append] at ih ⊢
   unfold Loop at hB
   simp -implicitDefEqProofs only [go_sem,simprocAttr,Tryz.f116,loopOf] at hB
   subst hB
   rw [RL_eq]
   simp -implicitDefEqProofs only [go_sem,simprocAttr,d,h7,gt,ga,xk,bne,beq_self_eq_true,datC,tblC,List.length_map]
   exact ih
  ·have b0:(e==0)=false:=by simpa using h0
   refine ⟨some e,fun ks jj Bo hB hj=>?_⟩
   subst hj
   simp only [txH,txC,List.cons_append,List.nil_append]
   unfold Loop at hB
   simp -implicitDefEqProofs only [go_sem,simprocAttr,Tryz.f116,loopOf] at hB
   subst hB
   rw [RL_eq]
   simp -implicitDefEqProofs only [go_sem,simprocAttr,d,h7,gt,ga,xk,bne,b0,datC,tblC,List.length_map]
theorem r_Batch (x:List Tbl) (hx:MadeX x) (ds:List Dat) (hL:Led x ds) (es:List (AV×AV)) (hS:SetE es) {nm:List UInt8} {w:Nat} {u:Tbl} {d:Dat} (h:Seen x ds nm w u d) (hnm:nm.length≤100000) (hb:∀ d∈ds,d.rows.length≤18) (r:List Val) (hrl:r.length≤1000000) :
  ∃ (e:Int) (es':List (AV×AV)) (ds':List Dat),SetE es'∧(ds'=ds∨∃ rs,Shuf (d.rows++[r]) rs∧r.length=u.cols.length∧ds'=ds.set w ⟨d.nm,rs⟩) ∧
  R K (.call 116 [.ptr 0 0,.rows [chC nm r]] (txH x ds es))=some (I e,txH x ds' es'):=by
 have mu:=List.mem_of_getElem? h.tb
 have md:=List.mem_of_getElem? h.da
 have su:=hx.sz.tbl u mu
 have ucl:=su.cl
 have uc1:=su.c1
 have ukl:=su.key
 have hxl:=hL.fit.len
 have hdl:=hL.ok.len
 have x1:=hx.sz.l1
 have x3:=hx.sz.l3
 have xf:=r_formOf x ds es hxl h (by omega) r hrl
 by_cases h0:rowF true u r=0
 ·have b0:(rowF true u r==0)=true:=by simpa using h0
  have hr:r.length=u.cols.length:=by
   unfold rowF at h0
   split at h0
   ·assumption
   ·simp at h0
  rw [h0] at xf
  obtain ⟨es1,s1,xn⟩:=r_note x ds es hS hxl hnm h r (hx.noted mu hr)
  have hdb:=hb d md
  obtain ⟨rs,m,xm⟩:=r_moved x ds es1 hxl (by omega) (by omega) hnm h (fun d hd=>by have:=hb d hd;omega) (by omega) (by omega) (hL.right.ok u mu).key (by omega) (hL.ok.fit w u d h.tb h.da) r (by omega) hr
  have hL':=hL.more h hr hrl (by omega) m
  have hb':∀ d'∈ds.set w ⟨d.nm,rs⟩,d'.rows.length≤5000:=fun d' hd=>by
   rcases List.mem_or_eq_of_mem_set hd with h1 | h1
   ·have:=hb d' h1;omega
   ·subst h1
    have:=m.1
    rw [List.length_append,List.length_cons,List.length_nil] at this
    show rs.length≤5000
    omega
  have key:∀ dn,Led x dn→(∀ d'∈dn,d'.rows.length≤5000)→R K (.call 192 [.ptr 0 0,.rows [chC nm r]] (txH x ds es1))=some (.tup [datS dn,I 0],txH x ds es1) →
    ∃ (e:Int) (b:Bool),R K (.call 116 [.ptr 0 0,.rows [chC nm r]] (txH x ds es))=some (I e,txH x (if b=true then dn else ds) es1):=by
   intro dn hn hbn xm
   have l0:=fun ks B hB=>l_ba0 x ds dn es1 hn.few.len hbn ks dn.length 0 0 B hB rfl (by omega)
   obtain ⟨o,l2⟩:=l_ba2 x ds dn es1 hn x.length 0 (by omega)
   have l2:=fun ks B hB=>l2 ks 0 B hB rfl
   obtain ⟨e,xr⟩:=r_refsFault x dn hn x1 x3
   cases o with
   | some e =>
    refine ⟨e,false,?_⟩
    simp only [txH,txC,chC,schC,datS,List.cons_append,List.nil_append,Bool.false_eq_true,if_false] at xf xn xm l0 l2 ⊢
    rw [call_116]
    simp -implicitDefEqProofs only [go_sem,simprocAttr,Tryz.f116,xf,xn,xm,bne,beq_self_eq_true,List.length_map]
    rw [l0 _ _ (by rfl)]
    simp -implicitDefEqProofs only [go_sem,simprocAttr,List.length_map]
    rw [l2 _ _ (by rfl)]
   | none =>
    by_cases e0:e=0
    ·subst e0
     refine ⟨0,true,?_⟩
     simp only [txH,txC,chC,schC,datS,List.cons_append,List.nil_append,if_true] at xf xn xm xr l0 l2 ⊢
     rw [call_116]
     simp -implicitDefEqProofs only [go_sem,simprocAttr,Tryz.f116,xf,xn,xm,bne,beq_self_eq_true,List.length_map]
     rw [l0 _ _ (by rfl)]
     simp -implicitDefEqProofs only [go_sem,simprocAttr,List.length_map]
     rw [l2 _ _ (by rfl)]
     simp -implicitDefEqProofs only [go_sem,simprocAttr,xr,bne,beq_self_eq_true]
    ·have b1:(e==0)=false:=by simpa using e0
     refine ⟨e,false,?_⟩
     simp only [txH,txC,chC,schC,datS,List.cons_append,List.nil_append,Bool.false_eq_true,if_false] at xf xn xm xr l0 l2 ⊢
     rw [call_116]
     simp -implicitDefEqProofs only [go_sem,simprocAttr,Tryz.f116,xf,xn,xm,bne,beq_self_eq_true,List.length_map]
     rw [l0 _ _ (by rfl)]
     simp -implicitDefEqProofs only [go_sem,simprocAttr,List.length_map]
     rw [l2 _ _ (by rfl)]
     simp -implicitDefEqProofs only [go_sem,simprocAttr,xr,bne,b1]
  obtain ⟨e,b,key⟩:=key _ hL' hb' xm
  cases b with
  | true=>exact ⟨e,es1,_,s1,.inr ⟨rs,m,hr,rfl⟩,key⟩
  | false=>exact ⟨e,es1,_,s1,.inl rfl,key⟩
 ·have b0:(rowF true u r==0)=false:=by simpa using h0
  refine ⟨rowF true u r,es,ds,hS,.inl rfl,?_⟩
  simp only [txH,txC,chC] at xf ⊢
  rw [call_116]
  simp -implicitDefEqProofs only [go_sem,simprocAttr,Tryz.f116,xf,bne,b0]
theorem r_single (x:List Tbl) (hx:MadeX x) (ds:List Dat) (hL:Led x ds) (es:List (AV×AV)) (hS:SetE es) {nm:List UInt8} {w:Nat} {u:Tbl} {d:Dat} (h:Seen x ds nm w u d) (hnm:nm.length≤100000) (hb:∀ d∈ds,d.rows.length≤18) (r:List Val) (hrl:r.length≤1000000) :
  ∃ (e:Int) (es':List (AV×AV)) (ds':List Dat),SetE es'∧(ds'=ds∨∃ rs,Shuf (d.rows++[r]) rs∧r.length=u.cols.length∧ds'=ds.set w ⟨d.nm,rs⟩) ∧
  R K (.call 66 [.ptr 0 0,.agg (chC nm r)] (txH x ds es))=some (I e,txH x ds' es'):=by
 obtain ⟨e,es',ds',s',c,xb⟩:=r_Batch x hx ds hL es hS h hnm hb r hrl
 have xs:=r_see x ds es hL.fit.len h
 refine ⟨e,es',ds',s',c,?_⟩
 simp only [txH,txC,chC] at xb xs ⊢
 rw [call_66]
 simp -implicitDefEqProofs only [go_sem,simprocAttr,Tryz.f66,xs,xb,bne,beq_self_eq_true,tblC,datC]
theorem r_Insert (x:List Tbl) (hx:MadeX x) (ds:List Dat) (hL:Led x ds) (es:List (AV×AV)) (hS:SetE es) {nm:List UInt8} {w:Nat} {u:Tbl} {d:Dat} (h:Seen x ds nm w u d) (hnm:nm.length≤100000) (hb:∀ d∈ds,d.rows.length≤18) (r:List Val) (hrl:r.length≤1000000) :
  ∃ (e:Int) (es':List (AV×AV)) (ds':List Dat),SetE es'∧(ds'=ds∨∃ rs,Shuf (d.rows++[r]) rs∧r.length=u.cols.length∧ds'=ds.set w ⟨d.nm,rs⟩) ∧
  R K (.call 25 [.ptr 0 0,.str nm,vsA r] (txH x ds es))=some (I e,txH x ds' es'):=by
 obtain ⟨e,es',ds',s',c,xs⟩:=r_single x hx ds hL es hS h hnm hb r hrl
 refine ⟨e,es',ds',s',c,?_⟩
 simp only [txH,txC,chC] at xs ⊢
 rw [call_25]
 simp -implicitDefEqProofs only [go_sem,simprocAttr,Tryz.f25,xs]
theorem l_td0 (x:List Tbl) (ds:List Dat) (hx:MadeX x):∀ (q j:Nat) (es:List (AV×AV)),x.length=j+q→SetE es→∃ es',SetE es'∧∀ (ks:List It) (jj:Int) (Bo:Code),Loop Tryz.f27 0 Bo→jj=(j:Int) →
  RL K (.run 27 3 (.code Bo::.lp Bo (some ([0,2,15,16,17],[])) 4::.blk 0 4::ks) [(0,.ptr 0 0),(2,.ptr 3 0),(15,.rows (x.map tblC)),(16,I (x.length:Int)),(17,I jj)] (txH x ds es++[.cells [.nils]])) =
  R K (.run 27 3 ks [(0,.ptr 0 0),(2,.ptr 3 0)] (txH x ds es'++[.cells [.nils]]))
 | 0,j,es,hq,hS=>by
  have d:¬(j:Int) < (x.length:Int):=by omega
  refine ⟨es,hS,fun ks jj Bo hB hj=>?_⟩
  subst hj
  simp only [txH,txC,List.cons_append,List.nil_append]
  unfold Loop at hB
  simp -implicitDefEqProofs only [go_sem,simprocAttr,Tryz.f27,loopOf] at hB
  subst hB
  rw [RL_eq]
  simp -implicitDefEqProofs only [go_sem,simprocAttr,d]
 | q+1,j,es,hq,hS=>by
  have d:(j:Int) < (x.length:Int):=by omega
  have hl3:=hx.sz.l3
  have h7:=next_id (i:=j) (n:=x.length) (by omega) (by omega)
  obtain ⟨t,ht⟩:=some_at (l:=x) (i:=j) (by omega)
  have gt:=tbl_get ht
  have hnm:=(hx.sz.tbl t (List.mem_of_getElem? ht)).nm
  obtain ⟨s,xm⟩:∃ s,R K (.call 68 [.str [116,97,98,108,101],.str t.nm,.str [],.rows []] [])=some (.str s,[]):=r_mark [116,97,98,108,101] t.nm [] [] (by simp) (by omega) (by simp) (by simp)
  obtain ⟨v,hf,hS'⟩:=hS.put s
  obtain ⟨es',h',ih⟩:=l_td0 x ds hx q (j+1) _ (by omega) hS'
  refine ⟨es',h',fun ks jj Bo hB hj=>?_⟩
  subst hj
  have ih:=ih ks _ Bo hB rfl
  simp only [tblC] at gt
  simp only [txH,txC,List.cons_append,List.nil_append,mapPut] at ih ⊢
  unfold Loop at hB
  simp -implicitDefEqProofs only [go_sem,simprocAttr,Tryz.f27,loopOf] at hB
  subst hB
  rw [RL_eq]
  simp -implicitDefEqProofs only [go_sem,simprocAttr,d,h7,gt,xm,hf,tblC,List.length_map]
  exact ih
theorem r_TxnData (x:List Tbl) (ds:List Dat) (hx:MadeX x) (es:List (AV×AV)) (hS:SetE es):∃ es',SetE es'∧R K (.call 27 [.ptr 0 0] (txH x ds es))=some (.tup [datS ds,I 0],txH x ds es'):=by
 obtain ⟨es',s',l0⟩:=l_td0 x ds hx x.length 0 es (by omega) hS
 have l0:=fun ks B hB=>l0 ks 0 B hB rfl
 refine ⟨es',s',?_⟩
 simp only [txH,txC,List.cons_append,List.nil_append] at l0 ⊢
 rw [call_27]
 simp -implicitDefEqProofs only [go_sem,simprocAttr,Tryz.f27,List.length_map]
 rw [l0 _ _ (by rfl)]
 simp -implicitDefEqProofs only [go_sem,simprocAttr]
theorem ix_self {x:List Tbl} (h:RightX x) {w:Nat} {u:Tbl} (hu:x[w]? = some u):ixN u.nm (x.map (·.nm)) 0=(w:Int):=by
 have hm:u.nm∈x.map (·.nm):=List.mem_map.2 ⟨u,List.mem_of_getElem? hu,rfl⟩
 have h0:¬ixN u.nm (x.map (·.nm)) 0 < 0:=fun hlt=>by
  rcases ixN_ge u.nm (x.map (·.nm)) 0 with h1 | h1
  ·exact (ixN_mem u.nm (x.map (·.nm)) 0).1 h1 hm
  ·omega
 obtain ⟨b,c,e,hc⟩:=ixN_tbl h0
 have h2:=(ixN_at u.nm (x.map (·.nm)) 0 b e).2
 rw [Nat.sub_zero,List.getElem?_map,hc] at h2
 have h3:c.nm=u.nm:=by simpa using h2
 have lb:=(List.getElem?_eq_some_iff.1 hc).1
 have lw:=(List.getElem?_eq_some_iff.1 hu).1
 have:=h.inj b w lb lw (by simp [nmA,hc,hu,h3])
 rw [e,this]
def Bd (ds:List Dat) (b:Nat→Nat):Prop:=∀ i (d:Dat),ds[i]? = some d→d.rows.length≤b i
abbrev daH (L:List Int) (a:Int) (x:List Tbl) (ds:List Dat) (es:List (AV×AV)):Heap:=[.cells [LR L,I a],.cells [.rows (x.map tblC)],.cells [.nils],.cells [.rows (x.map tblC),.rows (x.map nlC),.nils],.cells (txC x ds 3 5),.map es]
section
variable {L:List Int}
theorem l_da4 (x:List Tbl) (hx:MadeX x) (ns:List (List UInt8)) (w:Nat) (u:Tbl) (hu:x[w]? = some u) (k p:Int) (c:Nat) (hc:c≤5) :
  ∀ (q j:Nat) (ds:List Dat) (es:List (AV×AV)) (a B:Int) (b:Nat→Nat),c=j+q→Gd L a B→(1000*q:Int)≤B→SetE es→Led x ds→Bd ds b→(∀ i,b i+(if i=w then q else 0)≤18) →
  ∃ (ds':List Dat) (es':List (AV×AV)) (a':Int),a≤a'∧a'≤a+1000*q∧SetE es'∧Led x ds'∧Bd ds' (fun i=>b i+if i=w then q else 0) ∧
  ∀ (ks:List It) (jj:Int) (Bo:Code),Loop Tryz.f5 4 Bo→jj=(j:Int) →
  RL K (.run 5 1 (.code Bo::.lp Bo (some ([0,2,4,6,7,8,11,22,24,25,26,33,34],[])) 6::.blk 4 6::ks) [(0,.ptr 0 0),(2,I 5),(4,.ptr 1 0),(6,.ptr 2 0),(7,.ptr 4 0),(8,.rows (SLs ns)),(11,.str u.nm),(22,I k),(24,.rows (SLs ns)),(25,I (ns.length:Int)),(26,I p),(33,I (c:Int)),(34,I jj)] (daH L a x ds es)) =
  R K (.run 5 1 ks [(0,.ptr 0 0),(2,I 5),(4,.ptr 1 0),(6,.ptr 2 0),(7,.ptr 4 0),(8,.rows (SLs ns)),(22,I k),(24,.rows (SLs ns)),(25,I (ns.length:Int)),(26,I p)] (daH L a' x ds' es'))
 | 0,j,ds,es,a,B,b,hq,hG,hB',hS,hL,hbd,hb=>by
  have d:¬(j:Int) < (c:Int):=by omega
  refine ⟨ds,es,a,by omega,by omega,hS,hL,fun i d' hd=>by have:=hbd i d' hd;show d'.rows.length≤b i+_;omega,fun ks jj Bo hB hj=>?_⟩
  subst hj
  simp only [daH,txC]
  unfold Loop at hB
  simp -implicitDefEqProofs only [go_sem,simprocAttr,Tryz.f5,loopOf] at hB
  subst hB
  rw [RL_eq]
  simp -implicitDefEqProofs only [go_sem,simprocAttr,d,locsR_SLs]
 | q+1,j,ds,es,a,B,b,hq,hG,hB',hS,hL,hbd,hb=>by
  have d:(j:Int) < (c:Int):=by omega
  have h7:=next_id (i:=j) (n:=c) (by omega) (by omega)
  have mu:=List.mem_of_getElem? hu
  have su:=hx.sz.tbl u mu
  have ucl:=su.cl
  have unm:=su.nm
  have hxl:=hL.fit.len
  have hdl:=hL.ok.len
  have gu:=tbl_get hu
  have hwl:=(List.getElem?_eq_some_iff.1 hu).1
  obtain ⟨d0,hd0⟩:=some_at (l:=ds) (i:=w) (by omega)
  have hs:Seen x ds u.nm w u d0:=⟨ix_self hx.right hu,hu,hd0⟩
  have xt:=r_TableAt x u.nm hxl
  rw [hs.ix] at xt
  obtain ⟨r,a1,xr,hr,p1,p2⟩:=g_Row hG (by omega) u (by omega)
  obtain ⟨e,es1,ds1,s1,c1,xi⟩:=r_Insert x hx ds hL es hS hs (by omega) (fun d' hd=>by
   obtain ⟨i,hi,he⟩:=List.mem_iff_getElem.1 hd
   have h1:=hbd i d' (by rw [List.getElem?_eq_getElem hi,he])
   have h2:=hb i
   omega) r (by omega)
  have hL1:Led x ds1:=by
   rcases c1 with rfl | ⟨rs,m,_,rfl⟩
   ·exact hL
   ·exact hL.more hs hr (by omega) (by have h1:=hbd w d0 hd0;have h2:=hb w;omega) m
  have hbd1:Bd ds1 (fun i=>b i+if i=w then 1 else 0):=by
   rcases c1 with rfl | ⟨rs,m,_,rfl⟩
   ·intro i d' hd
    have:=hbd i d' hd
    show d'.rows.length≤b i+_
    omega
   ·intro i d' hd
    rw [List.getElem?_set] at hd
    by_cases e:w=i
    ·subst e
     rw [if_pos rfl,if_pos (by omega)] at hd
     obtain rfl:=Option.some.inj hd
     have h1:=hbd w d0 hd0
     have ml:=m.1
     rw [List.length_append,List.length_cons,List.length_nil] at ml
     show rs.length≤b w+(if w=w then 1 else 0)
     rw [if_pos rfl]
     omega
    ·rw [if_neg e] at hd
     have:=hbd i d' hd
     show d'.rows.length≤b i+_
     omega
  have hb1:∀ i,(b i+if i=w then 1 else 0)+(if i=w then q else 0)≤18:=fun i=>by
   have:=hb i
   split<;>rename_i e
   ·rw [if_pos e] at this;omega
   ·rw [if_neg e] at this;omega
  obtain ⟨ds',es',a',p3,p4,s',hL',hbd',ih⟩:=l_da4 x hx ns w u hu k p c hc q (j+1) ds1 es1 a1 (B - 1000) _ (by omega) (hG.step _ _ (by omega) (by omega)) (by omega) s1 hL1 hbd1 hb1
  refine ⟨ds',es',a',by omega,by omega,s',hL',fun i d' hd=>?_,fun ks jj Bo hB hj=>?_⟩
  ·have:=hbd' i d' hd
   show d'.rows.length≤b i+if i=w then q+1 else 0
   have h2:(b i+if i=w then 1 else 0)+(if i=w then q else 0)=b i+if i=w then q+1 else 0:=by
    split<;>omega
   rw [←h2]
   exact this
  ·subst hj
   have ih:=ih ks _ Bo hB rfl
   simp only [tblC] at gu
   simp only [tblA,tblC] at xr
   simp only [txH,txC] at xi
   simp only [daH,txC] at ih ⊢
   unfold Loop at hB
   simp -implicitDefEqProofs only [go_sem,simprocAttr,Tryz.f5,loopOf] at hB
   subst hB
   rw [RL_eq]
   simp -implicitDefEqProofs only [go_sem,simprocAttr,d,h7,gu,xt,xr,xi,tblC,locsR_SLs]
   exact ih
end
theorem ord_good {x:List Tbl} (h:RightX x):∀ (m:Nat) (o:List Nat),x.length=o.length+m→o.Nodup→(∀ j∈o,j < x.length)→(ordN x m o).Nodup∧(∀ j∈ordN x m o,j < x.length)∧(ordN x m o).length=x.length
 | 0,o,hq,hn,hl=>⟨hn,hl,by show o.length=_;omega⟩
 | m+1,o,hq,hn,hl=>by
  obtain ⟨i,e1,e2,e3⟩:=next_is h o (by omega)
  have hN:ordN x (m+1) o=ordN x m (o++[i]):=by simp only [ordN];rw [e1]
  have hi:i∉o:=fun hm=>by
   unfold freeB at e3
   rw [List.contains_iff_mem.2 hm] at e3
   simp at e3
  rw [hN]
  refine ord_good h m (o++[i]) (by simp;omega) ?_ fun j hj=>?_
  ·rw [List.nodup_append]
   refine ⟨hn,by simp,fun a ha b hb e=>?_⟩
   rw [List.mem_singleton] at hb
   exact hi (by rw [←hb,←e];exact ha)
  ·rcases List.mem_append.1 hj with h1 | h1
   ·exact hl j h1
   ·rw [List.mem_singleton] at h1;omega
theorem count_drop {o:List Nat} {j w:Nat} (h:o[j]? = some w) (i:Nat):(o.drop j).count i=(if i=w then 1 else 0)+(o.drop (j+1)).count i:=by
 rw [drop_get h,List.count_cons]
 by_cases e:i=w
 ·subst e
  simp
  omega
 ·have e':¬w=i:=fun h=>e h.symm
  simp [e,e']
section
variable {L:List Int}
theorem l_da2 (x:List Tbl) (hx:MadeX x) (o:List Nat) (ho:∀ j∈o,j < x.length) (hol:o.length≤1000) (k:Int) :
  ∀ (q j:Nat) (ds:List Dat) (es:List (AV×AV)) (a B:Int) (b:Nat→Nat),o.length=j+q→Gd L a B→(6000*q:Int)≤B→SetE es→Led x ds→Bd ds b→(∀ i,b i+5*(o.drop j).count i≤18) →
  ∃ (ds':List Dat) (es':List (AV×AV)) (a':Int),a≤a'∧a'≤a+6000*q∧SetE es'∧Led x ds'∧Bd ds' (fun i=>b i+5*(o.drop j).count i) ∧
  ∀ (ks:List It) (jj:Int) (Bo:Code),Loop Tryz.f5 2 Bo→jj=(j:Int) →
  RL K (.run 5 1 (.code Bo::.lp Bo (some ([0,2,4,6,7,8,22,24,25,26],[])) 6::.blk 2 6::ks) [(0,.ptr 0 0),(2,I 5),(4,.ptr 1 0),(6,.ptr 2 0),(7,.ptr 4 0),(8,.rows (SLs (o.map (nmX x)))),(22,I k),(24,.rows (SLs (o.map (nmX x)))),(25,I (o.length:Int)),(26,I jj)] (daH L a x ds es)) =
  R K (.run 5 1 ks [(0,.ptr 0 0),(2,I 5),(4,.ptr 1 0),(6,.ptr 2 0),(7,.ptr 4 0),(8,.rows (SLs (o.map (nmX x)))),(22,I k)] (daH L a' x ds' es'))
 | 0,j,ds,es,a,B,b,hq,hG,hB',hS,hL,hbd,hb=>by
  have d:¬(j:Int) < (o.length:Int):=by omega
  refine ⟨ds,es,a,by omega,by omega,hS,hL,fun i d' hd=>by have:=hbd i d' hd;show d'.rows.length≤b i+_;omega,fun ks jj Bo hB hj=>?_⟩
  subst hj
  simp only [daH,txC]
  unfold Loop at hB
  simp -implicitDefEqProofs only [go_sem,simprocAttr,Tryz.f5,loopOf] at hB
  subst hB
  rw [RL_eq]
  simp -implicitDefEqProofs only [go_sem,simprocAttr,d,locsR_SLs]
 | q+1,j,ds,es,a,B,b,hq,hG,hB',hS,hL,hbd,hb=>by
  have d:(j:Int) < (o.length:Int):=by omega
  have h7:=next_id (i:=j) (n:=o.length) (by omega) (by omega)
  obtain ⟨w,hw⟩:=some_at (l:=o) (i:=j) (by omega)
  obtain ⟨u,hu⟩:=some_at (l:=x) (i:=w) (ho w (List.mem_of_getElem? hw))
  have gs:at? (SLs (o.map (nmX x))) (j:Int)=some [.str u.nm]:=str_get (by rw [List.getElem?_map,hw,Option.map_some,nmX_at hu])
  have x0:=g_Next hG (by omega) 6
  have b0:=next_bounds L a 6 (by omega) (by omega)
  obtain ⟨c,hc⟩:∃ c:Nat,nextS L a 6=(c:Int):=⟨(nextS L a 6).toNat,by omega⟩
  rw [hc] at x0 b0
  have hcd:=count_drop hw
  have ole:(SLs (o.map (nmX x))).length=o.length:=by rw [SLs_len,List.length_map]
  obtain ⟨ds1,es1,a1,p1,p2,s1,hL1,hbd1,l4⟩:=l_da4 (L:=L) x hx (o.map (nmX x)) w u hu k (j:Int) c (by omega) c 0 ds es (a+1) (B - 1) b (by omega) (hG.step _ _ (by omega) (by omega)) (by omega) hS hL hbd (fun i=>by
   have h1:=hb i
   rw [hcd i] at h1
   split<;>rename_i e
   ·rw [if_pos e] at h1;omega
   ·omega)
  have l4:=fun ks B hB=>l4 ks 0 B hB rfl
  obtain ⟨ds',es',a',p3,p4,s',hL',hbd',ih⟩:=l_da2 x hx o ho hol k q (j+1) ds1 es1 a1 (B - 6000) (fun i=>b i+5*(if i=w then 1 else 0)) (by omega) (hG.step _ _ (by omega) (by omega)) (by omega) s1 hL1 (fun i d' hd=>by
   have h1:=hbd1 i d' hd
   show d'.rows.length≤b i+5*_
   have h2:b i+(if i=w then c else 0)≤b i+5*(if i=w then 1 else 0):=by split<;>omega
   exact Nat.le_trans h1 h2) (fun i=>by
   have h1:=hb i
   rw [hcd i] at h1
   show b i+5*(if i=w then 1 else 0)+_≤18
   omega)
  refine ⟨ds',es',a',by omega,by omega,s',hL',fun i d' hd=>?_,fun ks jj Bo hB hj=>?_⟩
  ·have h1:=hbd' i d' hd
   show d'.rows.length≤b i+5*(o.drop j).count i
   rw [hcd i]
   have h2:b i+5*(if i=w then 1 else 0)+5*(o.drop (j+1)).count i=b i+5*((if i=w then 1 else 0)+(o.drop (j+1)).count i):=by omega
   rw [←h2]
   exact h1
  ·subst hj
   have ih:=ih ks _ Bo hB rfl
   simp only [List.length_map] at l4
   simp only [daH,txC] at ih l4 ⊢
   unfold Loop at hB
   simp -implicitDefEqProofs only [go_sem,simprocAttr,Tryz.f5,loopOf] at hB
   subst hB
   rw [RL_eq]
   simp -implicitDefEqProofs only [go_sem,simprocAttr,d,h7,gs,x0,ole,locsR_SLs]
   rw [l4 _ _ (by rfl)]
   simp -implicitDefEqProofs only [go_sem,simprocAttr,h7,ole,locsR_SLs]
   exact ih
theorem l_da0 (x:List Tbl) (hx:MadeX x) (o:List Nat) (ho:∀ j∈o,j < x.length) (hol:o.length≤3) :
  ∀ (q j:Nat) (ds:List Dat) (es:List (AV×AV)) (a B:Int) (b:Nat→Nat),2=j+q→Gd L a B→(20000*q:Int)≤B→SetE es→Led x ds→Bd ds b→(∀ i,b i+q*(5*o.count i)≤18) →
  ∃ (ds':List Dat) (es':List (AV×AV)) (a':Int),a≤a'∧a'≤a+20000*q∧SetE es'∧Led x ds'∧Bd ds' (fun i=>b i+q*(5*o.count i)) ∧
  ∀ (ks:List It) (jj:Int) (Bo:Code),Loop Tryz.f5 0 Bo→jj=(j:Int) →
  RL K (.run 5 1 (.code Bo::.lp Bo (some ([0,2,4,6,7,8,22],[])) 6::.blk 0 6::ks) [(0,.ptr 0 0),(2,I 5),(4,.ptr 1 0),(6,.ptr 2 0),(7,.ptr 4 0),(8,.rows (SLs (o.map (nmX x)))),(22,I jj)] (daH L a x ds es)) =
  R K (.run 5 1 ks [(6,.ptr 2 0),(7,.ptr 4 0)] (daH L a' x ds' es'))
 | 0,j,ds,es,a,B,b,hq,hG,hB',hS,hL,hbd,hb=>by
  have d:¬(j:Int) < 2:=by omega
  refine ⟨ds,es,a,by omega,by omega,hS,hL,fun i d' hd=>by have:=hbd i d' hd;show d'.rows.length≤b i+_;omega,fun ks jj Bo hB hj=>?_⟩
  subst hj
  simp only [daH,txC]
  unfold Loop at hB
  simp -implicitDefEqProofs only [go_sem,simprocAttr,Tryz.f5,loopOf] at hB
  subst hB
  rw [RL_eq]
  simp -implicitDefEqProofs only [go_sem,simprocAttr,d,locsR_SLs]
 | q+1,j,ds,es,a,B,b,hq,hG,hB',hS,hL,hbd,hb=>by
  have d:(j:Int) < 2:=by omega
  have h7:=next_id (i:=j) (n:=2) (by omega) (by omega)
  have ole:(SLs (o.map (nmX x))).length=o.length:=by rw [SLs_len,List.length_map]
  obtain ⟨ds1,es1,a1,p1,p2,s1,hL1,hbd1,l2⟩:=l_da2 (L:=L) x hx o ho (by omega) (j:Int) o.length 0 ds es a B b (by omega) hG (by omega) hS hL hbd (fun i=>by
   have h1:=hb i
   rw [List.drop_zero]
   rw [Nat.succ_mul] at h1
   omega)
  have l2:=fun ks B hB=>l2 ks 0 B hB rfl
  rw [List.drop_zero] at hbd1
  obtain ⟨ds',es',a',p3,p4,s',hL',hbd',ih⟩:=l_da0 x hx o ho hol q (j+1) ds1 es1 a1 (B - 20000) _ (by omega) (hG.step _ _ (by omega) (by omega)) (by omega) s1 hL1 hbd1 (fun i=>by
   have h1:=hb i
   rw [Nat.succ_mul] at h1
   show b i+5*o.count i+_≤18
   omega)
  refine ⟨ds',es',a',by omega,by omega,s',hL',fun i d' hd=>?_,fun ks jj Bo hB hj=>?_⟩
  ·have h1:=hbd' i d' hd
   show d'.rows.length≤b i+(q+1)*(5*o.count i)
   have h2:b i+5*o.count i+q*(5*o.count i)=b i+(q+1)*(5*o.count i):=by
    generalize 5*o.count i=c
    rw [Nat.succ_mul]
    omega
   rw [←h2]
   exact h1
  ·subst hj
   have ih:=ih ks _ Bo hB rfl
   simp only [daH,txC] at ih l2 ⊢
   unfold Loop at hB
   simp -implicitDefEqProofs only [go_sem,simprocAttr,Tryz.f5,loopOf] at hB
   subst hB
   rw [RL_eq]
   simp -implicitDefEqProofs only [go_sem,simprocAttr,d,h7,ole,locsR_SLs]
   rw [l2 _ _ (by rfl)]
   simp -implicitDefEqProofs only [go_sem,simprocAttr,h7,ole,locsR_SLs]
   exact ih
theorem noD_led {x:List Tbl} (hx:MadeX x):Led x (noD x):=by
 have hl:=hx.sz.l3
 refine ⟨hx.sz.fit (by omega),hx.right,hx.idxIn,⟨by simp [noD],fun i t d hi hd=>?_⟩,⟨by simp [noD];omega,fun d hd=>?_⟩⟩
 ·simp only [noD,List.getElem?_map,hi,Option.map_some,Option.some.injEq] at hd
  subst hd
  intro r hr
  simp at hr
 ·obtain ⟨t,_,rfl⟩:=List.mem_map.1 hd
  simp
theorem g_Data {a B:Int} (hG:Gd L a B) (hB:50000≤B) (x:List Tbl) (hx:MadeX x):∃ (ds:List Dat) (a':Int),R K (.call 5 [.ptr 0 0,schC x,I 5] (St L a))=some (datS ds,St L a')∧a≤a'∧a'≤a+50000∧Led x ds∧∀ d∈ds,d.rows.length≤10:=by
 have hl1:=hx.sz.l1
 have hl3:=hx.sz.l3
 have xN:=r_NewStore x hl1 hl3
 have xB:=r_Begin x hl1 hl3
 have xO:=r_OrderR x (hx.sz.fit (by omega)) hx.right (by omega)
 obtain ⟨o1,o2,o3⟩:=ord_good hx.right x.length [] (by simp) (by simp) (by simp)
 have cnt:∀ i,(ordN x x.length []).count i≤1:=fun i=>List.nodup_iff_count.1 o1 i
 obtain ⟨ds,es,a',p1,p2,s1,hL,hbd,l0⟩:=l_da0 (L:=L) x hx (ordN x x.length []) o2 (by omega) 2 0 (noD x) [] a B (fun _=>0) (by omega) hG (by omega) SetE.nil (noD_led hx) (fun i d hd=>by
  simp only [noD,List.getElem?_map] at hd
  obtain ⟨t,_,rfl⟩:=Option.map_eq_some_iff.1 hd
  simp) (fun i=>by have:=cnt i;show 0+2*_≤18;omega)
 have l0:=fun ks B hB=>l0 ks 0 B hB rfl
 obtain ⟨es',_,xD⟩:=r_TxnData x ds hx es s1
 refine ⟨ds,a',?_,p1,by omega,hL,fun d hd=>?_⟩
 ·simp only [ordS,storeH,List.cons_append,List.nil_append,txC,txH] at xN xB xO xD
  simp only [daH,txC] at l0
  have ole:(SLs ((ordN x x.length []).map (nmX x))).length=(ordN x x.length []).length:=by rw [SLs_len,List.length_map]
  generalize ordN x x.length []=o at *
  rw [call_5]
  simp -implicitDefEqProofs only [go_sem,simprocAttr,Tryz.f5,xN,xB,xO,ole,locsR_SLs]
  rw [l0 _ _ (by rfl)]
  simp -implicitDefEqProofs only [go_sem,simprocAttr,xD]
 ·obtain ⟨i,hi,he⟩:=List.mem_iff_getElem.1 hd
  have h1:=hbd i d (by rw [List.getElem?_eq_getElem hi,he])
  have h2:=cnt i
  have h3:d.rows.length≤0+2*(5*(ordN x x.length []).count i):=h1
  omega
end
theorem c_cloneD (ds:List Dat) (h:1≤ds.length) (hl:ds.length≤1000000):R K (.call 28 [.rows (ds.map datC)] [])=some (.own 0 ds.length,[.rows 2 (ds.map datC) true]):=by
 have e:=empty_map (f:=datC) h
 have rm:(ds.length*41≤roomMax)=True:=eq_true (by unfold roomMax;omega)
 have d:(0 < ds.length)=True:=eq_true (by omega)
 have hp:K.prim 28 [.rows (ds.map datC)]=none:=by
  cases ds with
  | nil=>simp at h
  | cons a x=>rfl
 rw [call_28 hp]
 simp -implicitDefEqProofs only [go_sem,simprocAttr,Tryz.f28,e,rm,d,allLen_dats,locsR_dats,List.length_map,List.length_nil,Nat.zero_add,List.nil_append]
abbrev mxR (rs:List (List Val)) (k l n:Nat):List (List AV):=(rs.map rowC).set k [.own l n]
theorem mx_len (rs:List (List Val)) (k l n:Nat):(mxR rs k l n).length=rs.length:=by simp [mxR]
theorem mx_self {rs:List (List Val)} {k:Nat} (h:k < rs.length) (l n:Nat):(mxR rs k l n)[k]? = some [.own l n]:=by
 rw [List.getElem?_set_self (by simpa using h)]
theorem mx_ne {rs:List (List Val)} {k i:Nat} (e:k≠i) {r:List Val} (h:rs[i]? = some r) (l n:Nat):(mxR rs k l n)[i]? = some (rowC r):=by
 rw [List.getElem?_set_ne e,List.getElem?_map,h]
 rfl
theorem locsR_mx:∀ (rs:List (List Val)) (k l n:Nat),k < rs.length→locsR (mxR rs k l n)=[l]
 | r::rs,0,l,n,_=>by
  show locsL [AV.own l n]++locsR (rs.map rowC)=[l]
  rw [locsR_rows]
  rfl
 | r::rs,k+1,l,n,h=>by
  show locsL (rowC r)++locsR (mxR rs k l n)=[l]
  rw [locsR_mx rs k l n (by simpa using h)]
  rfl
theorem renR_mx (σ:Nat→Nat):∀ (rs:List (List Val)) (k l n:Nat),renR σ (mxR rs k l n)=mxR rs k (σ l) n
 | [],k,l,n=>rfl
 | r::rs,0,l,n=>by
  show renL σ [AV.own l n]::renR σ (rs.map rowC)=_
  rw [renR_rows]
  rfl
 | r::rs,k+1,l,n=>by
  show renL σ (rowC r)::renR σ (mxR rs k l n)=_
  rw [renR_mx σ rs k l n]
  rfl
theorem mx_swap {rs:List (List Val)} {i j k l n:Nat} {r s:List Val} (hij:i < j) (hi:rs[i]? = some r) (hj:rs[j]? = some s) (hk:k < rs.length) :
  (k=i∧((mxR rs k l n).set i (rowC s)).set j [.own l n]=mxR ((rs.set i s).set j r) j l n) ∨
  (k=j∧((mxR rs k l n).set i [.own l n]).set j (rowC r)=mxR ((rs.set i s).set j r) i l n) ∨
  (k≠i∧k≠j∧((mxR rs k l n).set i (rowC s)).set j (rowC r)=mxR ((rs.set i s).set j r) k l n):=by
 have lj:=(List.getElem?_eq_some_iff.1 hj).1
 have li:=(List.getElem?_eq_some_iff.1 hi).1
 by_cases e1:k=i
 ·refine .inl ⟨e1,?_⟩
  subst e1
  refine List.ext_getElem? fun a=>?_
  simp only [mxR,List.getElem?_set,List.getElem?_map,List.length_set,List.length_map]
  by_cases h1:j=a
  ·subst h1
   simp [lj]
  ·by_cases h2:k=a
   ·subst h2
    simp [h1,li]
   ·simp [h1,h2]
 ·by_cases e2:k=j
  ·refine .inr (.inl ⟨e2,?_⟩)
   subst e2
   refine List.ext_getElem? fun a=>?_
   simp only [mxR,List.getElem?_set,List.getElem?_map,List.length_set,List.length_map]
   by_cases h1:k=a
   ·subst h1
    have:¬i=k:=by omega
    simp [lj,this]
   ·by_cases h2:i=a
    ·subst h2
     simp [h1,li]
    ·simp [h1,h2]
  ·refine .inr (.inr ⟨e1,e2,?_⟩)
   refine List.ext_getElem? fun a=>?_
   simp only [mxR,List.getElem?_set,List.getElem?_map,List.length_set,List.length_map]
   by_cases h1:j=a
   ·subst h1
    simp [lj,e2]
   ·by_cases h2:i=a
    ·subst h2
     simp [h1,li,e1]
    ·by_cases h3:k=a
     ·subst h3
      simp [h1,h2,hk]
     ·simp [h1,h2,h3]
theorem swap_shuf {rs:List (List Val)} {i j:Nat} {r s:List Val} (hi:rs[i]? = some r) (hj:rs[j]? = some s):Shuf rs ((rs.set i s).set j r):=by
 refine ⟨by simp,fun y hy=>?_⟩
 rcases List.mem_or_eq_of_mem_set hy with h1 | h1
 ·rcases List.mem_or_eq_of_mem_set h1 with h2 | h2
  ·exact h2
  ·rw [h2];exact List.mem_of_getElem? hj
 ·rw [h1];exact List.mem_of_getElem? hi
abbrev rvH (rs:List (List Val)) (k m:Nat) (v:List Val):Heap:=[.rows 1 (mxR rs k 1 m) true,.rows 3 (v.map vC) true]
theorem l_rvo (n m:Nat) (hn:n≤1000) (v:List Val):∀ (q i j k:Nat) (rs:List (List Val)),rs.length=n→j < n→k < n→j≤i+q →
  ∃ rs' k',Shuf rs rs'∧k' < n∧∀ (ks:List It) (ii jj:Int) (Bo:Code),Loop Tryz.f31 0 Bo→ii=(i:Int)→jj=(j:Int) →
  RL K (.run 31 2 (.code Bo::.lp Bo (some ([0,2,3],[])) 2::.blk 0 2::ks) [(0,.own 0 n),(2,I ii),(3,I jj)] (rvH rs k m v)) =
  R K (.run 31 2 ks [] (rvH rs' k' m v))
 | 0,i,j,k,rs,hl,hj,hk,hq=>by
  have d:¬(i:Int) < (j:Int):=by omega
  have hlo:=locsR_mx rs k 1 m (by omega)
  refine ⟨rs,k,Shuf.refl _,hk,fun ks ii jj Bo hB hi hjj=>?_⟩
  subst hi hjj
  simp only [rvH]
  unfold Loop at hB
  simp -implicitDefEqProofs only [go_sem,simprocAttr,Tryz.f31,loopOf] at hB
  subst hB
  rw [RL_eq]
  simp -implicitDefEqProofs only [go_sem,simprocAttr,d,hlo]
 | q+1,i,j,k,rs,hl,hj,hk,hq=>by
  by_cases hij:i < j
  ·have d:(i:Int) < (j:Int):=by omega
   obtain ⟨r,hr⟩:=some_at (l:=rs) (i:=i) (by omega)
   obtain ⟨s,hs⟩:=some_at (l:=rs) (i:=j) (by omega)
   have w1:wrapI .i64 ((i:Int)+1)=((i+1:Nat):Int):=by rw [wrap_id (by omega) (by omega)];omega
   have w2:wrapI .i64 ((j:Int) - 1)=((j - 1:Nat):Int):=by rw [wrap_id (by omega) (by omega)];omega
   have m2:=swap_shuf hr hs
   have hlo:=locsR_mx rs k 1 m (by omega)
   have n1:=mx_len rs k 1 m
   rw [hl] at n1
   have sp:∀ x y:AV,splice [x] 0 [y]=[y]:=fun _ _=>rfl
   rcases mx_swap (k:=k) (l:=1) (n:=m) hij hr hs (by omega) with ⟨e,se⟩ | ⟨e,se⟩ | ⟨e1,e2,se⟩
   ·subst e
    obtain ⟨rs',k',p1,p2,ih⟩:=l_rvo n m hn v q (k+1) (j - 1) j ((rs.set k s).set j r) (by simp;omega) (by omega) (by omega) (by omega)
    refine ⟨rs',k',m2.trans p1,p2,fun ks ii jj Bo hB hi hjj=>?_⟩
    subst hi hjj
    have ih:=ih ks _ _ Bo hB rfl rfl
    have br:=mx_self (rs:=rs) (k:=k) (by omega) 1 m
    have bs:=mx_ne (by omega:k≠j) hs 1 m
    have gr:=at_get br
    have gs:=at_get bs
    have b2:((mxR rs k 1 m).set k (rowC s))[j]? = some (rowC s):=by rw [List.getElem?_set_ne (by omega)];exact bs
    have g2:=at_get b2
    have n2:((mxR rs k 1 m).set k (rowC s)).length=n:=by rw [List.length_set];exact n1
    simp only [rvH] at ih ⊢
    rw [←se] at ih
    generalize mxR rs k 1 m=R0 at *
    simp only [rvH,rowC] at ih gs bs b2 g2 n2 ⊢
    unfold Loop at hB
    simp -implicitDefEqProofs only [go_sem,simprocAttr,Tryz.f31,loopOf] at hB
    subst hB
    rw [RL_eq]
    simp -implicitDefEqProofs only [go_sem,simprocAttr,d,w1,w2,gr,gs,br,bs,b2,g2,n1,n2,sp,hl,hlo,List.length_set,List.length_map,Int.toNat_natCast]
    exact ih
   ·subst e
    obtain ⟨rs',k',p1,p2,ih⟩:=l_rvo n m hn v q (i+1) (k - 1) i ((rs.set i s).set k r) (by simp;omega) (by omega) (by omega) (by omega)
    refine ⟨rs',k',m2.trans p1,p2,fun ks ii jj Bo hB hi hjj=>?_⟩
    subst hi hjj
    have ih:=ih ks _ _ Bo hB rfl rfl
    have bs:=mx_self (rs:=rs) (k:=k) (by omega) 1 m
    have br:=mx_ne (by omega:k≠i) hr 1 m
    have gr:=at_get br
    have gs:=at_get bs
    have b2:((mxR rs k 1 m).set i [.own 1 m])[k]? = some [.own 1 m]:=by rw [List.getElem?_set_ne (by omega)];exact bs
    have g2:=at_get b2
    have n2:((mxR rs k 1 m).set i [.own 1 m]).length=n:=by rw [List.length_set];exact n1
    simp only [rvH] at ih ⊢
    rw [←se] at ih
    generalize mxR rs k 1 m=R0 at *
    simp only [rvH,rowC] at ih gr br b2 g2 n2 ⊢
    unfold Loop at hB
    simp -implicitDefEqProofs only [go_sem,simprocAttr,Tryz.f31,loopOf] at hB
    subst hB
    rw [RL_eq]
    simp -implicitDefEqProofs only [go_sem,simprocAttr,d,w1,w2,gr,gs,br,bs,b2,g2,n1,n2,sp,hl,hlo,List.length_set,List.length_map,Int.toNat_natCast]
    exact ih
   ·obtain ⟨rs',k',p1,p2,ih⟩:=l_rvo n m hn v q (i+1) (j - 1) k ((rs.set i s).set j r) (by simp;omega) (by omega) (by omega) (by omega)
    refine ⟨rs',k',m2.trans p1,p2,fun ks ii jj Bo hB hi hjj=>?_⟩
    subst hi hjj
    have ih:=ih ks _ _ Bo hB rfl rfl
    have br:=mx_ne e1 hr 1 m
    have bs:=mx_ne e2 hs 1 m
    have gr:=at_get br
    have gs:=at_get bs
    have b2:((mxR rs k 1 m).set i (rowC s))[j]? = some (rowC s):=by rw [List.getElem?_set_ne (by omega)];exact bs
    have g2:=at_get b2
    have n2:((mxR rs k 1 m).set i (rowC s)).length=n:=by rw [List.length_set];exact n1
    simp only [rvH] at ih ⊢
    rw [←se] at ih
    generalize mxR rs k 1 m=R0 at *
    simp only [rvH,rowC] at ih gr gs br bs b2 g2 n2 ⊢
    unfold Loop at hB
    simp -implicitDefEqProofs only [go_sem,simprocAttr,Tryz.f31,loopOf] at hB
    subst hB
    rw [RL_eq]
    simp -implicitDefEqProofs only [go_sem,simprocAttr,d,w1,w2,gr,gs,br,bs,b2,g2,n1,n2,sp,hl,hlo,List.length_set,List.length_map,Int.toNat_natCast]
    exact ih
  ·have d:¬(i:Int) < (j:Int):=by omega
   have hlo:=locsR_mx rs k 1 m (by omega)
   refine ⟨rs,k,Shuf.refl _,hk,fun ks ii jj Bo hB hi hjj=>?_⟩
   subst hi hjj
   simp only [rvH]
   unfold Loop at hB
   simp -implicitDefEqProofs only [go_sem,simprocAttr,Tryz.f31,loopOf] at hB
   subst hB
   rw [RL_eq]
   simp -implicitDefEqProofs only [go_sem,simprocAttr,d,hlo]
theorem c_RevO (rs:List (List Val)) (k m:Nat) (v:List Val) (hk:k < rs.length) (hl:rs.length≤1000):∃ rs' k',Shuf rs rs'∧k' < rs.length∧R K (.call 31 [.own 0 rs.length] (rvH rs k m v))=some (.tup [],rvH rs' k' m v):=by
 obtain ⟨rs',k',p1,p2,l0⟩:=l_rvo rs.length m hl v rs.length 0 (rs.length - 1) k rs rfl (by omega) hk (by omega)
 have l0:=fun ks B hB=>l0 ks 0 _ B hB rfl rfl
 have w2:wrapI .i64 ((rs.length:Int) - 1)=((rs.length - 1:Nat):Int):=by rw [wrap_id (by omega) (by omega)];omega
 have hl1:=locsR_mx rs k 1 m hk
 have hl2:=locsR_mx rs' k' 1 m (by rw [p1.1];exact p2)
 have n1:=mx_len rs k 1 m
 refine ⟨rs',k',p1,p2,?_⟩
 simp only [rvH] at l0 ⊢
 generalize mxR rs k 1 m=R0 at *
 generalize mxR rs' k' 1 m=R1 at *
 rw [call_31]
 simp -implicitDefEqProofs only [go_sem,simprocAttr,Tryz.f31,w2,hl1,hl2,n1,List.length_map]
 rw [l0 _ _ (by rfl)]
 simp -implicitDefEqProofs only [go_sem,simprocAttr,hl2]
theorem left_mx (h:Heap) (l:Nat) (v:List Val) (hv:h[l]? = some (.rows 3 (v.map vC) true)) (h1:1≤l):∀ (rs:List (List Val)) (k:Nat),
  leaveRows (leaveGL (orRows fun _=>none) false 1 h) (mxR rs k l v.length)=some ((rs.set k v).map rowC):=by
 have one:∀ r,leaveGL (orRows fun _=>none) false 1 h (rowC r)=some (rowC r):=fun r=>rfl
 have two:leaveGL (orRows fun _=>none) false 1 h [.own l v.length]=some (rowC v):=by
  simp only [leaveGL,leaveG,hv,List.length_map,h1,true_or,and_self,if_true,orRows,locsR_vs]
  rfl
 have all:∀ rs:List (List Val),leaveRows (leaveGL (orRows fun _=>none) false 1 h) (rs.map rowC)=some (rs.map rowC):=by
  intro rs
  induction rs with
  | nil=>rfl
  | cons r rs ih =>
   simp only [List.map_cons,leaveRows,one,ih]
   rfl
 intro rs
 induction rs with
 | nil=>intro k;rfl
 | cons r rs ih =>
  intro k
  cases k with
  | zero =>
   show leaveRows _ ([.own l v.length]::rs.map rowC)=_
   simp only [leaveRows,two,all]
   rfl
  | succ k =>
   show leaveRows _ (rowC r::mxR rs k l v.length)=_
   simp only [leaveRows,one,ih k]
   rfl
def Sm (ds:List Dat) (n:Nat):Prop:=ds.length≤3∧∀ d∈ds,d.rows.length≤n∧∀ r∈d.rows,r.length≤n
theorem Sm.set {ds:List Dat} {n:Nat} (h:Sm ds n) (w:Nat) (nm:List UInt8) (rs:List (List Val)) (h1:rs.length≤n+1) (h2:∀ r∈rs,r.length≤n+1):Sm (ds.set w ⟨nm,rs⟩) (n+1):=by
 refine ⟨by rw [List.length_set];exact h.1,fun d hd=>?_⟩
 rcases List.mem_or_eq_of_mem_set hd with h3 | h3
 ·have:=h.2 d h3
  exact ⟨by omega,fun r hr=>by have:=this.2 r hr;omega⟩
 ·subst h3
  exact ⟨h1,h2⟩
theorem Sm.up {ds:List Dat} {n m:Nat} (h:Sm ds n) (e:n≤m):Sm ds m:=⟨h.1,fun d hd=>⟨by have:=(h.2 d hd).1;omega,fun r hr=>by have:=(h.2 d hd).2 r hr;omega⟩⟩
theorem Sm.tail {a:Dat} {ds:List Dat} {n:Nat} (h:Sm (a::ds) n):Sm ds (n+1):=by
 refine ⟨by have:=h.1;simp at this;omega,fun d hd=>?_⟩
 have:=h.2 d (List.mem_cons_of_mem _ hd)
 exact ⟨by omega,fun r hr=>by have:=this.2 r hr;omega⟩
theorem set_self {rs:List (List Val)} {k:Nat} {r:List Val} (h:rs[k]? = some r):rs.set k r=rs:=by
 obtain ⟨h1,rfl⟩:=List.getElem?_eq_some_iff.1 h
 exact List.set_getElem_self h1
theorem len_set {rs:List (List Val)} {n:Nat} (h:∀ r∈rs,r.length≤n) (k:Nat) {s:List Val} (hs:s.length≤n):∀ r∈rs.set k s,r.length≤n:=fun r hr=>by
 rcases List.mem_or_eq_of_mem_set hr with h1 | h1
 ·exact h r h1
 ·rw [h1];exact hs
theorem mx_set (rs:List (List Val)) (k l n m:Nat):(mxR rs k l n).set k [.own l m]=mxR rs k l m:=by simp [mxR]
theorem mx_back {rs:List (List Val)} {k:Nat} {r:List Val} (h:rs[k]? = some r) (l n:Nat):(mxR rs k l n).set k (rowC r)=rs.map rowC:=by
 have se:=rows_set rs k r
 rw [set_self h] at se
 rw [List.set_set]
 exact se
theorem renR_vs (σ:Nat→Nat):∀ l:List Val,renR σ (l.map vC)=l.map vC
 | []=>rfl
 | x::l=>by
  simp only [List.map_cons,renR,renR_vs σ l]
  rfl
attribute [go_sem] renR_vs
theorem vs_set (r:List Val) (i:Nat) (x:Val):(r.map vC).set i [.int .i64 x.k,.int .i64 x.n,.str x.s]=(r.set i x).map vC:=by rw [List.map_set]
section
variable {L:List Int}
theorem g_Spoil10 (a:Dat) (n:Nat) (hn:n≤100) (hs:Sm [a] n) {p B:Int} (hG:Gd L p B) (hB:100≤B) (hw:nextS L p 1=0) :
  ∃ (ds':List Dat) (p':Int),R K (.call 7 [.ptr 0 0,datS [a]] (St L p))=some (datS ds',St L p')∧p≤p'∧p'≤p+100∧Sm ds' (n+1):=by
 have xc:=c_cloneD [a] (by simp) (by simp)
 have x0:=g_Next hG (by omega) 1
 rw [hw] at x0
 have x1:=g_Flip (hG.step (p+1) (B - 1) (by omega) (by omega)) (by omega) 8
 have x2:=g_Flip (hG.step (p+1+1) (B - 2) (by omega) (by omega)) (by omega) 8
 obtain ⟨hr,hrr⟩:=hs.2 a (by simp)
 have hrr1:∀ r∈a.rows,r.length≤n+1:=fun r h=>by have:=hrr r h;omega
 have xr:=c_clone2 a.rows (by omega)
 have sp:∀ x y:AV,splice [x] 0 [y]=[y]:=fun _ _=>rfl
 simp only [datS,datC,List.map_cons,List.map_nil,List.length_cons,List.length_nil,Nat.reduceAdd,Nat.zero_add] at xc ⊢
 cases f1:nextS L (p+1) 8==0 with
 | true =>
  rw [f1] at x1
  refine ⟨[⟨[122,122],a.rows⟩],p+1+1,?_,by omega,by omega,hs.set 0 _ _ (by omega) hrr1⟩
  rw [call_7]
  simp -implicitDefEqProofs only [go_sem,simprocAttr,Tryz.f7,xc,x0,x1,xr,datC,true_or,singles,single,locsL,locs,List.map_cons,List.map_nil]
 | false =>
  rw [f1] at x1
  cases f2:nextS L (p+1+1) 8==0 with
  | true =>
   rw [f2] at x2
   refine ⟨[],p+1+1+1,?_,by omega,by omega,hs.tail⟩
   rw [call_7]
   simp -implicitDefEqProofs only [go_sem,simprocAttr,Tryz.f7,xc,x0,x1,x2,xr,datC,true_or,singles,single,locsL,locs,List.map_cons,List.map_nil]
  | false =>
   rw [f2] at x2
   by_cases hb:a.rows.length=0
   ·have hb:=List.eq_nil_of_length_eq_zero hb
    refine ⟨[⟨a.nm,[[]]⟩],p+1+1+1,?_,by omega,by omega,hs.set 0 _ _ (by simp) (by simp)⟩
    simp only [hb,List.map_nil,List.length_nil] at xr xc ⊢
    rw [call_7]
    simp -implicitDefEqProofs only [go_sem,simprocAttr,Tryz.f7,xc,x0,x1,x2,xr,datC,rowC,true_or,singles,single,locsL,locs,List.map_cons,List.map_nil]
   ·have b0:(((a.rows.length:Nat):Int)==0)=false:=by
     rw [←Bool.not_eq_true,beq_iff_eq];omega
    have x3:=g_Next (hG.step (p+1+1+1) (B - 3) (by omega) (by omega)) (by omega) (a.rows.length:Int)
    have n3:=next_bounds L (p+1+1+1) (a.rows.length:Int) (by omega) (by omega)
    obtain ⟨k,hk⟩:∃ k:Nat,nextS L (p+1+1+1) (a.rows.length:Int)=(k:Int):=⟨(nextS L (p+1+1+1) (a.rows.length:Int)).toNat,by omega⟩
    rw [hk] at x3 n3
    have hkl:k < a.rows.length:=by omega
    obtain ⟨r,hkr⟩:=some_at (l:=a.rows) (i:=k) hkl
    have hrl:=hrr r (List.mem_of_getElem? hkr)
    have gr:=row_at hkr
    have br:(a.rows.map rowC)[k]? = some (rowC r):=by simp [hkr]
    have x4:=g_Next (hG.step (p+1+1+1+1) (B - 4) (by omega) (by omega)) (by omega) 5
    have h5:=hG.step (p+1+1+1+1+1) (B - 5) (by omega) (by omega)
    have se:=rows_set a.rows k r
    rw [set_self hkr] at se
    simp only [rowC] at gr br se
    generalize nextS L (p+1+1+1+1) 5=n5 at *
    have rs1:(((a.rows).length+1)*25≤roomMax)=True:=eq_true (by unfold roomMax;omega)
    have xv:=c_cloneV r (by omega)
    have ms:=mx_self hkl 5 r.length
    have ml:=mx_len a.rows k 5 r.length
    have mg:=at_get ms
    have lo:=locsR_mx a.rows k 5 r.length hkl
    have ro:=renR_mx
    have lf:=fun h (hv:h[5]? = some (.rows 3 (r.map vC) true))=>left_mx h 5 r hv (by omega) a.rows k
    by_cases e0:n5=0
    ·have q0:(n5==0)=true:=by simpa using e0
     obtain ⟨rs',k',m1,m2,xR⟩:=c_RevO a.rows k r.length r hkl (by omega)
     have lo':=locsR_mx rs' k' 5 r.length (by rw [m1.1];exact m2)
     have lo1:=locsR_mx rs' k' 1 r.length (by rw [m1.1];exact m2)
     have lo0:=locsR_mx a.rows k 1 r.length hkl
     have ml':=mx_len rs' k' 5 r.length
     have lf':=fun h (hv:h[5]? = some (.rows 3 (r.map vC) true))=>left_mx h 5 r hv (by omega) rs' k'
     have m1l:=m1.1
     refine ⟨[⟨a.nm,rs'.set k' r⟩],p+1+1+1+1+1,?_,by omega,by omega,hs.set 0 _ _ (by rw [List.length_set,m1.1];omega) (len_set (fun r' h=>hrr1 r' (m1.2 r' h)) _ (by omega))⟩
     simp only [rvH,mxR] at xR lf' lo' lo1 lo0 ml' ms ml mg lo lf ro
     rw [call_7]
     simp -implicitDefEqProofs only [go_sem,simprocAttr,Tryz.f7,xc,x0,x1,x2,x3,x4,xr,b0,sp,datC,rowC,true_or,singles,single,locsL,locs,Int.toNat_natCast,List.length_map,xv,gr,br,q0,xR,lf',lo',lo1,lo0,ml',ms,ml,mg,lo,ro,m1l,List.map_cons,List.map_nil]
    ·have q0:(n5==0)=false:=by simpa using e0
     by_cases e1:n5=1
     ·have q1:(n5==1)=true:=by simpa using e1
      have ra:=rows_app a.rows r
      have mb:=mx_back hkr 5 r.length
      have ix:a.rows.length - 1 - (a.rows.length - 1 - k)=k:=by omega
      have il:(a.rows.length - 1 - k < a.rows.length)=True:=eq_true (by omega)
      refine ⟨[⟨a.nm,a.rows++[r]⟩],p+1+1+1+1+1,?_,by omega,by omega,hs.set 0 _ _ (by simp;omega) (fun r' h=>by
       rcases List.mem_append.1 h with h1 | h1
       ·exact hrr1 r' h1
       ·rw [List.mem_singleton] at h1;rw [h1];omega)⟩
      simp only [mxR,rowC] at ms ml mg lo mb ra
      rw [call_7]
      simp -implicitDefEqProofs only [go_sem,simprocAttr,Tryz.f7,xc,x0,x1,x2,x3,x4,xr,b0,sp,datC,rowC,true_or,singles,single,locsL,locs,Int.toNat_natCast,List.length_map,xv,gr,br,q0,q1,rs1,ra,mb,ix,il,ms,ml,mg,lo,List.map_cons,List.map_nil,List.length_append,List.length_cons,List.length_nil]
     ·have q1:(n5==1)=false:=by simpa using e1
      by_cases e2:n5=2
      ·have q2:(n5==2)=true:=by simpa using e2
       have va:=vs_app r null
       have rm2:((r.length+1)*33≤roomMax)=True:=eq_true (by unfold roomMax;omega)
       have mst:=mx_set a.rows k 5 r.length (r.length+1)
       have lf2:=fun h (hv:h[5]? = some (.rows 3 ((r++[null]).map vC) true))=>left_mx h 5 (r++[null]) hv (by omega) a.rows k
       have lo2:=locsR_mx a.rows k 5 (r.length+1) hkl
       have ml2:=mx_len a.rows k 5 (r.length+1)
       refine ⟨[⟨a.nm,a.rows.set k (r++[null])⟩],p+1+1+1+1+1,?_,by omega,by omega,hs.set 0 _ _ (by rw [List.length_set];omega) (len_set hrr1 _ (by simp;omega))⟩
       simp only [mxR,vC,null,List.length_append,List.length_cons,List.length_nil,Nat.zero_add] at ms ml mg lo lf2 lo2 ml2 mst va
       rw [call_7]
       simp -implicitDefEqProofs only [go_sem,simprocAttr,Tryz.f7,xc,x0,x1,x2,x3,x4,xr,b0,sp,datC,rowC,true_or,singles,single,locsL,locs,Int.toNat_natCast,List.length_map,xv,gr,br,q0,q1,q2,rm2,va,mst,lf2,ms,ml,mg,lo,lo2,ml2,null,List.map_cons,List.map_nil,List.length_append,List.length_cons,List.length_nil]
      ·have q2:(n5==2)=false:=by simpa using e2
       by_cases hr1:r.length=0
       ·have d1:(0 < (r.length:Int))=False:=eq_false (by omega)
        refine ⟨[⟨a.nm,a.rows.set k r⟩],p+1+1+1+1+1,?_,by omega,by omega,hs.set 0 _ _ (by rw [List.length_set];omega) (len_set hrr1 _ (by omega))⟩
        simp only [mxR] at ms ml mg lo lf
        rw [call_7]
        simp -implicitDefEqProofs only [go_sem,simprocAttr,Tryz.f7,xc,x0,x1,x2,x3,x4,xr,b0,sp,datC,rowC,true_or,singles,single,locsL,locs,Int.toNat_natCast,List.length_map,xv,gr,br,q0,q1,q2,d1,lf,ms,ml,mg,lo,List.map_cons,List.map_nil]
       have d1:(0 < (r.length:Int))=True:=eq_true (by omega)
       have x6:=g_Next h5 (by omega) (r.length:Int)
       have n6:=next_bounds L (p+1+1+1+1+1) (r.length:Int) (by omega) (by omega)
       obtain ⟨i,hi⟩:∃ i:Nat,nextS L (p+1+1+1+1+1) (r.length:Int)=(i:Int):=⟨(nextS L (p+1+1+1+1+1) (r.length:Int)).toNat,by omega⟩
       rw [hi] at x6 n6
       obtain ⟨y,p7,x7,b1,b2,_⟩:=g_Any (h5.step (p+1+1+1+1+1+1) (B - 6) (by omega) (by omega)) (by omega)
       obtain ⟨z,hz⟩:=some_at (l:=r) (i:=i) (by omega)
       have bz:(r.map vC)[i]? = some (vC z):=by simp [hz]
       have gz:=at_get bz
       have vs:=vs_set r i y
       have lf2:=fun h (hv:h[5]? = some (.rows 3 ((r.set i y).map vC) true))=>left_mx h 5 (r.set i y) hv (by omega) a.rows k
       rw [List.length_set] at lf2
       refine ⟨[⟨a.nm,a.rows.set k (r.set i y)⟩],p7,?_,by omega,by omega,hs.set 0 _ _ (by rw [List.length_set];omega) (len_set hrr1 _ (by rw [List.length_set];omega))⟩
       simp only [mxR,enc] at ms ml mg lo lf2 x7
       rw [call_7]
       simp -implicitDefEqProofs only [go_sem,simprocAttr,Tryz.f7,xc,x0,x1,x2,x3,x4,xr,b0,sp,datC,rowC,true_or,singles,single,locsL,locs,Int.toNat_natCast,List.length_map,xv,gr,br,q0,q1,q2,d1,x6,x7,bz,gz,vs,lf2,ms,ml,mg,lo,List.map_cons,List.map_nil,List.length_set]
theorem g_Spoil20 (a b:Dat) (n:Nat) (hn:n≤100) (hs:Sm [a,b] n) {p B:Int} (hG:Gd L p B) (hB:100≤B) (hw:nextS L p 2=0) :
  ∃ (ds':List Dat) (p':Int),R K (.call 7 [.ptr 0 0,datS [a,b]] (St L p))=some (datS ds',St L p')∧p≤p'∧p'≤p+100∧Sm ds' (n+1):=by
 have xc:=c_cloneD [a,b] (by simp) (by simp)
 have x0:=g_Next hG (by omega) 2
 rw [hw] at x0
 have x1:=g_Flip (hG.step (p+1) (B - 1) (by omega) (by omega)) (by omega) 8
 have x2:=g_Flip (hG.step (p+1+1) (B - 2) (by omega) (by omega)) (by omega) 8
 obtain ⟨hr,hrr⟩:=hs.2 a (by simp)
 have hrr1:∀ r∈a.rows,r.length≤n+1:=fun r h=>by have:=hrr r h;omega
 have xr:=c_clone2 a.rows (by omega)
 have sp:∀ x y:AV,splice [x] 0 [y]=[y]:=fun _ _=>rfl
 simp only [datS,datC,List.map_cons,List.map_nil,List.length_cons,List.length_nil,Nat.reduceAdd,Nat.zero_add] at xc ⊢
 cases f1:nextS L (p+1) 8==0 with
 | true =>
  rw [f1] at x1
  refine ⟨[⟨[122,122],a.rows⟩,b],p+1+1,?_,by omega,by omega,hs.set 0 _ _ (by omega) hrr1⟩
  rw [call_7]
  simp -implicitDefEqProofs only [go_sem,simprocAttr,Tryz.f7,xc,x0,x1,xr,datC,true_or,singles,single,locsL,locs,List.map_cons,List.map_nil]
 | false =>
  rw [f1] at x1
  cases f2:nextS L (p+1+1) 8==0 with
  | true =>
   rw [f2] at x2
   refine ⟨[b],p+1+1+1,?_,by omega,by omega,hs.tail⟩
   rw [call_7]
   simp -implicitDefEqProofs only [go_sem,simprocAttr,Tryz.f7,xc,x0,x1,x2,xr,datC,true_or,singles,single,locsL,locs,List.map_cons,List.map_nil]
  | false =>
   rw [f2] at x2
   by_cases hb:a.rows.length=0
   ·have hb:=List.eq_nil_of_length_eq_zero hb
    refine ⟨[⟨a.nm,[[]]⟩,b],p+1+1+1,?_,by omega,by omega,hs.set 0 _ _ (by simp) (by simp)⟩
    simp only [hb,List.map_nil,List.length_nil] at xr xc ⊢
    rw [call_7]
    simp -implicitDefEqProofs only [go_sem,simprocAttr,Tryz.f7,xc,x0,x1,x2,xr,datC,rowC,true_or,singles,single,locsL,locs,List.map_cons,List.map_nil]
   ·have b0:(((a.rows.length:Nat):Int)==0)=false:=by
     rw [←Bool.not_eq_true,beq_iff_eq];omega
    have x3:=g_Next (hG.step (p+1+1+1) (B - 3) (by omega) (by omega)) (by omega) (a.rows.length:Int)
    have n3:=next_bounds L (p+1+1+1) (a.rows.length:Int) (by omega) (by omega)
    obtain ⟨k,hk⟩:∃ k:Nat,nextS L (p+1+1+1) (a.rows.length:Int)=(k:Int):=⟨(nextS L (p+1+1+1) (a.rows.length:Int)).toNat,by omega⟩
    rw [hk] at x3 n3
    have hkl:k < a.rows.length:=by omega
    obtain ⟨r,hkr⟩:=some_at (l:=a.rows) (i:=k) hkl
    have hrl:=hrr r (List.mem_of_getElem? hkr)
    have gr:=row_at hkr
    have br:(a.rows.map rowC)[k]? = some (rowC r):=by simp [hkr]
    have x4:=g_Next (hG.step (p+1+1+1+1) (B - 4) (by omega) (by omega)) (by omega) 5
    have h5:=hG.step (p+1+1+1+1+1) (B - 5) (by omega) (by omega)
    have se:=rows_set a.rows k r
    rw [set_self hkr] at se
    simp only [rowC] at gr br se
    generalize nextS L (p+1+1+1+1) 5=n5 at *
    have rs1:(((a.rows).length+1)*25≤roomMax)=True:=eq_true (by unfold roomMax;omega)
    have xv:=c_cloneV r (by omega)
    have ms:=mx_self hkl 5 r.length
    have ml:=mx_len a.rows k 5 r.length
    have mg:=at_get ms
    have lo:=locsR_mx a.rows k 5 r.length hkl
    have ro:=renR_mx
    have lf:=fun h (hv:h[5]? = some (.rows 3 (r.map vC) true))=>left_mx h 5 r hv (by omega) a.rows k
    by_cases e0:n5=0
    ·have q0:(n5==0)=true:=by simpa using e0
     obtain ⟨rs',k',m1,m2,xR⟩:=c_RevO a.rows k r.length r hkl (by omega)
     have lo':=locsR_mx rs' k' 5 r.length (by rw [m1.1];exact m2)
     have lo1:=locsR_mx rs' k' 1 r.length (by rw [m1.1];exact m2)
     have lo0:=locsR_mx a.rows k 1 r.length hkl
     have ml':=mx_len rs' k' 5 r.length
     have lf':=fun h (hv:h[5]? = some (.rows 3 (r.map vC) true))=>left_mx h 5 r hv (by omega) rs' k'
     have m1l:=m1.1
     refine ⟨[⟨a.nm,rs'.set k' r⟩,b],p+1+1+1+1+1,?_,by omega,by omega,hs.set 0 _ _ (by rw [List.length_set,m1.1];omega) (len_set (fun r' h=>hrr1 r' (m1.2 r' h)) _ (by omega))⟩
     simp only [rvH,mxR] at xR lf' lo' lo1 lo0 ml' ms ml mg lo lf ro
     rw [call_7]
     simp -implicitDefEqProofs only [go_sem,simprocAttr,Tryz.f7,xc,x0,x1,x2,x3,x4,xr,b0,sp,datC,rowC,true_or,singles,single,locsL,locs,Int.toNat_natCast,List.length_map,xv,gr,br,q0,xR,lf',lo',lo1,lo0,ml',ms,ml,mg,lo,ro,m1l,List.map_cons,List.map_nil]
    ·have q0:(n5==0)=false:=by simpa using e0
     by_cases e1:n5=1
     ·have q1:(n5==1)=true:=by simpa using e1
      have ra:=rows_app a.rows r
      have mb:=mx_back hkr 5 r.length
      have ix:a.rows.length - 1 - (a.rows.length - 1 - k)=k:=by omega
      have il:(a.rows.length - 1 - k < a.rows.length)=True:=eq_true (by omega)
      refine ⟨[⟨a.nm,a.rows++[r]⟩,b],p+1+1+1+1+1,?_,by omega,by omega,hs.set 0 _ _ (by simp;omega) (fun r' h=>by
       rcases List.mem_append.1 h with h1 | h1
       ·exact hrr1 r' h1
       ·rw [List.mem_singleton] at h1;rw [h1];omega)⟩
      simp only [mxR,rowC] at ms ml mg lo mb ra
      rw [call_7]
      simp -implicitDefEqProofs only [go_sem,simprocAttr,Tryz.f7,xc,x0,x1,x2,x3,x4,xr,b0,sp,datC,rowC,true_or,singles,single,locsL,locs,Int.toNat_natCast,List.length_map,xv,gr,br,q0,q1,rs1,ra,mb,ix,il,ms,ml,mg,lo,List.map_cons,List.map_nil,List.length_append,List.length_cons,List.length_nil]
     ·have q1:(n5==1)=false:=by simpa using e1
      by_cases e2:n5=2
      ·have q2:(n5==2)=true:=by simpa using e2
       have va:=vs_app r null
       have rm2:((r.length+1)*33≤roomMax)=True:=eq_true (by unfold roomMax;omega)
       have mst:=mx_set a.rows k 5 r.length (r.length+1)
       have lf2:=fun h (hv:h[5]? = some (.rows 3 ((r++[null]).map vC) true))=>left_mx h 5 (r++[null]) hv (by omega) a.rows k
       have lo2:=locsR_mx a.rows k 5 (r.length+1) hkl
       have ml2:=mx_len a.rows k 5 (r.length+1)
       refine ⟨[⟨a.nm,a.rows.set k (r++[null])⟩,b],p+1+1+1+1+1,?_,by omega,by omega,hs.set 0 _ _ (by rw [List.length_set];omega) (len_set hrr1 _ (by simp;omega))⟩
       simp only [mxR,vC,null,List.length_append,List.length_cons,List.length_nil,Nat.zero_add] at ms ml mg lo lf2 lo2 ml2 mst va
       rw [call_7]
       simp -implicitDefEqProofs only [go_sem,simprocAttr,Tryz.f7,xc,x0,x1,x2,x3,x4,xr,b0,sp,datC,rowC,true_or,singles,single,locsL,locs,Int.toNat_natCast,List.length_map,xv,gr,br,q0,q1,q2,rm2,va,mst,lf2,ms,ml,mg,lo,lo2,ml2,null,List.map_cons,List.map_nil,List.length_append,List.length_cons,List.length_nil]
      ·have q2:(n5==2)=false:=by simpa using e2
       by_cases hr1:r.length=0
       ·have d1:(0 < (r.length:Int))=False:=eq_false (by omega)
        refine ⟨[⟨a.nm,a.rows.set k r⟩,b],p+1+1+1+1+1,?_,by omega,by omega,hs.set 0 _ _ (by rw [List.length_set];omega) (len_set hrr1 _ (by omega))⟩
        simp only [mxR] at ms ml mg lo lf
        rw [call_7]
        simp -implicitDefEqProofs only [go_sem,simprocAttr,Tryz.f7,xc,x0,x1,x2,x3,x4,xr,b0,sp,datC,rowC,true_or,singles,single,locsL,locs,Int.toNat_natCast,List.length_map,xv,gr,br,q0,q1,q2,d1,lf,ms,ml,mg,lo,List.map_cons,List.map_nil]
       have d1:(0 < (r.length:Int))=True:=eq_true (by omega)
       have x6:=g_Next h5 (by omega) (r.length:Int)
       have n6:=next_bounds L (p+1+1+1+1+1) (r.length:Int) (by omega) (by omega)
       obtain ⟨i,hi⟩:∃ i:Nat,nextS L (p+1+1+1+1+1) (r.length:Int)=(i:Int):=⟨(nextS L (p+1+1+1+1+1) (r.length:Int)).toNat,by omega⟩
       rw [hi] at x6 n6
       obtain ⟨y,p7,x7,b1,b2,_⟩:=g_Any (h5.step (p+1+1+1+1+1+1) (B - 6) (by omega) (by omega)) (by omega)
       obtain ⟨z,hz⟩:=some_at (l:=r) (i:=i) (by omega)
       have bz:(r.map vC)[i]? = some (vC z):=by simp [hz]
       have gz:=at_get bz
       have vs:=vs_set r i y
       have lf2:=fun h (hv:h[5]? = some (.rows 3 ((r.set i y).map vC) true))=>left_mx h 5 (r.set i y) hv (by omega) a.rows k
       rw [List.length_set] at lf2
       refine ⟨[⟨a.nm,a.rows.set k (r.set i y)⟩,b],p7,?_,by omega,by omega,hs.set 0 _ _ (by rw [List.length_set];omega) (len_set hrr1 _ (by rw [List.length_set];omega))⟩
       simp only [mxR,enc] at ms ml mg lo lf2 x7
       rw [call_7]
       simp -implicitDefEqProofs only [go_sem,simprocAttr,Tryz.f7,xc,x0,x1,x2,x3,x4,xr,b0,sp,datC,rowC,true_or,singles,single,locsL,locs,Int.toNat_natCast,List.length_map,xv,gr,br,q0,q1,q2,d1,x6,x7,bz,gz,vs,lf2,ms,ml,mg,lo,List.map_cons,List.map_nil,List.length_set]
theorem g_Spoil21 (a b:Dat) (n:Nat) (hn:n≤100) (hs:Sm [a,b] n) {p B:Int} (hG:Gd L p B) (hB:100≤B) (hw:nextS L p 2=1) :
  ∃ (ds':List Dat) (p':Int),R K (.call 7 [.ptr 0 0,datS [a,b]] (St L p))=some (datS ds',St L p')∧p≤p'∧p'≤p+100∧Sm ds' (n+1):=by
 have xc:=c_cloneD [a,b] (by simp) (by simp)
 have x0:=g_Next hG (by omega) 2
 rw [hw] at x0
 have x1:=g_Flip (hG.step (p+1) (B - 1) (by omega) (by omega)) (by omega) 8
 have x2:=g_Flip (hG.step (p+1+1) (B - 2) (by omega) (by omega)) (by omega) 8
 obtain ⟨hr,hrr⟩:=hs.2 b (by simp)
 have hrr1:∀ r∈b.rows,r.length≤n+1:=fun r h=>by have:=hrr r h;omega
 have xr:=c_clone2 b.rows (by omega)
 have sp:∀ x y:AV,splice [x] 0 [y]=[y]:=fun _ _=>rfl
 simp only [datS,datC,List.map_cons,List.map_nil,List.length_cons,List.length_nil,Nat.reduceAdd,Nat.zero_add] at xc ⊢
 cases f1:nextS L (p+1) 8==0 with
 | true =>
  rw [f1] at x1
  refine ⟨[a,⟨[122,122],b.rows⟩],p+1+1,?_,by omega,by omega,hs.set 1 _ _ (by omega) hrr1⟩
  rw [call_7]
  simp -implicitDefEqProofs only [go_sem,simprocAttr,Tryz.f7,xc,x0,x1,xr,datC,true_or,singles,single,locsL,locs,List.map_cons,List.map_nil]
 | false =>
  rw [f1] at x1
  cases f2:nextS L (p+1+1) 8==0 with
  | true =>
   rw [f2] at x2
   refine ⟨[b],p+1+1+1,?_,by omega,by omega,hs.tail⟩
   rw [call_7]
   simp -implicitDefEqProofs only [go_sem,simprocAttr,Tryz.f7,xc,x0,x1,x2,xr,datC,true_or,singles,single,locsL,locs,List.map_cons,List.map_nil]
  | false =>
   rw [f2] at x2
   by_cases hb:b.rows.length=0
   ·have hb:=List.eq_nil_of_length_eq_zero hb
    refine ⟨[a,⟨b.nm,[[]]⟩],p+1+1+1,?_,by omega,by omega,hs.set 1 _ _ (by simp) (by simp)⟩
    simp only [hb,List.map_nil,List.length_nil] at xr xc ⊢
    rw [call_7]
    simp -implicitDefEqProofs only [go_sem,simprocAttr,Tryz.f7,xc,x0,x1,x2,xr,datC,rowC,true_or,singles,single,locsL,locs,List.map_cons,List.map_nil]
   ·have b0:(((b.rows.length:Nat):Int)==0)=false:=by
     rw [←Bool.not_eq_true,beq_iff_eq];omega
    have x3:=g_Next (hG.step (p+1+1+1) (B - 3) (by omega) (by omega)) (by omega) (b.rows.length:Int)
    have n3:=next_bounds L (p+1+1+1) (b.rows.length:Int) (by omega) (by omega)
    obtain ⟨k,hk⟩:∃ k:Nat,nextS L (p+1+1+1) (b.rows.length:Int)=(k:Int):=⟨(nextS L (p+1+1+1) (b.rows.length:Int)).toNat,by omega⟩
    rw [hk] at x3 n3
    have hkl:k < b.rows.length:=by omega
    obtain ⟨r,hkr⟩:=some_at (l:=b.rows) (i:=k) hkl
    have hrl:=hrr r (List.mem_of_getElem? hkr)
    have gr:=row_at hkr
    have br:(b.rows.map rowC)[k]? = some (rowC r):=by simp [hkr]
    have x4:=g_Next (hG.step (p+1+1+1+1) (B - 4) (by omega) (by omega)) (by omega) 5
    have h5:=hG.step (p+1+1+1+1+1) (B - 5) (by omega) (by omega)
    have se:=rows_set b.rows k r
    rw [set_self hkr] at se
    simp only [rowC] at gr br se
    generalize nextS L (p+1+1+1+1) 5=n5 at *
    have rs1:(((b.rows).length+1)*25≤roomMax)=True:=eq_true (by unfold roomMax;omega)
    have xv:=c_cloneV r (by omega)
    have ms:=mx_self hkl 5 r.length
    have ml:=mx_len b.rows k 5 r.length
    have mg:=at_get ms
    have lo:=locsR_mx b.rows k 5 r.length hkl
    have ro:=renR_mx
    have lf:=fun h (hv:h[5]? = some (.rows 3 (r.map vC) true))=>left_mx h 5 r hv (by omega) b.rows k
    by_cases e0:n5=0
    ·have q0:(n5==0)=true:=by simpa using e0
     obtain ⟨rs',k',m1,m2,xR⟩:=c_RevO b.rows k r.length r hkl (by omega)
     have lo':=locsR_mx rs' k' 5 r.length (by rw [m1.1];exact m2)
     have lo1:=locsR_mx rs' k' 1 r.length (by rw [m1.1];exact m2)
     have lo0:=locsR_mx b.rows k 1 r.length hkl
     have ml':=mx_len rs' k' 5 r.length
     have lf':=fun h (hv:h[5]? = some (.rows 3 (r.map vC) true))=>left_mx h 5 r hv (by omega) rs' k'
     have m1l:=m1.1
     refine ⟨[a,⟨b.nm,rs'.set k' r⟩],p+1+1+1+1+1,?_,by omega,by omega,hs.set 1 _ _ (by rw [List.length_set,m1.1];omega) (len_set (fun r' h=>hrr1 r' (m1.2 r' h)) _ (by omega))⟩
     simp only [rvH,mxR] at xR lf' lo' lo1 lo0 ml' ms ml mg lo lf ro
     rw [call_7]
     simp -implicitDefEqProofs only [go_sem,simprocAttr,Tryz.f7,xc,x0,x1,x2,x3,x4,xr,b0,sp,datC,rowC,true_or,singles,single,locsL,locs,Int.toNat_natCast,List.length_map,xv,gr,br,q0,xR,lf',lo',lo1,lo0,ml',ms,ml,mg,lo,ro,m1l,List.map_cons,List.map_nil]
    ·have q0:(n5==0)=false:=by simpa using e0
     by_cases e1:n5=1
     ·have q1:(n5==1)=true:=by simpa using e1
      have ra:=rows_app b.rows r
      have mb:=mx_back hkr 5 r.length
      have ix:b.rows.length - 1 - (b.rows.length - 1 - k)=k:=by omega
      have il:(b.rows.length - 1 - k < b.rows.length)=True:=eq_true (by omega)
      refine ⟨[a,⟨b.nm,b.rows++[r]⟩],p+1+1+1+1+1,?_,by omega,by omega,hs.set 1 _ _ (by simp;omega) (fun r' h=>by
       rcases List.mem_append.1 h with h1 | h1
       ·exact hrr1 r' h1
       ·rw [List.mem_singleton] at h1;rw [h1];omega)⟩
      simp only [mxR,rowC] at ms ml mg lo mb ra
      rw [call_7]
      simp -implicitDefEqProofs only [go_sem,simprocAttr,Tryz.f7,xc,x0,x1,x2,x3,x4,xr,b0,sp,datC,rowC,true_or,singles,single,locsL,locs,Int.toNat_natCast,List.length_map,xv,gr,br,q0,q1,rs1,ra,mb,ix,il,ms,ml,mg,lo,List.map_cons,List.map_nil,List.length_append,List.length_cons,List.length_nil]
     ·have q1:(n5==1)=false:=by simpa using e1
      by_cases e2:n5=2
      ·have q2:(n5==2)=true:=by simpa using e2
       have va:=vs_app r null
       have rm2:((r.length+1)*33≤roomMax)=True:=eq_true (by unfold roomMax;omega)
       have mst:=mx_set b.rows k 5 r.length (r.length+1)
       have lf2:=fun h (hv:h[5]? = some (.rows 3 ((r++[null]).map vC) true))=>left_mx h 5 (r++[null]) hv (by omega) b.rows k
       have lo2:=locsR_mx b.rows k 5 (r.length+1) hkl
       have ml2:=mx_len b.rows k 5 (r.length+1)
       refine ⟨[a,⟨b.nm,b.rows.set k (r++[null])⟩],p+1+1+1+1+1,?_,by omega,by omega,hs.set 1 _ _ (by rw [List.length_set];omega) (len_set hrr1 _ (by simp;omega))⟩
       simp only [mxR,vC,null,List.length_append,List.length_cons,List.length_nil,Nat.zero_add] at ms ml mg lo lf2 lo2 ml2 mst va
       rw [call_7]
       simp -implicitDefEqProofs only [go_sem,simprocAttr,Tryz.f7,xc,x0,x1,x2,x3,x4,xr,b0,sp,datC,rowC,true_or,singles,single,locsL,locs,Int.toNat_natCast,List.length_map,xv,gr,br,q0,q1,q2,rm2,va,mst,lf2,ms,ml,mg,lo,lo2,ml2,null,List.map_cons,List.map_nil,List.length_append,List.length_cons,List.length_nil]
      ·have q2:(n5==2)=false:=by simpa using e2
       by_cases hr1:r.length=0
       ·have d1:(0 < (r.length:Int))=False:=eq_false (by omega)
        refine ⟨[a,⟨b.nm,b.rows.set k r⟩],p+1+1+1+1+1,?_,by omega,by omega,hs.set 1 _ _ (by rw [List.length_set];omega) (len_set hrr1 _ (by omega))⟩
        simp only [mxR] at ms ml mg lo lf
        rw [call_7]
        simp -implicitDefEqProofs only [go_sem,simprocAttr,Tryz.f7,xc,x0,x1,x2,x3,x4,xr,b0,sp,datC,rowC,true_or,singles,single,locsL,locs,Int.toNat_natCast,List.length_map,xv,gr,br,q0,q1,q2,d1,lf,ms,ml,mg,lo,List.map_cons,List.map_nil]
       have d1:(0 < (r.length:Int))=True:=eq_true (by omega)
       have x6:=g_Next h5 (by omega) (r.length:Int)
       have n6:=next_bounds L (p+1+1+1+1+1) (r.length:Int) (by omega) (by omega)
       obtain ⟨i,hi⟩:∃ i:Nat,nextS L (p+1+1+1+1+1) (r.length:Int)=(i:Int):=⟨(nextS L (p+1+1+1+1+1) (r.length:Int)).toNat,by omega⟩
       rw [hi] at x6 n6
       obtain ⟨y,p7,x7,b1,b2,_⟩:=g_Any (h5.step (p+1+1+1+1+1+1) (B - 6) (by omega) (by omega)) (by omega)
       obtain ⟨z,hz⟩:=some_at (l:=r) (i:=i) (by omega)
       have bz:(r.map vC)[i]? = some (vC z):=by simp [hz]
       have gz:=at_get bz
       have vs:=vs_set r i y
       have lf2:=fun h (hv:h[5]? = some (.rows 3 ((r.set i y).map vC) true))=>left_mx h 5 (r.set i y) hv (by omega) b.rows k
       rw [List.length_set] at lf2
       refine ⟨[a,⟨b.nm,b.rows.set k (r.set i y)⟩],p7,?_,by omega,by omega,hs.set 1 _ _ (by rw [List.length_set];omega) (len_set hrr1 _ (by rw [List.length_set];omega))⟩
       simp only [mxR,enc] at ms ml mg lo lf2 x7
       rw [call_7]
       simp -implicitDefEqProofs only [go_sem,simprocAttr,Tryz.f7,xc,x0,x1,x2,x3,x4,xr,b0,sp,datC,rowC,true_or,singles,single,locsL,locs,Int.toNat_natCast,List.length_map,xv,gr,br,q0,q1,q2,d1,x6,x7,bz,gz,vs,lf2,ms,ml,mg,lo,List.map_cons,List.map_nil,List.length_set]
theorem g_Spoil30 (a b c:Dat) (n:Nat) (hn:n≤100) (hs:Sm [a,b,c] n) {p B:Int} (hG:Gd L p B) (hB:100≤B) (hw:nextS L p 3=0) :
  ∃ (ds':List Dat) (p':Int),R K (.call 7 [.ptr 0 0,datS [a,b,c]] (St L p))=some (datS ds',St L p')∧p≤p'∧p'≤p+100∧Sm ds' (n+1):=by
 have xc:=c_cloneD [a,b,c] (by simp) (by simp)
 have x0:=g_Next hG (by omega) 3
 rw [hw] at x0
 have x1:=g_Flip (hG.step (p+1) (B - 1) (by omega) (by omega)) (by omega) 8
 have x2:=g_Flip (hG.step (p+1+1) (B - 2) (by omega) (by omega)) (by omega) 8
 obtain ⟨hr,hrr⟩:=hs.2 a (by simp)
 have hrr1:∀ r∈a.rows,r.length≤n+1:=fun r h=>by have:=hrr r h;omega
 have xr:=c_clone2 a.rows (by omega)
 have sp:∀ x y:AV,splice [x] 0 [y]=[y]:=fun _ _=>rfl
 simp only [datS,datC,List.map_cons,List.map_nil,List.length_cons,List.length_nil,Nat.reduceAdd,Nat.zero_add] at xc ⊢
 cases f1:nextS L (p+1) 8==0 with
 | true =>
  rw [f1] at x1
  refine ⟨[⟨[122,122],a.rows⟩,b,c],p+1+1,?_,by omega,by omega,hs.set 0 _ _ (by omega) hrr1⟩
  rw [call_7]
  simp -implicitDefEqProofs only [go_sem,simprocAttr,Tryz.f7,xc,x0,x1,xr,datC,true_or,singles,single,locsL,locs,List.map_cons,List.map_nil]
 | false =>
  rw [f1] at x1
  cases f2:nextS L (p+1+1) 8==0 with
  | true =>
   rw [f2] at x2
   refine ⟨[b,c],p+1+1+1,?_,by omega,by omega,hs.tail⟩
   rw [call_7]
   simp -implicitDefEqProofs only [go_sem,simprocAttr,Tryz.f7,xc,x0,x1,x2,xr,datC,true_or,singles,single,locsL,locs,List.map_cons,List.map_nil]
  | false =>
   rw [f2] at x2
   by_cases hb:a.rows.length=0
   ·have hb:=List.eq_nil_of_length_eq_zero hb
    refine ⟨[⟨a.nm,[[]]⟩,b,c],p+1+1+1,?_,by omega,by omega,hs.set 0 _ _ (by simp) (by simp)⟩
    simp only [hb,List.map_nil,List.length_nil] at xr xc ⊢
    rw [call_7]
    simp -implicitDefEqProofs only [go_sem,simprocAttr,Tryz.f7,xc,x0,x1,x2,xr,datC,rowC,true_or,singles,single,locsL,locs,List.map_cons,List.map_nil]
   ·have b0:(((a.rows.length:Nat):Int)==0)=false:=by
     rw [←Bool.not_eq_true,beq_iff_eq];omega
    have x3:=g_Next (hG.step (p+1+1+1) (B - 3) (by omega) (by omega)) (by omega) (a.rows.length:Int)
    have n3:=next_bounds L (p+1+1+1) (a.rows.length:Int) (by omega) (by omega)
    obtain ⟨k,hk⟩:∃ k:Nat,nextS L (p+1+1+1) (a.rows.length:Int)=(k:Int):=⟨(nextS L (p+1+1+1) (a.rows.length:Int)).toNat,by omega⟩
    rw [hk] at x3 n3
    have hkl:k < a.rows.length:=by omega
    obtain ⟨r,hkr⟩:=some_at (l:=a.rows) (i:=k) hkl
    have hrl:=hrr r (List.mem_of_getElem? hkr)
    have gr:=row_at hkr
    have br:(a.rows.map rowC)[k]? = some (rowC r):=by simp [hkr]
    have x4:=g_Next (hG.step (p+1+1+1+1) (B - 4) (by omega) (by omega)) (by omega) 5
    have h5:=hG.step (p+1+1+1+1+1) (B - 5) (by omega) (by omega)
    have se:=rows_set a.rows k r
    rw [set_self hkr] at se
    simp only [rowC] at gr br se
    generalize nextS L (p+1+1+1+1) 5=n5 at *
    have rs1:(((a.rows).length+1)*25≤roomMax)=True:=eq_true (by unfold roomMax;omega)
    have xv:=c_cloneV r (by omega)
    have ms:=mx_self hkl 5 r.length
    have ml:=mx_len a.rows k 5 r.length
    have mg:=at_get ms
    have lo:=locsR_mx a.rows k 5 r.length hkl
    have ro:=renR_mx
    have lf:=fun h (hv:h[5]? = some (.rows 3 (r.map vC) true))=>left_mx h 5 r hv (by omega) a.rows k
    by_cases e0:n5=0
    ·have q0:(n5==0)=true:=by simpa using e0
     obtain ⟨rs',k',m1,m2,xR⟩:=c_RevO a.rows k r.length r hkl (by omega)
     have lo':=locsR_mx rs' k' 5 r.length (by rw [m1.1];exact m2)
     have lo1:=locsR_mx rs' k' 1 r.length (by rw [m1.1];exact m2)
     have lo0:=locsR_mx a.rows k 1 r.length hkl
     have ml':=mx_len rs' k' 5 r.length
     have lf':=fun h (hv:h[5]? = some (.rows 3 (r.map vC) true))=>left_mx h 5 r hv (by omega) rs' k'
     have m1l:=m1.1
     refine ⟨[⟨a.nm,rs'.set k' r⟩,b,c],p+1+1+1+1+1,?_,by omega,by omega,hs.set 0 _ _ (by rw [List.length_set,m1.1];omega) (len_set (fun r' h=>hrr1 r' (m1.2 r' h)) _ (by omega))⟩
     simp only [rvH,mxR] at xR lf' lo' lo1 lo0 ml' ms ml mg lo lf ro
     rw [call_7]
     simp -implicitDefEqProofs only [go_sem,simprocAttr,Tryz.f7,xc,x0,x1,x2,x3,x4,xr,b0,sp,datC,rowC,true_or,singles,single,locsL,locs,Int.toNat_natCast,List.length_map,xv,gr,br,q0,xR,lf',lo',lo1,lo0,ml',ms,ml,mg,lo,ro,m1l,List.map_cons,List.map_nil]
    ·have q0:(n5==0)=false:=by simpa using e0
     by_cases e1:n5=1
     ·have q1:(n5==1)=true:=by simpa using e1
      have ra:=rows_app a.rows r
      have mb:=mx_back hkr 5 r.length
      have ix:a.rows.length - 1 - (a.rows.length - 1 - k)=k:=by omega
      have il:(a.rows.length - 1 - k < a.rows.length)=True:=eq_true (by omega)
      refine ⟨[⟨a.nm,a.rows++[r]⟩,b,c],p+1+1+1+1+1,?_,by omega,by omega,hs.set 0 _ _ (by simp;omega) (fun r' h=>by
       rcases List.mem_append.1 h with h1 | h1
       ·exact hrr1 r' h1
       ·rw [List.mem_singleton] at h1;rw [h1];omega)⟩
      simp only [mxR,rowC] at ms ml mg lo mb ra
      rw [call_7]
      simp -implicitDefEqProofs only [go_sem,simprocAttr,Tryz.f7,xc,x0,x1,x2,x3,x4,xr,b0,sp,datC,rowC,true_or,singles,single,locsL,locs,Int.toNat_natCast,List.length_map,xv,gr,br,q0,q1,rs1,ra,mb,ix,il,ms,ml,mg,lo,List.map_cons,List.map_nil,List.length_append,List.length_cons,List.length_nil]
     ·have q1:(n5==1)=false:=by simpa using e1
      by_cases e2:n5=2
      ·have q2:(n5==2)=true:=by simpa using e2
       have va:=vs_app r null
       have rm2:((r.length+1)*33≤roomMax)=True:=eq_true (by unfold roomMax;omega)
       have mst:=mx_set a.rows k 5 r.length (r.length+1)
       have lf2:=fun h (hv:h[5]? = some (.rows 3 ((r++[null]).map vC) true))=>left_mx h 5 (r++[null]) hv (by omega) a.rows k
       have lo2:=locsR_mx a.rows k 5 (r.length+1) hkl
       have ml2:=mx_len a.rows k 5 (r.length+1)
       refine ⟨[⟨a.nm,a.rows.set k (r++[null])⟩,b,c],p+1+1+1+1+1,?_,by omega,by omega,hs.set 0 _ _ (by rw [List.length_set];omega) (len_set hrr1 _ (by simp;omega))⟩
       simp only [mxR,vC,null,List.length_append,List.length_cons,List.length_nil,Nat.zero_add] at ms ml mg lo lf2 lo2 ml2 mst va
       rw [call_7]
       simp -implicitDefEqProofs only [go_sem,simprocAttr,Tryz.f7,xc,x0,x1,x2,x3,x4,xr,b0,sp,datC,rowC,true_or,singles,single,locsL,locs,Int.toNat_natCast,List.length_map,xv,gr,br,q0,q1,q2,rm2,va,mst,lf2,ms,ml,mg,lo,lo2,ml2,null,List.map_cons,List.map_nil,List.length_append,List.length_cons,List.length_nil]
      ·have q2:(n5==2)=false:=by simpa using e2
       by_cases hr1:r.length=0
       ·have d1:(0 < (r.length:Int))=False:=eq_false (by omega)
        refine ⟨[⟨a.nm,a.rows.set k r⟩,b,c],p+1+1+1+1+1,?_,by omega,by omega,hs.set 0 _ _ (by rw [List.length_set];omega) (len_set hrr1 _ (by omega))⟩
        simp only [mxR] at ms ml mg lo lf
        rw [call_7]
        simp -implicitDefEqProofs only [go_sem,simprocAttr,Tryz.f7,xc,x0,x1,x2,x3,x4,xr,b0,sp,datC,rowC,true_or,singles,single,locsL,locs,Int.toNat_natCast,List.length_map,xv,gr,br,q0,q1,q2,d1,lf,ms,ml,mg,lo,List.map_cons,List.map_nil]
       have d1:(0 < (r.length:Int))=True:=eq_true (by omega)
       have x6:=g_Next h5 (by omega) (r.length:Int)
       have n6:=next_bounds L (p+1+1+1+1+1) (r.length:Int) (by omega) (by omega)
       obtain ⟨i,hi⟩:∃ i:Nat,nextS L (p+1+1+1+1+1) (r.length:Int)=(i:Int):=⟨(nextS L (p+1+1+1+1+1) (r.length:Int)).toNat,by omega⟩
       rw [hi] at x6 n6
       obtain ⟨y,p7,x7,b1,b2,_⟩:=g_Any (h5.step (p+1+1+1+1+1+1) (B - 6) (by omega) (by omega)) (by omega)
       obtain ⟨z,hz⟩:=some_at (l:=r) (i:=i) (by omega)
       have bz:(r.map vC)[i]? = some (vC z):=by simp [hz]
       have gz:=at_get bz
       have vs:=vs_set r i y
       have lf2:=fun h (hv:h[5]? = some (.rows 3 ((r.set i y).map vC) true))=>left_mx h 5 (r.set i y) hv (by omega) a.rows k
       rw [List.length_set] at lf2
       refine ⟨[⟨a.nm,a.rows.set k (r.set i y)⟩,b,c],p7,?_,by omega,by omega,hs.set 0 _ _ (by rw [List.length_set];omega) (len_set hrr1 _ (by rw [List.length_set];omega))⟩
       simp only [mxR,enc] at ms ml mg lo lf2 x7
       rw [call_7]
       simp -implicitDefEqProofs only [go_sem,simprocAttr,Tryz.f7,xc,x0,x1,x2,x3,x4,xr,b0,sp,datC,rowC,true_or,singles,single,locsL,locs,Int.toNat_natCast,List.length_map,xv,gr,br,q0,q1,q2,d1,x6,x7,bz,gz,vs,lf2,ms,ml,mg,lo,List.map_cons,List.map_nil,List.length_set]
theorem g_Spoil31 (a b c:Dat) (n:Nat) (hn:n≤100) (hs:Sm [a,b,c] n) {p B:Int} (hG:Gd L p B) (hB:100≤B) (hw:nextS L p 3=1) :
  ∃ (ds':List Dat) (p':Int),R K (.call 7 [.ptr 0 0,datS [a,b,c]] (St L p))=some (datS ds',St L p')∧p≤p'∧p'≤p+100∧Sm ds' (n+1):=by
 have xc:=c_cloneD [a,b,c] (by simp) (by simp)
 have x0:=g_Next hG (by omega) 3
 rw [hw] at x0
 have x1:=g_Flip (hG.step (p+1) (B - 1) (by omega) (by omega)) (by omega) 8
 have x2:=g_Flip (hG.step (p+1+1) (B - 2) (by omega) (by omega)) (by omega) 8
 obtain ⟨hr,hrr⟩:=hs.2 b (by simp)
 have hrr1:∀ r∈b.rows,r.length≤n+1:=fun r h=>by have:=hrr r h;omega
 have xr:=c_clone2 b.rows (by omega)
 have sp:∀ x y:AV,splice [x] 0 [y]=[y]:=fun _ _=>rfl
 simp only [datS,datC,List.map_cons,List.map_nil,List.length_cons,List.length_nil,Nat.reduceAdd,Nat.zero_add] at xc ⊢
 cases f1:nextS L (p+1) 8==0 with
 | true =>
  rw [f1] at x1
  refine ⟨[a,⟨[122,122],b.rows⟩,c],p+1+1,?_,by omega,by omega,hs.set 1 _ _ (by omega) hrr1⟩
  rw [call_7]
  simp -implicitDefEqProofs only [go_sem,simprocAttr,Tryz.f7,xc,x0,x1,xr,datC,true_or,singles,single,locsL,locs,List.map_cons,List.map_nil]
 | false =>
  rw [f1] at x1
  cases f2:nextS L (p+1+1) 8==0 with
  | true =>
   rw [f2] at x2
   refine ⟨[b,c],p+1+1+1,?_,by omega,by omega,hs.tail⟩
   rw [call_7]
   simp -implicitDefEqProofs only [go_sem,simprocAttr,Tryz.f7,xc,x0,x1,x2,xr,datC,true_or,singles,single,locsL,locs,List.map_cons,List.map_nil]
  | false =>
   rw [f2] at x2
   by_cases hb:b.rows.length=0
   ·have hb:=List.eq_nil_of_length_eq_zero hb
    refine ⟨[a,⟨b.nm,[[]]⟩,c],p+1+1+1,?_,by omega,by omega,hs.set 1 _ _ (by simp) (by simp)⟩
    simp only [hb,List.map_nil,List.length_nil] at xr xc ⊢
    rw [call_7]
    simp -implicitDefEqProofs only [go_sem,simprocAttr,Tryz.f7,xc,x0,x1,x2,xr,datC,rowC,true_or,singles,single,locsL,locs,List.map_cons,List.map_nil]
   ·have b0:(((b.rows.length:Nat):Int)==0)=false:=by
     rw [←Bool.not_eq_true,beq_iff_eq];omega
    have x3:=g_Next (hG.step (p+1+1+1) (B - 3) (by omega) (by omega)) (by omega) (b.rows.length:Int)
    have n3:=next_bounds L (p+1+1+1) (b.rows.length:Int) (by omega) (by omega)
    obtain ⟨k,hk⟩:∃ k:Nat,nextS L (p+1+1+1) (b.rows.length:Int)=(k:Int):=⟨(nextS L (p+1+1+1) (b.rows.length:Int)).toNat,by omega⟩
    rw [hk] at x3 n3
    have hkl:k < b.rows.length:=by omega
    obtain ⟨r,hkr⟩:=some_at (l:=b.rows) (i:=k) hkl
    have hrl:=hrr r (List.mem_of_getElem? hkr)
    have gr:=row_at hkr
    have br:(b.rows.map rowC)[k]? = some (rowC r):=by simp [hkr]
    have x4:=g_Next (hG.step (p+1+1+1+1) (B - 4) (by omega) (by omega)) (by omega) 5
    have h5:=hG.step (p+1+1+1+1+1) (B - 5) (by omega) (by omega)
    have se:=rows_set b.rows k r
    rw [set_self hkr] at se
    simp only [rowC] at gr br se
    generalize nextS L (p+1+1+1+1) 5=n5 at *
    have rs1:(((b.rows).length+1)*25≤roomMax)=True:=eq_true (by unfold roomMax;omega)
    have xv:=c_cloneV r (by omega)
    have ms:=mx_self hkl 5 r.length
    have ml:=mx_len b.rows k 5 r.length
    have mg:=at_get ms
    have lo:=locsR_mx b.rows k 5 r.length hkl
    have ro:=renR_mx
    have lf:=fun h (hv:h[5]? = some (.rows 3 (r.map vC) true))=>left_mx h 5 r hv (by omega) b.rows k
    by_cases e0:n5=0
    ·have q0:(n5==0)=true:=by simpa using e0
     obtain ⟨rs',k',m1,m2,xR⟩:=c_RevO b.rows k r.length r hkl (by omega)
     have lo':=locsR_mx rs' k' 5 r.length (by rw [m1.1];exact m2)
     have lo1:=locsR_mx rs' k' 1 r.length (by rw [m1.1];exact m2)
     have lo0:=locsR_mx b.rows k 1 r.length hkl
     have ml':=mx_len rs' k' 5 r.length
     have lf':=fun h (hv:h[5]? = some (.rows 3 (r.map vC) true))=>left_mx h 5 r hv (by omega) rs' k'
     have m1l:=m1.1
     refine ⟨[a,⟨b.nm,rs'.set k' r⟩,c],p+1+1+1+1+1,?_,by omega,by omega,hs.set 1 _ _ (by rw [List.length_set,m1.1];omega) (len_set (fun r' h=>hrr1 r' (m1.2 r' h)) _ (by omega))⟩
     simp only [rvH,mxR] at xR lf' lo' lo1 lo0 ml' ms ml mg lo lf ro
     rw [call_7]
     simp -implicitDefEqProofs only [go_sem,simprocAttr,Tryz.f7,xc,x0,x1,x2,x3,x4,xr,b0,sp,datC,rowC,true_or,singles,single,locsL,locs,Int.toNat_natCast,List.length_map,xv,gr,br,q0,xR,lf',lo',lo1,lo0,ml',ms,ml,mg,lo,ro,m1l,List.map_cons,List.map_nil]
    ·have q0:(n5==0)=false:=by simpa using e0
     by_cases e1:n5=1
     ·have q1:(n5==1)=true:=by simpa using e1
      have ra:=rows_app b.rows r
      have mb:=mx_back hkr 5 r.length
      have ix:b.rows.length - 1 - (b.rows.length - 1 - k)=k:=by omega
      have il:(b.rows.length - 1 - k < b.rows.length)=True:=eq_true (by omega)
      refine ⟨[a,⟨b.nm,b.rows++[r]⟩,c],p+1+1+1+1+1,?_,by omega,by omega,hs.set 1 _ _ (by simp;omega) (fun r' h=>by
       rcases List.mem_append.1 h with h1 | h1
       ·exact hrr1 r' h1
       ·rw [List.mem_singleton] at h1;rw [h1];omega)⟩
      simp only [mxR,rowC] at ms ml mg lo mb ra
      rw [call_7]
      simp -implicitDefEqProofs only [go_sem,simprocAttr,Tryz.f7,xc,x0,x1,x2,x3,x4,xr,b0,sp,datC,rowC,true_or,singles,single,locsL,locs,Int.toNat_natCast,List.length_map,xv,gr,br,q0,q1,rs1,ra,mb,ix,il,ms,ml,mg,lo,List.map_cons,List.map_nil,List.length_append,List.length_cons,List.length_nil]
     ·have q1:(n5==1)=false:=by simpa using e1
      by_cases e2:n5=2
      ·have q2:(n5==2)=true:=by simpa using e2
       have va:=vs_app r null
       have rm2:((r.length+1)*33≤roomMax)=True:=eq_true (by unfold roomMax;omega)
       have mst:=mx_set b.rows k 5 r.length (r.length+1)
       have lf2:=fun h (hv:h[5]? = some (.rows 3 ((r++[null]).map vC) true))=>left_mx h 5 (r++[null]) hv (by omega) b.rows k
       have lo2:=locsR_mx b.rows k 5 (r.length+1) hkl
       have ml2:=mx_len b.rows k 5 (r.length+1)
       refine ⟨[a,⟨b.nm,b.rows.set k (r++[null])⟩,c],p+1+1+1+1+1,?_,by omega,by omega,hs.set 1 _ _ (by rw [List.length_set];omega) (len_set hrr1 _ (by simp;omega))⟩
       simp only [mxR,vC,null,List.length_append,List.length_cons,List.length_nil,Nat.zero_add] at ms ml mg lo lf2 lo2 ml2 mst va
       rw [call_7]
       simp -implicitDefEqProofs only [go_sem,simprocAttr,Tryz.f7,xc,x0,x1,x2,x3,x4,xr,b0,sp,datC,rowC,true_or,singles,single,locsL,locs,Int.toNat_natCast,List.length_map,xv,gr,br,q0,q1,q2,rm2,va,mst,lf2,ms,ml,mg,lo,lo2,ml2,null,List.map_cons,List.map_nil,List.length_append,List.length_cons,List.length_nil]
      ·have q2:(n5==2)=false:=by simpa using e2
       by_cases hr1:r.length=0
       ·have d1:(0 < (r.length:Int))=False:=eq_false (by omega)
        refine ⟨[a,⟨b.nm,b.rows.set k r⟩,c],p+1+1+1+1+1,?_,by omega,by omega,hs.set 1 _ _ (by rw [List.length_set];omega) (len_set hrr1 _ (by omega))⟩
        simp only [mxR] at ms ml mg lo lf
        rw [call_7]
        simp -implicitDefEqProofs only [go_sem,simprocAttr,Tryz.f7,xc,x0,x1,x2,x3,x4,xr,b0,sp,datC,rowC,true_or,singles,single,locsL,locs,Int.toNat_natCast,List.length_map,xv,gr,br,q0,q1,q2,d1,lf,ms,ml,mg,lo,List.map_cons,List.map_nil]
       have d1:(0 < (r.length:Int))=True:=eq_true (by omega)
       have x6:=g_Next h5 (by omega) (r.length:Int)
       have n6:=next_bounds L (p+1+1+1+1+1) (r.length:Int) (by omega) (by omega)
       obtain ⟨i,hi⟩:∃ i:Nat,nextS L (p+1+1+1+1+1) (r.length:Int)=(i:Int):=⟨(nextS L (p+1+1+1+1+1) (r.length:Int)).toNat,by omega⟩
       rw [hi] at x6 n6
       obtain ⟨y,p7,x7,b1,b2,_⟩:=g_Any (h5.step (p+1+1+1+1+1+1) (B - 6) (by omega) (by omega)) (by omega)
       obtain ⟨z,hz⟩:=some_at (l:=r) (i:=i) (by omega)
       have bz:(r.map vC)[i]? = some (vC z):=by simp [hz]
       have gz:=at_get bz
       have vs:=vs_set r i y
       have lf2:=fun h (hv:h[5]? = some (.rows 3 ((r.set i y).map vC) true))=>left_mx h 5 (r.set i y) hv (by omega) b.rows k
       rw [List.length_set] at lf2
       refine ⟨[a,⟨b.nm,b.rows.set k (r.set i y)⟩,c],p7,?_,by omega,by omega,hs.set 1 _ _ (by rw [List.length_set];omega) (len_set hrr1 _ (by rw [List.length_set];omega))⟩
       simp only [mxR,enc] at ms ml mg lo lf2 x7
       rw [call_7]
       simp -implicitDefEqProofs only [go_sem,simprocAttr,Tryz.f7,xc,x0,x1,x2,x3,x4,xr,b0,sp,datC,rowC,true_or,singles,single,locsL,locs,Int.toNat_natCast,List.length_map,xv,gr,br,q0,q1,q2,d1,x6,x7,bz,gz,vs,lf2,ms,ml,mg,lo,List.map_cons,List.map_nil,List.length_set]
theorem g_Spoil32 (a b c:Dat) (n:Nat) (hn:n≤100) (hs:Sm [a,b,c] n) {p B:Int} (hG:Gd L p B) (hB:100≤B) (hw:nextS L p 3=2) :
  ∃ (ds':List Dat) (p':Int),R K (.call 7 [.ptr 0 0,datS [a,b,c]] (St L p))=some (datS ds',St L p')∧p≤p'∧p'≤p+100∧Sm ds' (n+1):=by
 have xc:=c_cloneD [a,b,c] (by simp) (by simp)
 have x0:=g_Next hG (by omega) 3
 rw [hw] at x0
 have x1:=g_Flip (hG.step (p+1) (B - 1) (by omega) (by omega)) (by omega) 8
 have x2:=g_Flip (hG.step (p+1+1) (B - 2) (by omega) (by omega)) (by omega) 8
 obtain ⟨hr,hrr⟩:=hs.2 c (by simp)
 have hrr1:∀ r∈c.rows,r.length≤n+1:=fun r h=>by have:=hrr r h;omega
 have xr:=c_clone2 c.rows (by omega)
 have sp:∀ x y:AV,splice [x] 0 [y]=[y]:=fun _ _=>rfl
 simp only [datS,datC,List.map_cons,List.map_nil,List.length_cons,List.length_nil,Nat.reduceAdd,Nat.zero_add] at xc ⊢
 cases f1:nextS L (p+1) 8==0 with
 | true =>
  rw [f1] at x1
  refine ⟨[a,b,⟨[122,122],c.rows⟩],p+1+1,?_,by omega,by omega,hs.set 2 _ _ (by omega) hrr1⟩
  rw [call_7]
  simp -implicitDefEqProofs only [go_sem,simprocAttr,Tryz.f7,xc,x0,x1,xr,datC,true_or,singles,single,locsL,locs,List.map_cons,List.map_nil]
 | false =>
  rw [f1] at x1
  cases f2:nextS L (p+1+1) 8==0 with
  | true =>
   rw [f2] at x2
   refine ⟨[b,c],p+1+1+1,?_,by omega,by omega,hs.tail⟩
   rw [call_7]
   simp -implicitDefEqProofs only [go_sem,simprocAttr,Tryz.f7,xc,x0,x1,x2,xr,datC,true_or,singles,single,locsL,locs,List.map_cons,List.map_nil]
  | false =>
   rw [f2] at x2
   by_cases hb:c.rows.length=0
   ·have hb:=List.eq_nil_of_length_eq_zero hb
    refine ⟨[a,b,⟨c.nm,[[]]⟩],p+1+1+1,?_,by omega,by omega,hs.set 2 _ _ (by simp) (by simp)⟩
    simp only [hb,List.map_nil,List.length_nil] at xr xc ⊢
    rw [call_7]
    simp -implicitDefEqProofs only [go_sem,simprocAttr,Tryz.f7,xc,x0,x1,x2,xr,datC,rowC,true_or,singles,single,locsL,locs,List.map_cons,List.map_nil]
   ·have b0:(((c.rows.length:Nat):Int)==0)=false:=by
     rw [←Bool.not_eq_true,beq_iff_eq];omega
    have x3:=g_Next (hG.step (p+1+1+1) (B - 3) (by omega) (by omega)) (by omega) (c.rows.length:Int)
    have n3:=next_bounds L (p+1+1+1) (c.rows.length:Int) (by omega) (by omega)
    obtain ⟨k,hk⟩:∃ k:Nat,nextS L (p+1+1+1) (c.rows.length:Int)=(k:Int):=⟨(nextS L (p+1+1+1) (c.rows.length:Int)).toNat,by omega⟩
    rw [hk] at x3 n3
    have hkl:k < c.rows.length:=by omega
    obtain ⟨r,hkr⟩:=some_at (l:=c.rows) (i:=k) hkl
    have hrl:=hrr r (List.mem_of_getElem? hkr)
    have gr:=row_at hkr
    have br:(c.rows.map rowC)[k]? = some (rowC r):=by simp [hkr]
    have x4:=g_Next (hG.step (p+1+1+1+1) (B - 4) (by omega) (by omega)) (by omega) 5
    have h5:=hG.step (p+1+1+1+1+1) (B - 5) (by omega) (by omega)
    have se:=rows_set c.rows k r
    rw [set_self hkr] at se
    simp only [rowC] at gr br se
    generalize nextS L (p+1+1+1+1) 5=n5 at *
    have rs1:(((c.rows).length+1)*25≤roomMax)=True:=eq_true (by unfold roomMax;omega)
    have xv:=c_cloneV r (by omega)
    have ms:=mx_self hkl 5 r.length
    have ml:=mx_len c.rows k 5 r.length
    have mg:=at_get ms
    have lo:=locsR_mx c.rows k 5 r.length hkl
    have ro:=renR_mx
    have lf:=fun h (hv:h[5]? = some (.rows 3 (r.map vC) true))=>left_mx h 5 r hv (by omega) c.rows k
    by_cases e0:n5=0
    ·have q0:(n5==0)=true:=by simpa using e0
     obtain ⟨rs',k',m1,m2,xR⟩:=c_RevO c.rows k r.length r hkl (by omega)
     have lo':=locsR_mx rs' k' 5 r.length (by rw [m1.1];exact m2)
     have lo1:=locsR_mx rs' k' 1 r.length (by rw [m1.1];exact m2)
     have lo0:=locsR_mx c.rows k 1 r.length hkl
     have ml':=mx_len rs' k' 5 r.length
     have lf':=fun h (hv:h[5]? = some (.rows 3 (r.map vC) true))=>left_mx h 5 r hv (by omega) rs' k'
     have m1l:=m1.1
     refine ⟨[a,b,⟨c.nm,rs'.set k' r⟩],p+1+1+1+1+1,?_,by omega,by omega,hs.set 2 _ _ (by rw [List.length_set,m1.1];omega) (len_set (fun r' h=>hrr1 r' (m1.2 r' h)) _ (by omega))⟩
     simp only [rvH,mxR] at xR lf' lo' lo1 lo0 ml' ms ml mg lo lf ro
     rw [call_7]
     simp -implicitDefEqProofs only [go_sem,simprocAttr,Tryz.f7,xc,x0,x1,x2,x3,x4,xr,b0,sp,datC,rowC,true_or,singles,single,locsL,locs,Int.toNat_natCast,List.length_map,xv,gr,br,q0,xR,lf',lo',lo1,lo0,ml',ms,ml,mg,lo,ro,m1l,List.map_cons,List.map_nil]
    ·have q0:(n5==0)=false:=by simpa using e0
     by_cases e1:n5=1
     ·have q1:(n5==1)=true:=by simpa using e1
      have ra:=rows_app c.rows r
      have mb:=mx_back hkr 5 r.length
      have ix:c.rows.length - 1 - (c.rows.length - 1 - k)=k:=by omega
      have il:(c.rows.length - 1 - k < c.rows.length)=True:=eq_true (by omega)
      refine ⟨[a,b,⟨c.nm,c.rows++[r]⟩],p+1+1+1+1+1,?_,by omega,by omega,hs.set 2 _ _ (by simp;omega) (fun r' h=>by
       rcases List.mem_append.1 h with h1 | h1
       ·exact hrr1 r' h1
       ·rw [List.mem_singleton] at h1;rw [h1];omega)⟩
      simp only [mxR,rowC] at ms ml mg lo mb ra
      rw [call_7]
      simp -implicitDefEqProofs only [go_sem,simprocAttr,Tryz.f7,xc,x0,x1,x2,x3,x4,xr,b0,sp,datC,rowC,true_or,singles,single,locsL,locs,Int.toNat_natCast,List.length_map,xv,gr,br,q0,q1,rs1,ra,mb,ix,il,ms,ml,mg,lo,List.map_cons,List.map_nil,List.length_append,List.length_cons,List.length_nil]
     ·have q1:(n5==1)=false:=by simpa using e1
      by_cases e2:n5=2
      ·have q2:(n5==2)=true:=by simpa using e2
       have va:=vs_app r null
       have rm2:((r.length+1)*33≤roomMax)=True:=eq_true (by unfold roomMax;omega)
       have mst:=mx_set c.rows k 5 r.length (r.length+1)
       have lf2:=fun h (hv:h[5]? = some (.rows 3 ((r++[null]).map vC) true))=>left_mx h 5 (r++[null]) hv (by omega) c.rows k
       have lo2:=locsR_mx c.rows k 5 (r.length+1) hkl
       have ml2:=mx_len c.rows k 5 (r.length+1)
       refine ⟨[a,b,⟨c.nm,c.rows.set k (r++[null])⟩],p+1+1+1+1+1,?_,by omega,by omega,hs.set 2 _ _ (by rw [List.length_set];omega) (len_set hrr1 _ (by simp;omega))⟩
       simp only [mxR,vC,null,List.length_append,List.length_cons,List.length_nil,Nat.zero_add] at ms ml mg lo lf2 lo2 ml2 mst va
       rw [call_7]
       simp -implicitDefEqProofs only [go_sem,simprocAttr,Tryz.f7,xc,x0,x1,x2,x3,x4,xr,b0,sp,datC,rowC,true_or,singles,single,locsL,locs,Int.toNat_natCast,List.length_map,xv,gr,br,q0,q1,q2,rm2,va,mst,lf2,ms,ml,mg,lo,lo2,ml2,null,List.map_cons,List.map_nil,List.length_append,List.length_cons,List.length_nil]
      ·have q2:(n5==2)=false:=by simpa using e2
       by_cases hr1:r.length=0
       ·have d1:(0 < (r.length:Int))=False:=eq_false (by omega)
        refine ⟨[a,b,⟨c.nm,c.rows.set k r⟩],p+1+1+1+1+1,?_,by omega,by omega,hs.set 2 _ _ (by rw [List.length_set];omega) (len_set hrr1 _ (by omega))⟩
        simp only [mxR] at ms ml mg lo lf
        rw [call_7]
        simp -implicitDefEqProofs only [go_sem,simprocAttr,Tryz.f7,xc,x0,x1,x2,x3,x4,xr,b0,sp,datC,rowC,true_or,singles,single,locsL,locs,Int.toNat_natCast,List.length_map,xv,gr,br,q0,q1,q2,d1,lf,ms,ml,mg,lo,List.map_cons,List.map_nil]
       have d1:(0 < (r.length:Int))=True:=eq_true (by omega)
       have x6:=g_Next h5 (by omega) (r.length:Int)
       have n6:=next_bounds L (p+1+1+1+1+1) (r.length:Int) (by omega) (by omega)
       obtain ⟨i,hi⟩:∃ i:Nat,nextS L (p+1+1+1+1+1) (r.length:Int)=(i:Int):=⟨(nextS L (p+1+1+1+1+1) (r.length:Int)).toNat,by omega⟩
       rw [hi] at x6 n6
       obtain ⟨y,p7,x7,b1,b2,_⟩:=g_Any (h5.step (p+1+1+1+1+1+1) (B - 6) (by omega) (by omega)) (by omega)
       obtain ⟨z,hz⟩:=some_at (l:=r) (i:=i) (by omega)
       have bz:(r.map vC)[i]? = some (vC z):=by simp [hz]
       have gz:=at_get bz
       have vs:=vs_set r i y
       have lf2:=fun h (hv:h[5]? = some (.rows 3 ((r.set i y).map vC) true))=>left_mx h 5 (r.set i y) hv (by omega) c.rows k
       rw [List.length_set] at lf2
       refine ⟨[a,b,⟨c.nm,c.rows.set k (r.set i y)⟩],p7,?_,by omega,by omega,hs.set 2 _ _ (by rw [List.length_set];omega) (len_set hrr1 _ (by rw [List.length_set];omega))⟩
       simp only [mxR,enc] at ms ml mg lo lf2 x7
       rw [call_7]
       simp -implicitDefEqProofs only [go_sem,simprocAttr,Tryz.f7,xc,x0,x1,x2,x3,x4,xr,b0,sp,datC,rowC,true_or,singles,single,locsL,locs,Int.toNat_natCast,List.length_map,xv,gr,br,q0,q1,q2,d1,x6,x7,bz,gz,vs,lf2,ms,ml,mg,lo,List.map_cons,List.map_nil,List.length_set]
theorem g_SpoiledD (ds:List Dat) (n:Nat) (h1:1≤ds.length) (hn:n≤100) (hs:Sm ds n) {p B:Int} (hG:Gd L p B) (hB:100≤B) :
  ∃ (ds':List Dat) (p':Int),R K (.call 7 [.ptr 0 0,datS ds] (St L p))=some (datS ds',St L p')∧p≤p'∧p'≤p+100∧Sm ds' (n+1):=by
 have h3:=hs.1
 rcases ds with _ | ⟨a,_ | ⟨b,_ | ⟨c,_ | ⟨d',ds⟩⟩⟩⟩
 ·simp at h1
 ·have b0:=next_bounds L p 1 (by omega) (by omega)
  exact g_Spoil10 a n hn hs hG hB (by omega)
 ·have b0:=next_bounds L p 2 (by omega) (by omega)
  rcases (show nextS L p 2=0∨nextS L p 2=1 by omega) with hw | hw
  ·exact g_Spoil20 a b n hn hs hG hB hw
  ·exact g_Spoil21 a b n hn hs hG hB hw
 ·have b0:=next_bounds L p 3 (by omega) (by omega)
  rcases (show nextS L p 3=0∨nextS L p 3=1∨nextS L p 3=2 by omega) with hw | hw | hw
  ·exact g_Spoil30 a b c n hn hs hG hB hw
  ·exact g_Spoil31 a b c n hn hs hG hB hw
  ·exact g_Spoil32 a b c n hn hs hG hB hw
 ·simp at h3
end
theorem l_EqB (l:List Brk) (hl:l.length≤1000000) (ks:List It):∀ (q j:Nat) (i:Int) (Bo:Code),Loop Tryz.f11 0 Bo→i=(j:Int)→l.length=j+q →
  RL K (.run 11 0 (.code Bo::.lp Bo (some ([0,1,12,13],[])) 0::.blk 0 0::ks) [(0,.rows (l.map brkC)),(1,.rows (l.map brkC)),(12,I (l.length:Int)),(13,I i)] []) =
  R K (.run 11 0 ks [] [])
 | 0,j,i,Bo,hB,hi,hq=>by
  subst hi
  have d:¬(j:Int) < (l.length:Int):=by omega
  unfold Loop at hB
  simp -implicitDefEqProofs only [go_sem,simprocAttr,Tryz.f11,loopOf] at hB
  subst hB
  rw [RL_eq]
  simp -implicitDefEqProofs only [go_sem,simprocAttr,d]
 | q+1,j,i,Bo,hB,hi,hq=>by
  subst hi
  have hB':=hB
  have d:(j:Int) < (l.length:Int):=by omega
  have h7:=next_id (i:=j) (n:=l.length) (by omega) (by omega)
  obtain ⟨c,hc⟩:=some_at (l:=l) (i:=j) (by omega)
  have gc:at? (l.map brkC) (j:Int)=some (brkC c):=at_get (by simp [hc])
  have ih:=l_EqB l hl ks q (j+1) _ Bo hB' rfl (by omega)
  simp only [brkC] at gc
  unfold Loop at hB
  simp -implicitDefEqProofs only [go_sem,simprocAttr,Tryz.f11,loopOf] at hB
  subst hB
  rw [RL_eq]
  simp -implicitDefEqProofs only [go_sem,simprocAttr,d,h7,gc,bne,beq_self_eq_true,brkC]
  exact ih
theorem c_EqB (l:List Brk) (hl:l.length≤1000000):R K (.call 11 [.rows (l.map brkC),.rows (l.map brkC)] [])=some (.bool true,[]):=by
 have lk:=fun ks B hB=>l_EqB l hl ks l.length 0 0 B hB rfl (by omega)
 rw [call_11]
 simp -implicitDefEqProofs only [go_sem,simprocAttr,Tryz.f11,List.length_map,bne,beq_self_eq_true]
 rw [lk _ _ (by rfl)]
 simp -implicitDefEqProofs only [go_sem,simprocAttr]
theorem Sm.fit {ds:List Dat} {n:Nat} (h:Sm ds n) (hn:n≤1000):FitD ds :=
 ⟨by have:=h.1;omega,fun d hd=>⟨by have:=(h.2 d hd).1;omega,fun r hr=>by have:=(h.2 d hd).2 r hr;omega⟩⟩
theorem allB_len (x:List Tbl) (ds:List Dat) (m c:Nat) (hd:∀ d∈ds,d.rows.length≤m) (hx:∀ t∈x,t.cols.length+1+t.idx.length+t.fgn.length≤c):∀ (q i:Nat),(allB x ds i q).length≤q*(m*c)
 | 0,i=>Nat.zero_le _
 | q+1,i=>by
  have h1:=allB_len x ds m c hd hx q (i+1)
  have h2:(tblAtB x ds i).length≤m*c:=by
   unfold tblAtB
   split
   ·rename_i t d ht hd'
    exact Nat.le_trans (tblB_len x ds t d.rows m (hd d (List.mem_of_getElem? hd'))) (Nat.mul_le_mul_left _ (hx t (List.mem_of_getElem? ht)))
   ·exact Nat.zero_le _
  simp only [allB,List.length_append,Nat.succ_mul]
  omega
section
variable {L:List Int}
theorem l_law (x:List Tbl) (n:Nat) (hn:n≤3):∀ (q j:Nat) (ds:List Dat) (a B:Int),n=j+q→Gd L a B→(100*q:Int)≤B→Sm ds (10+j) →
  ∃ (ds':List Dat) (a':Int),Sm ds' 13∧∀ (ks:List It) (Bo:Code) (jj:Int),Loop Tryz.f3 0 Bo→jj=(j:Int) →
  RL K (.run 3 0 (.code Bo::.lp Bo (some ([3,4,5,19,20],[])) 3::.blk 0 3::ks) [(3,.ptr 0 0),(4,.ptr 1 0),(5,.ptr 2 0),(19,I (n:Int)),(20,I jj)] [.cells [LR L,I a],.cells [.rows (x.map tblC)],.cells [.rows (ds.map datC)]]) =
  R K (.run 3 0 ks [(4,.ptr 1 0),(5,.ptr 2 0)] [.cells [LR L,I a'],.cells [.rows (x.map tblC)],.cells [.rows (ds'.map datC)]])
 | 0,j,ds,a,B,hq,hG,hB',hs=>by
  have d:¬(j:Int) < (n:Int):=by omega
  refine ⟨ds,a,hs.up (by omega),fun ks Bo jj hB hj=>?_⟩
  subst hj
  unfold Loop at hB
  simp -implicitDefEqProofs only [go_sem,simprocAttr,Tryz.f3,loopOf] at hB
  subst hB
  rw [RL_eq]
  simp -implicitDefEqProofs only [go_sem,simprocAttr,d]
 | q+1,j,ds,a,B,hq,hG,hB',hs=>by
  have d:(j:Int) < (n:Int):=by omega
  have h7:=next_id (i:=j) (n:=n) (by omega) (by omega)
  by_cases h0:ds.length=0
  ·have d0:¬(0:Int) < (ds.length:Int):=by omega
   obtain ⟨ds',a',q3,ih⟩:=l_law x n hn q (j+1) ds a B (by omega) hG (by omega) (hs.up (by omega))
   refine ⟨ds',a',q3,fun ks Bo jj hB hj=>?_⟩
   subst hj
   have ih:=ih ks Bo _ hB rfl
   unfold Loop at hB
   simp -implicitDefEqProofs only [go_sem,simprocAttr,Tryz.f3,loopOf] at hB
   subst hB
   rw [RL_eq]
   simp -implicitDefEqProofs only [go_sem,simprocAttr,d,h7,d0,List.length_map]
   exact ih
  ·have d0:(0:Int) < (ds.length:Int):=by omega
   obtain ⟨dt,a1,x1,p1,p2,p3⟩:=g_SpoiledD ds (10+j) (by omega) (by omega) hs hG (by omega)
   obtain ⟨ds',a',q3,ih⟩:=l_law x n hn q (j+1) dt a1 (B - 100) (by omega) (hG.step _ _ (by omega) (by omega)) (by omega) p3
   refine ⟨ds',a',q3,fun ks Bo jj hB hj=>?_⟩
   subst hj
   have ih:=ih ks Bo _ hB rfl
   simp only [datS] at x1
   unfold Loop at hB
   simp -implicitDefEqProofs only [go_sem,simprocAttr,Tryz.f3,loopOf] at hB
   subst hB
   rw [RL_eq]
   simp -implicitDefEqProofs only [go_sem,simprocAttr,d,h7,d0,x1,List.length_map]
   exact ih
end
theorem r_stores:R K (.call 10 [] [])=some (.bool true,[]):=R_prim rfl
theorem law_storeBreaks (L:List Int) (hL:L.length≤9223372036854775807):R K (.call 3 [LR L] [])=some (.bool true,[]):=by
 have hG:Gd L 0 200000:=⟨by omega,by omega,hL⟩
 obtain ⟨x,a1,x1,p1,p2,hx⟩:=g_Schema hG (by omega)
 have G1:=hG.step a1 150000 (by omega) (by omega)
 obtain ⟨ds,a2,x2,p3,p4,hLd,hfew⟩:=g_Data G1 (by omega) x hx
 have G2:=G1.step a2 100000 (by omega) (by omega)
 have x3:=g_Range G2 (by omega) 1 3 (by omega) (by omega) (by omega)
 have b3:=range_bounds L a2 1 3 (by omega) (by omega)
 obtain ⟨n,hn⟩:∃ k:Nat,rngS L a2 1 3=(k:Int):=⟨(rngS L a2 1 3).toNat,by omega⟩
 rw [hn] at x3 b3
 have hl3:=hx.sz.l3
 have hdl:=hLd.ok.len
 have hs:Sm ds 10:=⟨by omega,fun d hd=>⟨hfew d hd,fun r hr=>by
  obtain ⟨i,hi,he⟩:=List.mem_iff_getElem.1 hd
  obtain ⟨t,ht⟩:=some_at (l:=x) (i:=i) (by omega)
  have:=hLd.ok.fit i t d ht (by rw [List.getElem?_eq_getElem hi,he]) r hr
  have:=(hx.sz.tbl t (List.mem_of_getElem? ht)).cl
  omega⟩⟩
 obtain ⟨dt,a',hdt,l0⟩:=l_law (L:=L) x n (by omega) n 0 ds (a2+1) 99999 (by omega) (G2.step _ _ (by omega) (by omega)) (by omega) hs
 have l0:=fun ks B hB=>l0 ks B 0 hB rfl
 have hfit:=hx.sz.fit (by omega:3≤1000)
 have hal:(allB x dt 0 x.length).length≤3*(13*20):=by
  refine Nat.le_trans (allB_len x dt 13 20 (fun d hd=>(hdt.2 d hd).1) (fun t ht=>?_) x.length 0) (Nat.mul_le_mul_right _ hl3)
  have s:=hx.sz.tbl t ht
  have:=s.cl
  have:=s.il
  have:=s.fl
  omega
 have xp:=c_Breaks x dt hfit (hdt.fit (by omega)) (fun _=>hx.idxIn) (by omega)
 have xr:=r_BreaksOf x dt hfit (hdt.fit (by omega)) (fun _=>hx.idxIn) (by omega)
 have hbl:(brkL x dt).length≤1000000:=by
  unfold brkL
  split
  ·omega
  ·simp
 have xe:=c_EqB (brkL x dt) hbl
 generalize brkL x dt=bl at *
 generalize brkE x dt=be at *
 simp only [schC,datS] at x1 x2 xp xr
 rw [call_3]
 simp -implicitDefEqProofs only [go_sem,simprocAttr,Tryz.f3,x1,x2,x3]
 rw [l0 _ _ (by rfl)]
 simp -implicitDefEqProofs only [go_sem,simprocAttr,xp,xr,xe,r_stores,beq_self_eq_true]
end Go.Ab
