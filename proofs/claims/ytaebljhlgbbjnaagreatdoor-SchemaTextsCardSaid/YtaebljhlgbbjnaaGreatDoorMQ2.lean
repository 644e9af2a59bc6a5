/- What is proved: contracts of the program's and the reference's functions in the evaluator, and plain laws on them. Conditions: as each states. -/
import Derived.Test.YtaebljhlgbbjnaaGreatDoorMQ1
set_option linter.unusedSimpArgs false
set_option linter.unusedSectionVars false
set_option linter.unusedVariables false
set_option maxRecDepth 100000
namespace Go.Ab
open Go Go.Proofs
theorem c_table (x:List Tbl) (hx:x.length≤1000000) (i:Nat) (t:Tbl) (ht:FitT t) (hf:x[i]? = some t):R K (.call 56 [schC x,I (i:Int)] [])=some (I (tableE x i),[]):=by
 have h1:=c_ord1 x hx i t ht hf
 have h2:=c_parts t ht false
 have hg:=tbl_get hf
 unfold tableE
 rw [hf]
 simp only
 generalize ordE t.nm (befN (x.map (·.nm)) i) (i==0)=y at *
 generalize evE (partE t) 0 4=z at *
 simp only [tblC,siH,foH] at h1 h2 hg
 by_cases hy:y=0
 ·subst hy
  have b1:decide ((60:Int) < (t.cols.length:Int))=decide (60 < t.cols.length):=by congr 1;simp only [eq_iff_iff];omega
  have b2:decide ((8:Int) < (t.key.length:Int))=decide (8 < t.key.length):=by congr 1;simp only [eq_iff_iff];omega
  have b3:decide ((20:Int) < (t.fgn.length:Int))=decide (20 < t.fgn.length):=by congr 1;simp only [eq_iff_iff];omega
  have b4:decide ((20:Int) < (t.idx.length:Int))=decide (20 < t.idx.length):=by congr 1;simp only [eq_iff_iff];omega
  unfold bigT
  generalize decide (60 < t.cols.length)=u1 at *
  generalize decide (8 < t.key.length)=u2 at *
  generalize decide (20 < t.fgn.length)=u3 at *
  generalize decide (20 < t.idx.length)=u4 at *
  rw [call_56]
  simp -implicitDefEqProofs only [go_sem,simprocAttr,Tryz.f56,tblC,hg,h1,bne,List.length_map,b1,b2,b3,b4,h2,ne_eq,not_false_eq_true,false_or,or_true,reduceCtorEq]
  repeat' ((first | apply split_cond | apply split_yes | apply split_no)<;>intro hc<;>simp -implicitDefEqProofs only [hc,go_sem,simprocAttr,tblC,hg,h1,bne,List.length_map,b1,b2,b3,b4,h2,ne_eq,not_false_eq_true,false_or,or_true,reduceCtorEq])
  ·simp_all [orE]
  ·simp_all [orE]
  ·simp_all [orE]
  ·simp_all [orE]
  ·simp_all [orE]
 ·have dy:(y==0)=false:=by simpa using hy
  rw [call_56]
  simp -implicitDefEqProofs only [go_sem,simprocAttr,Tryz.f56,tblC,hg,h1,bne,dy]
  all_goals simp [orE,hy]
structure FitX (x:List Tbl):Prop where
 len:x.length≤1000000
 tbl:∀ t∈x,FitT t
abbrev xH (x:List Tbl):Heap:=[.cells [.rows (x.map tblC)]]
theorem k_30 (x:List Tbl) (hx:FitX x) (i:Nat) (hi:i < x.length):R K (.call 55 [I (i:Int),.ptr 0 0] (xH x))=some (I (tableE x i),xH x):=by
 obtain ⟨t,ht⟩:=some_at hi
 have h1:=c_table x hx.len i t (hx.tbl t (List.mem_of_getElem? ht)) ht
 rw [call_55]
 simp -implicitDefEqProofs only [go_sem,simprocAttr,Tryz.f55,h1]
theorem v_30 (x:List Tbl) (hx:FitX x):Tells (xH x) (.fn 55 [.ptr 0 0]) (tableE x) x.length:=fun i hi=>by
 have hk:=k_30 x hx i hi
 simp only [xH] at hk ⊢
 simp -implicitDefEqProofs only [go_sem,simprocAttr,hk]
theorem k_28 (x:List Tbl) (hx:FitX x):R K (.call 53 [.ptr 0 0] (xH x))=some (I (evE (tableE x) 0 x.length),xH x):=by
 have hi:=c_every _ (xH x) (tableE x) x.length hx.len rfl (v_30 x hx)
 simp only [xH] at hi
 rw [call_53]
 simp -implicitDefEqProofs only [go_sem,simprocAttr,Tryz.f53,hi,List.length_map]
def NamesIn (t:Tbl) (l:List (List UInt8)):Prop:=∀ n∈l,¬ixN n (t.cols.map (·.nm)) 0 < 0
def colN (t:Tbl) (n:List UInt8):Option Col:=t.cols[(ixN n (t.cols.map (·.nm)) 0).toNat]?
def kdE (t u:Tbl) (l k:List (List UInt8)) (i:Nat):Int:=match l[i]?,k[i]? with
 | some a,some b=>(match colN t a,colN u b with
  | some c,some d=>if c.kd=d.kd then 0 else 8
  | _,_=>0)
 | _,_=>0
abbrev frH (t:Tbl) (f:Fgn) (u:Tbl):Heap:=[.cells (tblC t),.cells (fgnC f),.cells (tblC u)]
theorem k_82 (t u:Tbl) (ht:FitT t) (hu:FitT u) (f:Fgn) (i:Nat) (hi:i < f.cols.length) (hk:i < u.key.length) (h1:NamesIn t f.cols) (h2:NamesIn u u.key) :
  R K (.call 114 [I (i:Int),.ptr 0 0,.ptr 1 0,.ptr 2 0] (frH t f u))=some (I (kdE t u f.cols u.key i),frH t f u):=by
 obtain ⟨a,ha⟩:=some_at hi
 obtain ⟨b,hb⟩:=some_at hk
 obtain ⟨p,c,p1,p2⟩:=ixN_col (h1 a (List.mem_of_getElem? ha))
 obtain ⟨q,d,q1,q2⟩:=ixN_col (h2 b (List.mem_of_getElem? hb))
 have g1:=str_get ha
 have g2:=str_get hb
 have g3:=c_columnAt t a ht.cols
 have g4:=c_columnAt u b hu.cols
 rw [p1] at g3
 rw [q1] at g4
 have g5:=col_get p2
 have g6:=col_get q2
 have e1:colN t a=some c:=by unfold colN;rw [p1,Int.toNat_natCast,p2]
 have e2:colN u b=some d:=by unfold colN;rw [q1,Int.toNat_natCast,q2]
 unfold kdE
 rw [ha,hb]
 simp only
 rw [e1,e2]
 simp only
 simp only [tblA,tblC,colC] at g3 g4 g5 g6
 by_cases hd:c.kd=d.kd
 ·have dk:(c.kd==d.kd)=true:=by simpa using hd
  rw [call_114]
  simp -implicitDefEqProofs only [go_sem,simprocAttr,Tryz.f114,tblC,fgnC,colC,g1,g2,g3,g4,g5,g6,bne,dk]
  simp [hd,tblC,fgnC]
 ·have dk:(c.kd==d.kd)=false:=by simpa using hd
  rw [call_114]
  simp -implicitDefEqProofs only [go_sem,simprocAttr,Tryz.f114,tblC,fgnC,colC,g1,g2,g3,g4,g5,g6,bne,dk]
  simp [hd,tblC,fgnC]
theorem v_82 (t u:Tbl) (ht:FitT t) (hu:FitT u) (f:Fgn) (hl:f.cols.length=u.key.length) (h1:NamesIn t f.cols) (h2:NamesIn u u.key) :
  Tells (frH t f u) (.fn 114 [.ptr 0 0,.ptr 1 0,.ptr 2 0]) (kdE t u f.cols u.key) f.cols.length:=fun i hi=>by
 have hk:=k_82 t u ht hu f i hi (by omega) h1 h2
 simp only [frH,tblC,fgnC] at hk ⊢
 simp -implicitDefEqProofs only [go_sem,simprocAttr,hk]
theorem ixN_tbl {x:List Tbl} {n:List UInt8} (h:¬ixN n (x.map (·.nm)) 0 < 0):∃ (a:Nat) (c:Tbl),ixN n (x.map (·.nm)) 0=(a:Int)∧x[a]? = some c:=by
 have h1:=ixN_lt n (x.map (·.nm)) 0
 rw [List.length_map] at h1
 obtain ⟨a,ha⟩:=Int.eq_ofNat_of_zero_le (Int.not_lt.1 h)
 exact ⟨a,x[a]'(by omega),ha,List.getElem?_eq_getElem _⟩
def forE (x:List Tbl) (t:Tbl) (f:Fgn):Int:=if ixN f.tb (x.map (·.nm)) 0 < 0 then 5 else match x[(ixN f.tb (x.map (·.nm)) 0).toNat]? with
 | some u=>if f.cols.length=u.key.length then evE (kdE t u f.cols u.key) 0 f.cols.length else 3
 | none=>0
theorem c_foreign (x:List Tbl) (hx:FitX x) (t:Tbl) (ht:FitT t) (f:Fgn) (hf:f.cols.length≤1000000) (hN:NamesIn t f.cols) (hK:∀ u∈x,NamesIn u u.key) :
  R K (.call 60 [schC x,tblA t,.agg (fgnC f)] [])=some (I (forE x t f),[]):=by
 have h1:=c_tableAt x f.tb hx.len
 unfold forE
 by_cases h0:ixN f.tb (x.map (·.nm)) 0 < 0
 ·rw [if_pos h0]
  rw [call_60]
  simp -implicitDefEqProofs only [go_sem,simprocAttr,Tryz.f60,fgnC,tblC,h1,h0]
 ·obtain ⟨a,u,h5,h6⟩:=ixN_tbl h0
  have h7:=tbl_get h6
  have hm:=List.mem_of_getElem? h6
  have h9:((a:Int) < 0)=False:=eq_false (by omega)
  rw [if_neg h0,h5,Int.toNat_natCast,h6]
  rw [h5] at h1
  simp only
  simp only [tblC] at h7
  by_cases hl:f.cols.length=u.key.length
  ·have hi:=c_every _ (frH t f u) (kdE t u f.cols u.key) f.cols.length hf rfl (v_82 t u ht (hx.tbl u hm) f hl hN (hK u hm))
   have dl:((f.cols.length:Int)==(u.key.length:Int))=true:=by rw [hl,beq_iff_eq]
   simp only [frH,tblC,fgnC] at hi
   rw [if_pos hl]
   rw [call_60]
   simp -implicitDefEqProofs only [go_sem,simprocAttr,Tryz.f60,fgnC,tblC,h1,h9,h7,List.length_map,bne,dl,hi]
  ·have dl:((f.cols.length:Int)==(u.key.length:Int))=false:=by rw [←Bool.not_eq_true,beq_iff_eq];omega
   rw [if_neg hl]
   rw [call_60]
   simp -implicitDefEqProofs only [go_sem,simprocAttr,Tryz.f60,fgnC,tblC,h1,h9,h7,List.length_map,bne,dl]
theorem evE_zero {e:Nat→Int}:∀ (m j:Nat),evE e j m=0→∀ i,j≤i→i < j+m→e i=0
 | 0,j,_,i,h1,h2=>by omega
 | m+1,j,h,i,h1,h2=>by
  simp only [evE] at h
  by_cases h0:e j=0
  ·rw [if_pos h0] at h
   by_cases hi:i=j
   ·rw [hi];exact h0
   ·exact evE_zero m (j+1) h i (by omega) (by omega)
  ·rw [if_neg h0] at h
   exact absurd h h0
theorem orE_zero {a b:Int} (h:orE a b=0):a=0∧b=0:=by
 unfold orE at h
 split at h
 ·rename_i h0;exact ⟨h0,h⟩
 ·rename_i h0;exact absurd h h0
theorem listE_in {t:Tbl} {l:List (List UInt8)} {m:Col→Int} (h:listE t l m=0):NamesIn t l:=by
 intro n hn hlt
 obtain ⟨i,hi,he⟩:=List.mem_iff_getElem.1 hn
 have h1:=evE_zero l.length 0 h i (by omega) (by omega)
 unfold namesE at h1
 rw [List.getElem?_eq_getElem hi,he] at h1
 simp only at h1
 rw [if_pos hlt] at h1
 simp at h1
structure TabOk (t:Tbl):Prop where
 key:NamesIn t t.key
 fg:∀ f∈t.fgn,NamesIn t f.cols
theorem tableE_ok {x:List Tbl} {i:Nat} {t:Tbl} (ht:x[i]? = some t) (h:tableE x i=0):ordE t.nm (befN (x.map (·.nm)) i) (i==0)=0∧TabOk t:=by
 unfold tableE at h
 rw [ht] at h
 simp only at h
 obtain ⟨h1,h2⟩:=orE_zero h
 refine ⟨h1,?_⟩
 split at h2
 ·simp at h2
 have h3:=evE_zero 4 0 h2
 have k1:=h3 1 (by omega) (by omega)
 have k2:=h3 2 (by omega) (by omega)
 simp only [partE] at k1 k2
 constructor
 ·unfold keyE at k1
  split at k1
  ·simp at k1
  ·exact listE_in k1
 ·intro f hf
  obtain ⟨j,hj,rfl⟩:=List.mem_iff_getElem.1 hf
  have:=evE_zero _ 0 k2 j (by omega) (by omega)
  unfold fgnE at this
  rw [List.getElem?_eq_getElem hj] at this
  exact listE_in (orE_zero this).2
def nmA (l:List (List UInt8)) (i:Nat):List UInt8:=(l[i]?).getD []
theorem less_irr:∀ a:List UInt8,Op.bytesLess a a=false
 | []=>rfl
 | c::r=>by simp [Op.bytesLess,less_irr r]
theorem ordE_lt {s b:List UInt8} {first:Bool} (h:ordE s b first=0):first=true∨Op.bytesLess b s=true:=by
 unfold ordE at h
 split at h
 ·simp at h
 split at h
 ·simp at h
 rename_i h2
 cases first with
 | true=>exact .inl rfl
 | false =>
  refine .inr ?_
  have h3:¬(Op.bytesLess s b=true∨s=b):=fun e=>h2 ⟨rfl,e⟩
  have h4:s≠b:=fun e=>h3 (.inr e)
  have h5:Op.bytesLess s b=false:=by
   cases e:Op.bytesLess s b with
   | false=>rfl
   | true=>exact absurd (.inl e) h3
  rw [less_total b s (Ne.symm h4),h5]
  rfl
theorem names_rise {l:List (List UInt8)} (h:∀ i,i < l.length→ordE (nmA l i) (befN l i) (i==0)=0) (i:Nat):∀ j,i < j→j < l.length→Op.bytesLess (nmA l i) (nmA l j)=true
 | 0,h1,_=>by omega
 | j+1,h1,h2=>by
  have h3:Op.bytesLess (nmA l j) (nmA l (j+1))=true:=(ordE_lt (h (j+1) h2)).resolve_left (by simp)
  by_cases e:i=j
  ·rw [e];exact h3
  ·exact less_trans _ _ _ (names_rise h i j (by omega) (by omega)) h3
theorem names_inj {l:List (List UInt8)} (h:∀ i,i < l.length→ordE (nmA l i) (befN l i) (i==0)=0) {i j:Nat} (hi:i < l.length) (hj:j < l.length) (e:nmA l i=nmA l j):i=j:=by
 rcases Nat.lt_trichotomy i j with h1 | h1 | h1
 ·have:=names_rise h i j h1 hj
  rw [e,less_irr] at this;simp at this
 ·exact h1
 ·have:=names_rise h j i h1 hi
  rw [e,less_irr] at this;simp at this
def fkE (x:List Tbl) (t:Tbl) (k:Nat):Int:=match t.fgn[k]? with
 | some f=>forE x t f
 | none=>0
def forsE (x:List Tbl) (i:Nat):Int:=match x[i]? with
 | some t=>evE (fkE x t) 0 t.fgn.length
 | none=>0
def chkP (x:List Tbl):Nat→Int
 | 0=>evE (tableE x) 0 x.length
 | 1=>evE (forsE x) 0 x.length
 | _=>0
def chkE (x:List Tbl):Int:=if 60 < x.length then 2 else evE (chkP x) 0 2
structure RightX (x:List Tbl):Prop where
 inj:∀ i j,i < x.length→j < x.length→nmA (x.map (·.nm)) i=nmA (x.map (·.nm)) j→i=j
 ok:∀ t∈x,TabOk t
 leads:∀ t∈x,∀ f∈t.fgn,¬ixN f.tb (x.map (·.nm)) 0 < 0
theorem tables_ok {x:List Tbl} (h:evE (tableE x) 0 x.length=0):(∀ i,i < x.length→ordE (nmA (x.map (·.nm)) i) (befN (x.map (·.nm)) i) (i==0)=0)∧∀ t∈x,TabOk t:=by
 have h1:=evE_zero _ 0 h
 constructor
 ·intro i hi
  have:=(tableE_ok (List.getElem?_eq_getElem hi) (h1 i (by omega) (by omega))).1
  have e:nmA (x.map (·.nm)) i=(x[i]).nm:=by simp [nmA,hi]
  rw [e]
  exact this
 ·intro t ht
  obtain ⟨i,hi,rfl⟩:=List.mem_iff_getElem.1 ht
  exact (tableE_ok (List.getElem?_eq_getElem hi) (h1 i (by omega) (by omega))).2
theorem chk_right {x:List Tbl} (h:chkE x=0):RightX x:=by
 unfold chkE at h
 split at h
 ·simp at h
 have h1:=evE_zero 2 0 h
 have k0:=h1 0 (by omega) (by omega)
 have k1:=h1 1 (by omega) (by omega)
 simp only [chkP] at k0 k1
 obtain ⟨a1,a2⟩:=tables_ok k0
 refine ⟨fun i j hi hj e=>names_inj (by simpa using a1) (by simpa using hi) (by simpa using hj) e,a2,?_⟩
 intro t ht f hf hlt
 obtain ⟨i,hi,rfl⟩:=List.mem_iff_getElem.1 ht
 obtain ⟨k,hk,rfl⟩:=List.mem_iff_getElem.1 hf
 have b1:=evE_zero _ 0 k1 i (by omega) (by omega)
 unfold forsE at b1
 rw [List.getElem?_eq_getElem hi] at b1
 have b2:=evE_zero _ 0 b1 k (by omega) (by omega)
 unfold fkE at b2
 rw [List.getElem?_eq_getElem hk] at b2
 simp only [forE] at b2
 rw [if_pos hlt] at b2
 simp at b2
abbrev xtH (x:List Tbl) (t:Tbl):Heap:=[.cells [.rows (x.map tblC)],.cells (tblC t)]
theorem k_34 (x:List Tbl) (hx:FitX x) (t:Tbl) (ht:FitT t) (hO:∀ f∈t.fgn,NamesIn t f.cols) (hK:∀ u∈x,NamesIn u u.key) (i:Nat) (hi:i < t.fgn.length) :
  R K (.call 59 [I (i:Int),.ptr 0 0,.ptr 1 0] (xtH x t))=some (I (fkE x t i),xtH x t):=by
 obtain ⟨f,hf⟩:=some_at hi
 have hg:=fgn_get hf
 have hm:=List.mem_of_getElem? hf
 have h1:=c_foreign x hx t ht f (ht.fg f hm).2 (hO f hm) hK
 unfold fkE
 rw [hf]
 simp only
 simp only [tblA,tblC,fgnC] at hg h1
 rw [call_59]
 simp -implicitDefEqProofs only [go_sem,simprocAttr,Tryz.f59,tblC,fgnC,hg,h1]
 rfl
theorem v_34 (x:List Tbl) (hx:FitX x) (t:Tbl) (ht:FitT t) (hO:∀ f∈t.fgn,NamesIn t f.cols) (hK:∀ u∈x,NamesIn u u.key):Tells (xtH x t) (.fn 59 [.ptr 0 0,.ptr 1 0]) (fkE x t) t.fgn.length:=fun i hi=>by
 have hk:=k_34 x hx t ht hO hK i hi
 simp only [xtH,tblC] at hk ⊢
 simp -implicitDefEqProofs only [go_sem,simprocAttr,hk]
theorem k_33 (x:List Tbl) (hx:FitX x) (hO:∀ t∈x,TabOk t) (i:Nat) (hi:i < x.length) :
  R K (.call 58 [I (i:Int),.ptr 0 0] (xH x))=some (I (forsE x i),xH x):=by
 obtain ⟨t,ht⟩:=some_at hi
 have hm:=List.mem_of_getElem? ht
 have hg:=tbl_get ht
 have h1:=c_every _ (xtH x t) (fkE x t) t.fgn.length (hx.tbl t hm).fgn rfl (v_34 x hx t (hx.tbl t hm) (hO t hm).fg fun u hu=>(hO u hu).key)
 unfold forsE
 rw [ht]
 simp only
 simp only [xtH,tblC] at h1 hg
 rw [call_58]
 simp -implicitDefEqProofs only [go_sem,simprocAttr,Tryz.f58,tblC,hg,h1,List.length_map]
theorem v_33 (x:List Tbl) (hx:FitX x) (hO:∀ t∈x,TabOk t):Tells (xH x) (.fn 58 [.ptr 0 0]) (forsE x) x.length:=fun i hi=>by
 have hk:=k_33 x hx hO i hi
 simp only [xH] at hk ⊢
 simp -implicitDefEqProofs only [go_sem,simprocAttr,hk]
theorem k_32 (x:List Tbl) (hx:FitX x) (hO:∀ t∈x,TabOk t):R K (.call 57 [.ptr 0 0] (xH x))=some (I (evE (forsE x) 0 x.length),xH x):=by
 have hi:=c_every _ (xH x) (forsE x) x.length hx.len rfl (v_33 x hx hO)
 simp only [xH] at hi
 rw [call_57]
 simp -implicitDefEqProofs only [go_sem,simprocAttr,Tryz.f57,hi,List.length_map]
abbrev csH (x:List Tbl) (w:Bool):Heap:=[.rows 1 [[.fn 53 [.ptr 1 0]],[.fn 57 [.ptr 1 0]]] w,.cells [.rows (x.map tblC)]]
theorem c_two (x:List Tbl) (hx:FitX x) (w:Bool):R K (.call 52 [.own 0 2] (csH x w))=some (I (evE (chkP x) 0 2),csH x w):=by
 refine c_first (csH x w) 0 w [.fn 53 [.ptr 1 0],.fn 57 [.ptr 1 0]] 2 (chkP x) rfl (by omega) rfl rfl ?_
 intro j f hz hf
 have h0:=k_28 x hx
 simp only [xH] at h0
 match j,hf with
 | 0,hf =>
  simp only [List.getElem?_cons_zero,Option.some.injEq] at hf
  subst hf
  simp only [csH,chkP]
  simp -implicitDefEqProofs only [go_sem,simprocAttr,h0]
 | 1,hf =>
  simp only [List.getElem?_cons_succ,List.getElem?_cons_zero,Option.some.injEq] at hf
  subst hf
  have hz0:=hz 0 (by omega)
  simp only [chkP] at hz0
  have h1:=k_32 x hx (tables_ok hz0).2
  simp only [xH] at h1
  simp only [csH,chkP]
  simp -implicitDefEqProofs only [go_sem,simprocAttr,h1]
 | j+2,hf=>simp at hf
theorem c_CheckSchema (x:List Tbl) (hx:FitX x):R K (.call 16 [schC x] [])=some (I (chkE x),[]):=by
 have h2:=c_two x hx false
 have h0:=hx.len
 unfold chkE
 generalize evE (chkP x) 0 2=z at *
 simp only [csH] at h2
 by_cases b:60 < x.length
 ·have d:((60:Int) < (x.length:Int))=True:=eq_true (by omega)
  rw [if_pos b]
  rw [call_16]
  simp -implicitDefEqProofs only [go_sem,simprocAttr,Tryz.f16,List.length_map,d]
 ·have d:((60:Int) < (x.length:Int))=False:=eq_false (by omega)
  rw [if_neg b]
  rw [call_16]
  simp -implicitDefEqProofs only [go_sem,simprocAttr,Tryz.f16,List.length_map,d,h2,ne_eq,not_false_eq_true,false_or,or_true,reduceCtorEq]
abbrev fineM:Col→Int:=fun _=>0
theorem namesE_fine {t:Tbl} {l:List (List UInt8)} {j:Nat} {n:List UInt8} (hn:l[j]? = some n):namesE t l fineM j=if ixN n (t.cols.map (·.nm)) 0 < 0 then 5 else if (l.take j).contains n=true then 6 else 0:=by
 unfold namesE
 rw [hn]
 simp only
 split
 ·rfl
 ·split
  ·rfl
  ·split<;>rfl
theorem evE_more {e:Nat→Int} {j q:Nat} (h:e j=0):evE e j (q+1)=evE e (j+1) q:=by simp only [evE];rw [if_pos h]
theorem evE_here {e:Nat→Int} {j q:Nat} (h:e j≠0):evE e j (q+1)=e j:=by simp only [evE];rw [if_neg h]
theorem l_columnsFault (t:Tbl) (ht:t.cols.length≤1000000) (l:List (List UInt8)) (hl:l.length≤1000000) (ks:List It):∀ (q j:Nat) (i:Int) (Bo:Code),Loop Tryz.f121 0 Bo→i=(j:Int)→l.length=j+q →
  RL K (.run 121 0 (.code Bo::.lp Bo (some ([1,2,7,8,9],[])) 1::.blk 0 1::ks) [(1,.rows (SLs l)),(2,.ptr 0 0),(7,.rows (SLs l)),(8,I (l.length:Int)),(9,I i)] (tbH t)) =
  if evE (namesE t l fineM) j q=0 then R K (.run 121 0 ks [] (tbH t)) else some (I (evE (namesE t l fineM) j q),[])
 | 0,j,i,Bo,hB,hi,hq=>by
  subst hi
  have d:¬(j:Int) < (l.length:Int):=by omega
  unfold Loop at hB
  simp -implicitDefEqProofs only [go_sem,simprocAttr,Tryz.f121,loopOf] at hB
  subst hB
  rw [RL_eq]
  simp -implicitDefEqProofs only [go_sem,simprocAttr,d,evE]
 | q+1,j,i,Bo,hB,hi,hq=>by
  subst hi
  have hB':=hB
  have d:(j:Int) < (l.length:Int):=by omega
  have h7:wrapI .i64 ((j:Int)+1)=((j+1:Nat):Int):=next_id (n:=l.length) (by omega) (by omega)
  obtain ⟨n,hn⟩:=some_at (l:=l) (i:=j) (by omega)
  have hg:=str_get hn
  have h2:=r_columnAt t n ht
  have h3:=c_contains n (l.take j) (by simp;omega)
  have g1:((j:Int)≤(l.length:Int))=True:=eq_true (by omega)
  have g2:((0:Int)≤(j:Int))=True:=eq_true (by omega)
  have hN:=namesE_fine (t:=t) hn
  have ih:=l_columnsFault t ht l hl ks q (j+1) _ Bo hB' rfl (by omega)
  simp only [tblA,tblC] at h2
  by_cases h4:ixN n (t.cols.map (·.nm)) 0 < 0
  ·rw [if_pos h4] at hN
   rw [evE_here (by rw [hN];decide),hN,if_neg (by decide)]
   unfold Loop at hB
   simp -implicitDefEqProofs only [go_sem,simprocAttr,Tryz.f121,loopOf] at hB
   subst hB
   rw [RL_eq]
   simp -implicitDefEqProofs only [go_sem,simprocAttr,tblC,d,h7,hg,h2,h4]
  ·rw [if_neg h4] at hN
   have h9:(ixN n (t.cols.map (·.nm)) 0 < 0)=False:=eq_false h4
   by_cases h5:(l.take j).contains n=true
   ·rw [if_pos h5] at hN
    rw [h5] at h3
    rw [evE_here (by rw [hN];decide),hN,if_neg (by decide)]
    unfold Loop at hB
    simp -implicitDefEqProofs only [go_sem,simprocAttr,Tryz.f121,loopOf] at hB
    subst hB
    rw [RL_eq]
    simp -implicitDefEqProofs only [go_sem,simprocAttr,tblC,d,h7,hg,h2,h9,h3,take_SLs,allLen_SLs,g1,g2,Int.toNat_natCast,Nat.sub_zero,List.length_map]
   ·rw [if_neg h5] at hN
    rw [Bool.eq_false_iff.2 h5] at h3
    rw [evE_more hN]
    unfold Loop at hB
    simp -implicitDefEqProofs only [go_sem,simprocAttr,Tryz.f121,loopOf] at hB
    subst hB
    rw [RL_eq]
    simp -implicitDefEqProofs only [go_sem,simprocAttr,tblC,d,h7,hg,h2,h9,h3,take_SLs,allLen_SLs,g1,g2,Int.toNat_natCast,Nat.sub_zero,List.length_map]
    simp only [tbH,tblC] at ih
    rw [ih]
    rfl
theorem r_columnsFault (t:Tbl) (ht:t.cols.length≤1000000) (l:List (List UInt8)) (hl:l.length≤1000000):R K (.call 121 [tblA t,.rows (SLs l)] [])=some (I (listE t l fineM),[]):=by
 have lk:=fun ks B hB=>l_columnsFault t ht l hl ks l.length 0 0 B hB rfl (by omega)
 simp only [tbH,tblC] at lk
 unfold listE
 rw [call_121]
 simp -implicitDefEqProofs only [go_sem,simprocAttr,Tryz.f121,tblC,List.length_map]
 rw [lk _ _ ?_]
 ·split
  ·rename_i h0
   rw [h0]
   simp -implicitDefEqProofs only [go_sem,simprocAttr]
  ·rfl
 ·rfl
theorem take_cols (l:List Col) (i:Nat):List.take i (l.map colC)=(l.take i).map colC:=by simp [List.map_take]
theorem allLen_cols:∀ l:List Col,allLen 6 (l.map colC)=true
 | []=>rfl
 | c::l=>by simpa [allLen,colC] using allLen_cols l
theorem ix_ahead {l:List Col} {j:Nat} {c:Col} (h:l[j]? = some c):decide (0≤ixN c.nm ((l.take j).map (·.nm)) 0)=decide (ixN c.nm (l.map (·.nm)) 0 < (j:Int)):=by
 have hm:c.nm∈l.map (·.nm):=List.mem_map.2 ⟨c,List.mem_of_getElem? h,rfl⟩
 have h1:=ixN_take c.nm (l.map (·.nm)) 0 j hm
 rw [Nat.zero_add,←List.map_take] at h1
 have h2:=ixN_mem c.nm ((l.take j).map (·.nm)) 0
 congr 1
 rw [eq_iff_iff,h1]
 rcases ixN_ge c.nm ((l.take j).map (·.nm)) 0 with h3 | h3
 ·rw [h3]
  constructor
  ·intro h;omega
  ·intro h;exact absurd h (h2.1 h3)
 ·constructor
  ·intro _
   refine Classical.byContradiction fun h4=>?_
   have:=h2.2 h4
   omega
  ·intro _;omega
theorem l_tcols (t:Tbl) (ht:FitT t) (ks:List It):∀ (q j:Nat) (i:Int) (Bo:Code),Loop Tryz.f65 0 Bo→i=(j:Int)→t.cols.length=j+q →
  RL K (.run 65 0 (.code Bo::.lp Bo (some ([1,41,42,43],[])) 1::.blk 0 1::ks) [(1,.ptr 0 0),(41,.rows (t.cols.map colC)),(42,I (t.cols.length:Int)),(43,I i)] (tbH t)) =
  if evE (colE t) j q=0 then R K (.run 65 0 ks [(1,.ptr 0 0)] (tbH t)) else some (I (evE (colE t) j q),[])
 | 0,j,i,Bo,hB,hi,hq=>by
  subst hi
  have d:¬(j:Int) < (t.cols.length:Int):=by omega
  unfold Loop at hB
  simp -implicitDefEqProofs only [go_sem,simprocAttr,Tryz.f65,loopOf] at hB
  subst hB
  rw [RL_eq]
  simp -implicitDefEqProofs only [go_sem,simprocAttr,d,evE]
 | q+1,j,i,Bo,hB,hi,hq=>by
  subst hi
  have hB':=hB
  have hlen:=ht.cols
  have d:(j:Int) < (t.cols.length:Int):=by omega
  have h7:wrapI .i64 ((j:Int)+1)=((j+1:Nat):Int):=next_id (n:=t.cols.length) (by omega) (by omega)
  obtain ⟨c,hc⟩:=some_at (l:=t.cols) (i:=j) (by omega)
  have hg:=col_get hc
  have hm:c∈t.cols:=List.mem_of_getElem? hc
  have g1:((j:Int)≤(t.cols.length:Int))=True:=eq_true (by omega)
  have g2:((0:Int)≤(j:Int))=True:=eq_true (by omega)
  have h1:=r_named c.nm (ht.col c hm)
  have h2:=r_columnAt ⟨[],t.cols.take j,[],[],[]⟩ c.nm (by simp;omega)
  have h3:=ix_ahead hc
  have h4:=r_ValueFault c.kd c.df.k c.df.n c.df.s
  have ih:=l_tcols t ht ks q (j+1) _ Bo hB' rfl (by omega)
  have hN:colE t j=if tallB c.nm=false then 5 else if ixN c.nm (t.cols.map (·.nm)) 0 < (j:Int) then 6 else chkS c.kd c.df:=by
   unfold colE;rw [hc]
  simp only [tblA,tblC,colC,List.map_nil] at h2 hg
  generalize chkS c.kd ⟨c.df.k,c.df.n,c.df.s⟩=y at *
  by_cases a:tallB c.nm=false
  ·rw [if_pos a] at hN
   rw [a] at h1
   rw [evE_here (by rw [hN];decide),hN,if_neg (by decide)]
   unfold Loop at hB
   simp -implicitDefEqProofs only [go_sem,simprocAttr,Tryz.f65,loopOf] at hB
   subst hB
   rw [RL_eq]
   simp -implicitDefEqProofs only [go_sem,simprocAttr,tblC,colC,d,h7,hg,h1]
  ·rw [if_neg a] at hN
   rw [Bool.not_eq_false] at a
   rw [a] at h1
   by_cases b:ixN c.nm (t.cols.map (·.nm)) 0 < (j:Int)
   ·rw [if_pos b] at hN
    rw [decide_eq_true b] at h3
    rw [evE_here (by rw [hN];decide),hN,if_neg (by decide)]
    unfold Loop at hB
    simp -implicitDefEqProofs only [go_sem,simprocAttr,Tryz.f65,loopOf] at hB
    subst hB
    rw [RL_eq]
    simp -implicitDefEqProofs only [go_sem,simprocAttr,tblC,colC,d,h7,hg,h1,h2,h3,take_cols,allLen_cols,g1,g2,Int.toNat_natCast,Nat.sub_zero,List.length_map]
   ·rw [if_neg b] at hN
    rw [decide_eq_false b] at h3
    by_cases e:y=0
    ·rw [e] at hN h4
     rw [evE_more hN]
     unfold Loop at hB
     simp -implicitDefEqProofs only [go_sem,simprocAttr,Tryz.f65,loopOf] at hB
     subst hB
     rw [RL_eq]
     simp -implicitDefEqProofs only [go_sem,simprocAttr,tblC,colC,d,h7,hg,h1,h2,h3,h4,take_cols,allLen_cols,g1,g2,Int.toNat_natCast,Nat.sub_zero,List.length_map,bne]
     simp only [tbH,tblC] at ih
     rw [ih]
     rfl
    ·have de:(y==0)=false:=by simpa using e
     rw [evE_here (by rw [hN];exact e),hN,if_neg e]
     unfold Loop at hB
     simp -implicitDefEqProofs only [go_sem,simprocAttr,Tryz.f65,loopOf] at hB
     subst hB
     rw [RL_eq]
     simp -implicitDefEqProofs only [go_sem,simprocAttr,tblC,colC,d,h7,hg,h1,h2,h3,h4,take_cols,allLen_cols,g1,g2,Int.toNat_natCast,Nat.sub_zero,List.length_map,bne,de]
theorem namesE_key {t:Tbl} {l:List (List UInt8)} {j:Nat} {n:List UInt8} (hn:l[j]? = some n):namesE t l keyM j=if ixN n (t.cols.map (·.nm)) 0 < 0 then 5 else if (l.take j).contains n=true then 6 else (match t.cols[(ixN n (t.cols.map (·.nm)) 0).toNat]? with
  | some c=>keyM c
  | none=>0):=by
 unfold namesE
 rw [hn]
 try rfl
theorem l_tkey (t:Tbl) (ht:FitT t) (ks:List It):∀ (q j:Nat) (i:Int) (Bo:Code),Loop Tryz.f65 3 Bo→i=(j:Int)→t.key.length=j+q →
  RL K (.run 65 0 (.code Bo::.lp Bo (some ([1,77,78,79],[])) 1::.blk 3 1::ks) [(1,.ptr 0 0),(77,.rows (SLs t.key)),(78,I (t.key.length:Int)),(79,I i)] (tbH t)) =
  if evE (namesE t t.key keyM) j q=0 then R K (.run 65 0 ks [(1,.ptr 0 0)] (tbH t)) else some (I (evE (namesE t t.key keyM) j q),[])
 | 0,j,i,Bo,hB,hi,hq=>by
  subst hi
  have d:¬(j:Int) < (t.key.length:Int):=by omega
  unfold Loop at hB
  simp -implicitDefEqProofs only [go_sem,simprocAttr,Tryz.f65,loopOf] at hB
  subst hB
  rw [RL_eq]
  simp -implicitDefEqProofs only [go_sem,simprocAttr,d,evE]
 | q+1,j,i,Bo,hB,hi,hq=>by
  subst hi
  have hB':=hB
  have hlen:=ht.key
  have d:(j:Int) < (t.key.length:Int):=by omega
  have h7:wrapI .i64 ((j:Int)+1)=((j+1:Nat):Int):=next_id (n:=t.key.length) (by omega) (by omega)
  obtain ⟨n,hn⟩:=some_at (l:=t.key) (i:=j) (by omega)
  have hg:=str_get hn
  have h2:=r_columnAt t n ht.cols
  have h3:=c_contains n (t.key.take j) (by simp;omega)
  have g1:((j:Int)≤(t.key.length:Int))=True:=eq_true (by omega)
  have g2:((0:Int)≤(j:Int))=True:=eq_true (by omega)
  have hN:=namesE_key (t:=t) hn
  have ih:=l_tkey t ht ks q (j+1) _ Bo hB' rfl (by omega)
  simp only [tblA,tblC] at h2
  by_cases h4:ixN n (t.cols.map (·.nm)) 0 < 0
  ·rw [if_pos h4] at hN
   rw [evE_here (by rw [hN];decide),hN,if_neg (by decide)]
   unfold Loop at hB
   simp -implicitDefEqProofs only [go_sem,simprocAttr,Tryz.f65,loopOf] at hB
   subst hB
   rw [RL_eq]
   simp -implicitDefEqProofs only [go_sem,simprocAttr,tblC,d,h7,hg,h2,h4]
  ·obtain ⟨a,c,h5,h6⟩:=ixN_col h4
   have h8:=col_get h6
   rw [if_neg h4,h5,Int.toNat_natCast,h6] at hN
   simp only at hN
   rw [h5] at h2
   have h9:((a:Int) < 0)=False:=eq_false (by omega)
   simp only [colC] at h8
   by_cases b:(t.key.take j).contains n=true
   ·rw [if_pos b] at hN
    rw [b] at h3
    rw [evE_here (by rw [hN];decide),hN,if_neg (by decide)]
    unfold Loop at hB
    simp -implicitDefEqProofs only [go_sem,simprocAttr,Tryz.f65,loopOf] at hB
    subst hB
    rw [RL_eq]
    simp -implicitDefEqProofs only [go_sem,simprocAttr,tblC,d,h7,hg,h2,h9,h3,take_SLs,allLen_SLs,g1,g2,Int.toNat_natCast,Nat.sub_zero,List.length_map]
   ·rw [if_neg b] at hN
    rw [Bool.eq_false_iff.2 b] at h3
    rw [show keyM c=if c.nl=true then 9 else 0 from rfl] at hN
    by_cases e:c.nl=true
    ·rw [if_pos e] at hN
     rw [e] at h8
     rw [evE_here (by rw [hN];decide),hN,if_neg (by decide)]
     unfold Loop at hB
     simp -implicitDefEqProofs only [go_sem,simprocAttr,Tryz.f65,loopOf] at hB
     subst hB
     rw [RL_eq]
     simp -implicitDefEqProofs only [go_sem,simprocAttr,tblC,colC,d,h7,hg,h2,h9,h3,h8,take_SLs,allLen_SLs,g1,g2,Int.toNat_natCast,Nat.sub_zero,List.length_map]
    ·rw [if_neg e] at hN
     rw [Bool.eq_false_iff.2 e] at h8
     rw [evE_more hN]
     unfold Loop at hB
     simp -implicitDefEqProofs only [go_sem,simprocAttr,Tryz.f65,loopOf] at hB
     subst hB
     rw [RL_eq]
     simp -implicitDefEqProofs only [go_sem,simprocAttr,tblC,colC,d,h7,hg,h2,h9,h3,h8,take_SLs,allLen_SLs,g1,g2,Int.toNat_natCast,Nat.sub_zero,List.length_map]
     simp only [tbH,tblC] at ih
     rw [ih]
     rfl
theorem max_pred {j:Nat} (h:j≤1000000):(if wrapI .i64 ((j:Int) - 1) < 0 then (0:Int) else wrapI .i64 ((j:Int) - 1))=((j - 1:Nat):Int):=by
 rw [wrap_id (by omega) (by omega)]
 split<;>omega
theorem befN_at {α:Type} {f:α→List UInt8} {l:List α} {j:Nat} {g:α} (h:l[j - 1]? = some g):befN (l.map f) j=f g:=by simp [befN,h]
theorem l_tfgn (t:Tbl) (ht:FitT t) (ks:List It):∀ (q j:Nat) (i:Int) (Bo:Code),Loop Tryz.f65 6 Bo→i=(j:Int)→t.fgn.length=j+q →
  RL K (.run 65 0 (.code Bo::.lp Bo (some ([1,106,107,108],[])) 1::.blk 6 1::ks) [(1,.ptr 0 0),(106,.rows (t.fgn.map fgnC)),(107,I (t.fgn.length:Int)),(108,I i)] (tbH t)) =
  if evE (fgnE t) j q=0 then R K (.run 65 0 ks [(1,.ptr 0 0)] (tbH t)) else some (I (evE (fgnE t) j q),[])
 | 0,j,i,Bo,hB,hi,hq=>by
  subst hi
  have d:¬(j:Int) < (t.fgn.length:Int):=by omega
  unfold Loop at hB
  simp -implicitDefEqProofs only [go_sem,simprocAttr,Tryz.f65,loopOf] at hB
  subst hB
  rw [RL_eq]
  simp -implicitDefEqProofs only [go_sem,simprocAttr,d,evE]
 | q+1,j,i,Bo,hB,hi,hq=>by
  subst hi
  have hB':=hB
  have hlen:=ht.fgn
  have d:(j:Int) < (t.fgn.length:Int):=by omega
  have h7:wrapI .i64 ((j:Int)+1)=((j+1:Nat):Int):=next_id (n:=t.fgn.length) (by omega) (by omega)
  obtain ⟨f,hf⟩:=some_at (l:=t.fgn) (i:=j) (by omega)
  obtain ⟨g,hgg⟩:=some_at (l:=t.fgn) (i:=j - 1) (by omega)
  have hg:=fgn_get hf
  have hg2:=fgn_get hgg
  have hm:=List.mem_of_getElem? hf
  have hb:befN (t.fgn.map (·.nm)) j=g.nm:=befN_at (f:=(·.nm)) hgg
  have hmx:=max_pred (j:=j) (by omega)
  have e0:((j:Int)==0)=(j==0):=by rw [Bool.eq_iff_iff,beq_iff_eq,beq_iff_eq];omega
  have h1:=r_ordered f.nm g.nm (j==0) (ht.fg f hm).1
  have h2:=r_columnsFault t ht.cols f.cols (ht.fg f hm).2
  have ih:=l_tfgn t ht ks q (j+1) _ Bo hB' rfl (by omega)
  have hN:fgnE t j=orE (ordE f.nm g.nm (j==0)) (listE t f.cols fineM):=by
   unfold fgnE;rw [hf];simp only;rw [hb]
  simp only [tblA,tblC,fgnC] at h2 hg hg2
  generalize ordE f.nm g.nm (j==0)=y at *
  generalize listE t f.cols fineM=z at *
  by_cases hy:y=0
  ·subst hy
   by_cases hz:z=0
   ·subst hz
    rw [evE_more hN]
    unfold Loop at hB
    simp -implicitDefEqProofs only [go_sem,simprocAttr,Tryz.f65,loopOf] at hB
    subst hB
    rw [RL_eq]
    simp -implicitDefEqProofs only [go_sem,simprocAttr,tblC,fgnC,d,h7,hg,hg2,hmx,e0,h1,h2,bne]
    simp only [tbH,tblC] at ih
    rw [ih]
    rfl
   ·have dz:(z==0)=false:=by simpa using hz
    have hN2:fgnE t j=z:=hN
    rw [evE_here (by rw [hN2];exact hz),hN2,if_neg hz]
    unfold Loop at hB
    simp -implicitDefEqProofs only [go_sem,simprocAttr,Tryz.f65,loopOf] at hB
    subst hB
    rw [RL_eq]
    simp -implicitDefEqProofs only [go_sem,simprocAttr,tblC,fgnC,d,h7,hg,hg2,hmx,e0,h1,h2,bne,dz]
  ·have dy:(y==0)=false:=by simpa using hy
   have hN2:fgnE t j=y:=by rw [hN];unfold orE;rw [if_neg hy]
   rw [evE_here (by rw [hN2];exact hy),hN2,if_neg hy]
   unfold Loop at hB
   simp -implicitDefEqProofs only [go_sem,simprocAttr,Tryz.f65,loopOf] at hB
   subst hB
   rw [RL_eq]
   simp -implicitDefEqProofs only [go_sem,simprocAttr,tblC,fgnC,d,h7,hg,hg2,hmx,e0,h1,bne,dy]
theorem l_tidx (t:Tbl) (ht:FitT t) (ks:List It):∀ (q j:Nat) (i:Int) (Bo:Code),Loop Tryz.f65 8 Bo→i=(j:Int)→t.idx.length=j+q →
  RL K (.run 65 0 (.code Bo::.lp Bo (some ([1,138,139,140],[])) 1::.blk 8 1::ks) [(1,.ptr 0 0),(138,.rows (t.idx.map idxC)),(139,I (t.idx.length:Int)),(140,I i)] (tbH t)) =
  if evE (idxE t) j q=0 then R K (.run 65 0 ks [] (tbH t)) else some (I (evE (idxE t) j q),[])
 | 0,j,i,Bo,hB,hi,hq=>by
  subst hi
  have d:¬(j:Int) < (t.idx.length:Int):=by omega
  unfold Loop at hB
  simp -implicitDefEqProofs only [go_sem,simprocAttr,Tryz.f65,loopOf] at hB
  subst hB
  rw [RL_eq]
  simp -implicitDefEqProofs only [go_sem,simprocAttr,d,evE]
 | q+1,j,i,Bo,hB,hi,hq=>by
  subst hi
  have hB':=hB
  have hlen:=ht.idx
  have d:(j:Int) < (t.idx.length:Int):=by omega
  have h7:wrapI .i64 ((j:Int)+1)=((j+1:Nat):Int):=next_id (n:=t.idx.length) (by omega) (by omega)
  obtain ⟨f,hf⟩:=some_at (l:=t.idx) (i:=j) (by omega)
  obtain ⟨g,hgg⟩:=some_at (l:=t.idx) (i:=j - 1) (by omega)
  have hg:=idx_get hf
  have hg2:=idx_get hgg
  have hm:=List.mem_of_getElem? hf
  have hb:befN (t.idx.map (·.nm)) j=g.nm:=befN_at (f:=(·.nm)) hgg
  have hmx:=max_pred (j:=j) (by omega)
  have e0:((j:Int)==0)=(j==0):=by rw [Bool.eq_iff_iff,beq_iff_eq,beq_iff_eq];omega
  have h1:=r_ordered f.nm g.nm (j==0) (ht.ix f hm).1
  have h2:=r_columnsFault t ht.cols f.cols (ht.ix f hm).2
  have ih:=l_tidx t ht ks q (j+1) _ Bo hB' rfl (by omega)
  have hN:idxE t j=orE (ordE f.nm g.nm (j==0)) (if f.cols.length=0 then 3 else if 8 < f.cols.length then 2 else listE t f.cols fineM):=by
   unfold idxE;rw [hf];simp only;rw [hb]
  simp only [tblA,tblC,idxC] at h2 hg hg2
  generalize ordE f.nm g.nm (j==0)=y at *
  generalize listE t f.cols fineM=z at *
  by_cases hy:y=0
  ·subst hy
   by_cases a:f.cols.length=0
   ·have d0:((f.cols.length:Int)==0)=true:=by simp [a]
    have hN2:idxE t j=3:=by rw [hN,if_pos a];rfl
    rw [evE_here (by rw [hN2];decide),hN2,if_neg (by decide)]
    unfold Loop at hB
    simp -implicitDefEqProofs only [go_sem,simprocAttr,Tryz.f65,loopOf] at hB
    subst hB
    rw [RL_eq]
    simp -implicitDefEqProofs only [go_sem,simprocAttr,tblC,idxC,d,h7,hg,hg2,hmx,e0,h1,bne,List.length_map,d0]
   ·have d0:((f.cols.length:Int)==0)=false:=by rw [←Bool.not_eq_true,beq_iff_eq];omega
    rw [if_neg a] at hN
    by_cases b:8 < f.cols.length
    ·have d8:((8:Int) < (f.cols.length:Int))=True:=eq_true (by omega)
     have hN2:idxE t j=2:=by rw [hN,if_pos b];rfl
     rw [evE_here (by rw [hN2];decide),hN2,if_neg (by decide)]
     unfold Loop at hB
     simp -implicitDefEqProofs only [go_sem,simprocAttr,Tryz.f65,loopOf] at hB
     subst hB
     rw [RL_eq]
     simp -implicitDefEqProofs only [go_sem,simprocAttr,tblC,idxC,d,h7,hg,hg2,hmx,e0,h1,bne,List.length_map,d0,d8]
    ·have d8:((8:Int) < (f.cols.length:Int))=False:=eq_false (by omega)
     rw [if_neg b] at hN
     by_cases hz:z=0
     ·subst hz
      rw [evE_more hN]
      unfold Loop at hB
      simp -implicitDefEqProofs only [go_sem,simprocAttr,Tryz.f65,loopOf] at hB
      subst hB
      rw [RL_eq]
      simp -implicitDefEqProofs only [go_sem,simprocAttr,tblC,idxC,d,h7,hg,hg2,hmx,e0,h1,h2,bne,List.length_map,d0,d8]
      simp only [tbH,tblC] at ih
      rw [ih]
      rfl
     ·have dz:(z==0)=false:=by simpa using hz
      have hN2:idxE t j=z:=hN
      rw [evE_here (by rw [hN2];exact hz),hN2,if_neg hz]
      unfold Loop at hB
      simp -implicitDefEqProofs only [go_sem,simprocAttr,Tryz.f65,loopOf] at hB
      subst hB
      rw [RL_eq]
      simp -implicitDefEqProofs only [go_sem,simprocAttr,tblC,idxC,d,h7,hg,hg2,hmx,e0,h1,h2,bne,List.length_map,d0,d8,dz]
  ·have dy:(y==0)=false:=by simpa using hy
   have hN2:idxE t j=y:=by rw [hN];unfold orE;rw [if_neg hy]
   rw [evE_here (by rw [hN2];exact hy),hN2,if_neg hy]
   unfold Loop at hB
   simp -implicitDefEqProofs only [go_sem,simprocAttr,Tryz.f65,loopOf] at hB
   subst hB
   rw [RL_eq]
   simp -implicitDefEqProofs only [go_sem,simprocAttr,tblC,idxC,d,h7,hg,hg2,hmx,e0,h1,bne,dy]
theorem part_all (t:Tbl):evE (partE t) 0 4=if evE (colE t) 0 t.cols.length=0 then (if keyE t=0 then (if evE (fgnE t) 0 t.fgn.length=0 then evE (idxE t) 0 t.idx.length else evE (fgnE t) 0 t.fgn.length) else keyE t) else evE (colE t) 0 t.cols.length:=by
 have e:evE (partE t) 0 4=if columnsE t=0 then (if keyE t=0 then (if evE (fgnE t) 0 t.fgn.length=0 then (if evE (idxE t) 0 t.idx.length=0 then 0 else evE (idxE t) 0 t.idx.length) else evE (fgnE t) 0 t.fgn.length) else keyE t) else columnsE t:=rfl
 rw [e]
 unfold columnsE
 generalize evE (idxE t) 0 t.idx.length=z
 have ez:(if z=0 then 0 else z)=z:=by split<;>simp_all
 rw [ez]
theorem r_tableFault (t:Tbl) (ht:FitT t):R K (.call 65 [tblA t] [])=some (I (if bigT t=true then 2 else evE (partE t) 0 4),[]):=by
 have l0:=fun ks B hB=>l_tcols t ht ks t.cols.length 0 0 B hB rfl (by omega)
 have l3:=fun ks B hB=>l_tkey t ht ks t.key.length 0 0 B hB rfl (by omega)
 have l6:=fun ks B hB=>l_tfgn t ht ks t.fgn.length 0 0 B hB rfl (by omega)
 have l8:=fun ks B hB=>l_tidx t ht ks t.idx.length 0 0 B hB rfl (by omega)
 simp only [tbH,tblC] at l0 l3 l6 l8
 have b1:decide ((60:Int) < (t.cols.length:Int))=decide (60 < t.cols.length):=by congr 1;simp only [eq_iff_iff];omega
 have b2:decide ((8:Int) < (t.key.length:Int))=decide (8 < t.key.length):=by congr 1;simp only [eq_iff_iff];omega
 have b3:decide ((20:Int) < (t.fgn.length:Int))=decide (20 < t.fgn.length):=by congr 1;simp only [eq_iff_iff];omega
 have b4:decide ((20:Int) < (t.idx.length:Int))=decide (20 < t.idx.length):=by congr 1;simp only [eq_iff_iff];omega
 rw [part_all]
 cases hb:bigT t with
 | true =>
  unfold bigT at hb
  generalize decide (60 < t.cols.length)=u1 at *
  generalize decide (8 < t.key.length)=u2 at *
  generalize decide (20 < t.fgn.length)=u3 at *
  generalize decide (20 < t.idx.length)=u4 at *
  rw [call_65]
  simp -implicitDefEqProofs only [go_sem,simprocAttr,Tryz.f65,tblC,List.length_map,b1,b2,b3,b4]
  repeat' ((first | apply split_cond | apply split_yes | apply split_no)<;>intro hc<;>simp -implicitDefEqProofs only [hc,go_sem,simprocAttr,tblC,List.length_map,b1,b2,b3,b4])
  all_goals simp_all
 | false =>
  unfold bigT at hb
  simp only [Bool.or_eq_false_iff] at hb
  obtain ⟨u1,u2,u3,u4⟩:=hb
  rw [if_neg (by decide)]
  rw [call_65]
  simp -implicitDefEqProofs only [go_sem,simprocAttr,Tryz.f65,tblC,List.length_map,b1,b2,b3,b4,u1,u2,u3,u4]
  rw [l0 _ _ ?_]
  ·by_cases z0:evE (colE t) 0 t.cols.length=0
   ·rw [if_pos z0,if_pos z0]
    unfold keyE
    by_cases a:t.key.length=0
    ·have d0:((t.key.length:Int)==0)=true:=by simp [a]
     simp -implicitDefEqProofs only [go_sem,simprocAttr,tblC,List.length_map,d0]
     simp [a]
    ·have d0:((t.key.length:Int)==0)=false:=by rw [←Bool.not_eq_true,beq_iff_eq];omega
     rw [if_neg a]
     unfold listE
     simp -implicitDefEqProofs only [go_sem,simprocAttr,tblC,List.length_map,d0]
     rw [l3 _ _ ?_]
     ·by_cases z1:evE (namesE t t.key keyM) 0 t.key.length=0
      ·rw [if_pos z1,if_pos z1]
       simp -implicitDefEqProofs only [go_sem,simprocAttr,tblC,List.length_map]
       rw [l6 _ _ ?_]
       ·by_cases z2:evE (fgnE t) 0 t.fgn.length=0
        ·rw [if_pos z2,if_pos z2]
         simp -implicitDefEqProofs only [go_sem,simprocAttr,tblC,List.length_map]
         rw [l8 _ _ ?_]
         ·by_cases z3:evE (idxE t) 0 t.idx.length=0
          ·rw [if_pos z3,z3]
           simp -implicitDefEqProofs only [go_sem,simprocAttr]
          ·rw [if_neg z3]
         ·rfl
        ·rw [if_neg z2,if_neg z2]
       ·rfl
      ·rw [if_neg z1,if_neg z1]
     ·rfl
   ·rw [if_neg z0,if_neg z0]
  ·rfl
theorem l_sf0 (x:List Tbl) (hx:FitX x) (ks:List It):∀ (q j:Nat) (i:Int) (Bo:Code),Loop Tryz.f18 0 Bo→i=(j:Int)→x.length=j+q →
  RL K (.run 18 0 (.code Bo::.lp Bo (some ([1,19,20,21],[])) 1::.blk 0 1::ks) [(1,.ptr 0 0),(19,.rows (x.map tblC)),(20,I (x.length:Int)),(21,I i)] (xH x)) =
  if evE (tableE x) j q=0 then R K (.run 18 0 ks [(1,.ptr 0 0)] (xH x)) else some (I (evE (tableE x) j q),[])
 | 0,j,i,Bo,hB,hi,hq=>by
  subst hi
  have d:¬(j:Int) < (x.length:Int):=by omega
  unfold Loop at hB
  simp -implicitDefEqProofs only [go_sem,simprocAttr,Tryz.f18,loopOf] at hB
  subst hB
  rw [RL_eq]
  simp -implicitDefEqProofs only [go_sem,simprocAttr,d,evE]
 | q+1,j,i,Bo,hB,hi,hq=>by
  subst hi
  have hB':=hB
  have hlen:=hx.len
  have d:(j:Int) < (x.length:Int):=by omega
  have h7:wrapI .i64 ((j:Int)+1)=((j+1:Nat):Int):=next_id (n:=x.length) (by omega) (by omega)
  obtain ⟨t,ht⟩:=some_at (l:=x) (i:=j) (by omega)
  obtain ⟨g,hgg⟩:=some_at (l:=x) (i:=j - 1) (by omega)
  have hg:=tbl_get ht
  have hg2:=tbl_get hgg
  have hT:=hx.tbl t (List.mem_of_getElem? ht)
  have hb:befN (x.map (·.nm)) j=g.nm:=befN_at (f:=(·.nm)) hgg
  have hmx:=max_pred (j:=j) (by omega)
  have e0:((j:Int)==0)=(j==0):=by rw [Bool.eq_iff_iff,beq_iff_eq,beq_iff_eq];omega
  have h1:=r_ordered t.nm g.nm (j==0) hT.nm
  have h2:=r_tableFault t hT
  have ih:=l_sf0 x hx ks q (j+1) _ Bo hB' rfl (by omega)
  have hN:tableE x j=orE (ordE t.nm g.nm (j==0)) (if bigT t=true then 2 else evE (partE t) 0 4):=by
   unfold tableE;rw [ht];simp only;rw [hb]
  simp only [tblA,tblC] at h2 hg hg2
  generalize ordE t.nm g.nm (j==0)=y at *
  generalize (if bigT t=true then 2 else evE (partE t) 0 4)=z at *
  by_cases hy:y=0
  ·subst hy
   by_cases hz:z=0
   ·subst hz
    rw [evE_more hN]
    unfold Loop at hB
    simp -implicitDefEqProofs only [go_sem,simprocAttr,Tryz.f18,loopOf] at hB
    subst hB
    rw [RL_eq]
    simp -implicitDefEqProofs only [go_sem,simprocAttr,tblC,d,h7,hg,hg2,hmx,e0,h1,h2,bne]
    simp only [xH] at ih
    rw [ih]
   ·have dz:(z==0)=false:=by simpa using hz
    have hN2:tableE x j=z:=hN
    rw [evE_here (by rw [hN2];exact hz),hN2,if_neg hz]
    unfold Loop at hB
    simp -implicitDefEqProofs only [go_sem,simprocAttr,Tryz.f18,loopOf] at hB
    subst hB
    rw [RL_eq]
    simp -implicitDefEqProofs only [go_sem,simprocAttr,tblC,d,h7,hg,hg2,hmx,e0,h1,h2,bne,dz]
  ·have dy:(y==0)=false:=by simpa using hy
   have hN2:tableE x j=y:=by rw [hN];unfold orE;rw [if_neg hy]
   rw [evE_here (by rw [hN2];exact hy),hN2,if_neg hy]
   unfold Loop at hB
   simp -implicitDefEqProofs only [go_sem,simprocAttr,Tryz.f18,loopOf] at hB
   subst hB
   rw [RL_eq]
   simp -implicitDefEqProofs only [go_sem,simprocAttr,tblC,d,h7,hg,hg2,hmx,e0,h1,bne,dy]
abbrev xtfH (x:List Tbl) (t:Tbl) (f:Fgn):Heap:=[.cells [.rows (x.map tblC)],.cells (tblC t),.cells (fgnC f)]
theorem l_sf6 (x:List Tbl) (hx:FitX x) (t:Tbl) (ht:t∈x) (f:Fgn) (hf:f∈t.fgn) (u:Tbl) (a:Nat) (hu:x[a]? = some u) (hl:f.cols.length=u.key.length) (h1:NamesIn t f.cols) (h2:NamesIn u u.key) (p r:Int) (ks:List It) :
  ∀ (q j:Nat) (i:Int) (Bo:Code),Loop Tryz.f18 6 Bo→i=(j:Int)→f.cols.length=j+q →
  RL K (.run 18 0 (.code Bo::.lp Bo (some ([1,8,10,11,49,50,51,56,57,58,84,85,86],[])) 3::.blk 6 3::ks) [(1,.ptr 0 0),(8,.ptr 1 0),(10,.ptr 2 0),(11,I (a:Int)),(49,.rows (x.map tblC)),(50,I (x.length:Int)),(51,I p),(56,.rows (t.fgn.map fgnC)),(57,I (t.fgn.length:Int)),(58,I r),(84,.rows (SLs u.key)),(85,I (u.key.length:Int)),(86,I i)] (xtfH x t f)) =
  if evE (kdE t u f.cols u.key) j q=0 then R K (.run 18 0 ks [(1,.ptr 0 0),(8,.ptr 1 0),(49,.rows (x.map tblC)),(50,I (x.length:Int)),(51,I p),(56,.rows (t.fgn.map fgnC)),(57,I (t.fgn.length:Int)),(58,I r)] (xtfH x t f)) else some (I (evE (kdE t u f.cols u.key) j q),[])
 | 0,j,i,Bo,hB,hi,hq=>by
  subst hi
  have d:¬(j:Int) < (u.key.length:Int):=by omega
  unfold Loop at hB
  simp -implicitDefEqProofs only [go_sem,simprocAttr,Tryz.f18,loopOf] at hB
  subst hB
  rw [RL_eq]
  simp -implicitDefEqProofs only [go_sem,simprocAttr,d,evE]
 | q+1,j,i,Bo,hB,hi,hq=>by
  subst hi
  have hB':=hB
  have hT:=hx.tbl t ht
  have hU:=hx.tbl u (List.mem_of_getElem? hu)
  have hk:=hU.key
  have d:(j:Int) < (u.key.length:Int):=by omega
  have h7:wrapI .i64 ((j:Int)+1)=((j+1:Nat):Int):=next_id (n:=u.key.length) (by omega) (by omega)
  obtain ⟨m,hm⟩:=some_at (l:=f.cols) (i:=j) (by omega)
  obtain ⟨n,hn⟩:=some_at (l:=u.key) (i:=j) (by omega)
  obtain ⟨c1,c,p1,p2⟩:=ixN_col (h1 m (List.mem_of_getElem? hm))
  obtain ⟨d1,e,q1,q2⟩:=ixN_col (h2 n (List.mem_of_getElem? hn))
  have g1:=str_get hm
  have g2:=str_get hn
  have g3:=r_columnAt t m hT.cols
  have g4:=r_columnAt u n hU.cols
  rw [p1] at g3
  rw [q1] at g4
  have g5:=col_get p2
  have g6:=col_get q2
  have g7:=tbl_get hu
  have e1:colN t m=some c:=by unfold colN;rw [p1,Int.toNat_natCast,p2]
  have e2:colN u n=some e:=by unfold colN;rw [q1,Int.toNat_natCast,q2]
  have hN:kdE t u f.cols u.key j=if c.kd=e.kd then 0 else 8:=by
   unfold kdE
   rw [hm,hn]
   simp only
   rw [e1,e2]
  have ih:=l_sf6 x hx t ht f hf u a hu hl h1 h2 p r ks q (j+1) _ Bo hB' rfl (by omega)
  simp only [tblA,tblC,colC] at g3 g4 g5 g6 g7
  by_cases hd:c.kd=e.kd
  ·have dk:(c.kd==e.kd)=true:=by simpa using hd
   rw [if_pos hd] at hN
   rw [evE_more hN]
   unfold Loop at hB
   simp -implicitDefEqProofs only [go_sem,simprocAttr,Tryz.f18,loopOf] at hB
   subst hB
   rw [RL_eq]
   simp -implicitDefEqProofs only [go_sem,simprocAttr,tblC,fgnC,colC,d,h7,g1,g2,g3,g4,g5,g6,g7,bne,dk]
   simp only [xtfH,tblC,fgnC] at ih
   rw [ih]
   rfl
  ·have dk:(c.kd==e.kd)=false:=by simpa using hd
   rw [if_neg hd] at hN
   rw [evE_here (by rw [hN];decide),hN,if_neg (by decide)]
   unfold Loop at hB
   simp -implicitDefEqProofs only [go_sem,simprocAttr,Tryz.f18,loopOf] at hB
   subst hB
   rw [RL_eq]
   simp -implicitDefEqProofs only [go_sem,simprocAttr,tblC,fgnC,colC,d,h7,g1,g2,g3,g4,g5,g6,g7,bne,dk]
theorem l_sf4 (x:List Tbl) (hx:FitX x) (t:Tbl) (ht:t∈x) (hO:∀ f∈t.fgn,NamesIn t f.cols) (hK:∀ u∈x,NamesIn u u.key) (p:Int) (ks:List It) :
  ∀ (q j:Nat) (i:Int) (Bo:Code),Loop Tryz.f18 4 Bo→i=(j:Int)→t.fgn.length=j+q →
  RL K (.run 18 0 (.code Bo::.lp Bo (some ([1,8,49,50,51,56,57,58],[])) 2::.blk 4 2::ks) [(1,.ptr 0 0),(8,.ptr 1 0),(49,.rows (x.map tblC)),(50,I (x.length:Int)),(51,I p),(56,.rows (t.fgn.map fgnC)),(57,I (t.fgn.length:Int)),(58,I i)] (xtH x t)) =
  if evE (fkE x t) j q=0 then R K (.run 18 0 ks [(1,.ptr 0 0),(49,.rows (x.map tblC)),(50,I (x.length:Int)),(51,I p)] (xtH x t)) else some (I (evE (fkE x t) j q),[])
 | 0,j,i,Bo,hB,hi,hq=>by
  subst hi
  have d:¬(j:Int) < (t.fgn.length:Int):=by omega
  unfold Loop at hB
  simp -implicitDefEqProofs only [go_sem,simprocAttr,Tryz.f18,loopOf] at hB
  subst hB
  rw [RL_eq]
  simp -implicitDefEqProofs only [go_sem,simprocAttr,d,evE]
 | q+1,j,i,Bo,hB,hi,hq=>by
  subst hi
  have hB':=hB
  have hT:=hx.tbl t ht
  have hlen:=hT.fgn
  have d:(j:Int) < (t.fgn.length:Int):=by omega
  have h7:wrapI .i64 ((j:Int)+1)=((j+1:Nat):Int):=next_id (n:=t.fgn.length) (by omega) (by omega)
  obtain ⟨f,hf⟩:=some_at (l:=t.fgn) (i:=j) (by omega)
  have hg:=fgn_get hf
  have hm:=List.mem_of_getElem? hf
  have h1:=r_TableAt x f.tb hx.len
  have ih:=l_sf4 x hx t ht hO hK p ks q (j+1) _ Bo hB' rfl (by omega)
  have hN:fkE x t j=forE x t f:=by unfold fkE;rw [hf]
  simp only [fgnC] at hg
  unfold forE at hN
  by_cases h0:ixN f.tb (x.map (·.nm)) 0 < 0
  ·rw [if_pos h0] at hN
   rw [evE_here (by rw [hN];decide),hN,if_neg (by decide)]
   unfold Loop at hB
   simp -implicitDefEqProofs only [go_sem,simprocAttr,Tryz.f18,loopOf] at hB
   subst hB
   rw [RL_eq]
   simp -implicitDefEqProofs only [go_sem,simprocAttr,fgnC,d,h7,hg,h1,h0]
  ·obtain ⟨a,u,h5,h6⟩:=ixN_tbl h0
   have g7:=tbl_get h6
   have hu:=List.mem_of_getElem? h6
   have h9:((a:Int) < 0)=False:=eq_false (by omega)
   rw [if_neg h0,h5,Int.toNat_natCast,h6] at hN
   simp only at hN
   rw [h5] at h1
   simp only [tblC] at g7
   by_cases hl:f.cols.length=u.key.length
   ·have dl:((f.cols.length:Int)==(u.key.length:Int))=true:=by rw [hl,beq_iff_eq]
    rw [if_pos hl] at hN
    have l6:=fun ks B hB=>l_sf6 x hx t ht f hm u a h6 hl (hO f hm) (hK u hu) p (j:Int) ks f.cols.length 0 0 B hB rfl (by omega)
    simp only [xtfH,tblC,fgnC] at l6
    by_cases z:evE (kdE t u f.cols u.key) 0 f.cols.length=0
    ·rw [z] at hN
     rw [evE_more hN]
     unfold Loop at hB
     simp -implicitDefEqProofs only [go_sem,simprocAttr,Tryz.f18,loopOf] at hB
     subst hB
     rw [RL_eq]
     simp -implicitDefEqProofs only [go_sem,simprocAttr,fgnC,tblC,d,h7,hg,h1,h9,g7,List.length_map,bne,dl]
     rw [l6 _ _ ?_,if_pos z]
     ·simp -implicitDefEqProofs only [go_sem,simprocAttr,fgnC,tblC,d,h7]
      simp only [xtH,tblC] at ih
      rw [ih]
      rfl
     ·rfl
    ·rw [evE_here (by rw [hN];exact z),hN,if_neg z]
     unfold Loop at hB
     simp -implicitDefEqProofs only [go_sem,simprocAttr,Tryz.f18,loopOf] at hB
     subst hB
     rw [RL_eq]
     simp -implicitDefEqProofs only [go_sem,simprocAttr,fgnC,tblC,d,h7,hg,h1,h9,g7,List.length_map,bne,dl]
     rw [l6 _ _ ?_,if_neg z]
     rfl
   ·have dl:((f.cols.length:Int)==(u.key.length:Int))=false:=by rw [←Bool.not_eq_true,beq_iff_eq];omega
    rw [if_neg hl] at hN
    rw [evE_here (by rw [hN];decide),hN,if_neg (by decide)]
    unfold Loop at hB
    simp -implicitDefEqProofs only [go_sem,simprocAttr,Tryz.f18,loopOf] at hB
    subst hB
    rw [RL_eq]
    simp -implicitDefEqProofs only [go_sem,simprocAttr,fgnC,tblC,d,h7,hg,h1,h9,g7,List.length_map,bne,dl]
theorem l_sf2 (x:List Tbl) (hx:FitX x) (hO:∀ t∈x,TabOk t) (ks:List It) :
  ∀ (q j:Nat) (i:Int) (Bo:Code),Loop Tryz.f18 2 Bo→i=(j:Int)→x.length=j+q →
  RL K (.run 18 0 (.code Bo::.lp Bo (some ([1,49,50,51],[])) 1::.blk 2 1::ks) [(1,.ptr 0 0),(49,.rows (x.map tblC)),(50,I (x.length:Int)),(51,I i)] (xH x)) =
  if evE (forsE x) j q=0 then R K (.run 18 0 ks [] (xH x)) else some (I (evE (forsE x) j q),[])
 | 0,j,i,Bo,hB,hi,hq=>by
  subst hi
  have d:¬(j:Int) < (x.length:Int):=by omega
  unfold Loop at hB
  simp -implicitDefEqProofs only [go_sem,simprocAttr,Tryz.f18,loopOf] at hB
  subst hB
  rw [RL_eq]
  simp -implicitDefEqProofs only [go_sem,simprocAttr,d,evE]
 | q+1,j,i,Bo,hB,hi,hq=>by
  subst hi
  have hB':=hB
  have hlen:=hx.len
  have d:(j:Int) < (x.length:Int):=by omega
  have h7:wrapI .i64 ((j:Int)+1)=((j+1:Nat):Int):=next_id (n:=x.length) (by omega) (by omega)
  obtain ⟨t,ht⟩:=some_at (l:=x) (i:=j) (by omega)
  have hg:=tbl_get ht
  have hm:=List.mem_of_getElem? ht
  have ih:=l_sf2 x hx hO ks q (j+1) _ Bo hB' rfl (by omega)
  have hN:forsE x j=evE (fkE x t) 0 t.fgn.length:=by unfold forsE;rw [ht]
  have l4:=fun ks B hB=>l_sf4 x hx t hm (hO t hm).fg (fun u hu=>(hO u hu).key) (j:Int) ks t.fgn.length 0 0 B hB rfl (by omega)
  simp only [xtH,tblC] at l4 hg
  by_cases z:evE (fkE x t) 0 t.fgn.length=0
  ·rw [z] at hN
   rw [evE_more hN]
   unfold Loop at hB
   simp -implicitDefEqProofs only [go_sem,simprocAttr,Tryz.f18,loopOf] at hB
   subst hB
   rw [RL_eq]
   simp -implicitDefEqProofs only [go_sem,simprocAttr,tblC,d,h7,hg,List.length_map]
   rw [l4 _ _ ?_,if_pos z]
   ·simp -implicitDefEqProofs only [go_sem,simprocAttr,tblC,d,h7]
    simp only [xH] at ih
    rw [ih]
   ·rfl
  ·rw [evE_here (by rw [hN];exact z),hN,if_neg z]
   unfold Loop at hB
   simp -implicitDefEqProofs only [go_sem,simprocAttr,Tryz.f18,loopOf] at hB
   subst hB
   rw [RL_eq]
   simp -implicitDefEqProofs only [go_sem,simprocAttr,tblC,d,h7,hg,List.length_map]
   rw [l4 _ _ ?_,if_neg z]
   rfl
theorem chk_all (x:List Tbl):evE (chkP x) 0 2=if evE (tableE x) 0 x.length=0 then evE (forsE x) 0 x.length else evE (tableE x) 0 x.length:=by
 have e:evE (chkP x) 0 2=if evE (tableE x) 0 x.length=0 then (if evE (forsE x) 0 x.length=0 then 0 else evE (forsE x) 0 x.length) else evE (tableE x) 0 x.length:=rfl
 rw [e]
 generalize evE (forsE x) 0 x.length=z
 have ez:(if z=0 then 0 else z)=z:=by split<;>simp_all
 rw [ez]
theorem r_SchemaFault (x:List Tbl) (hx:FitX x):R K (.call 18 [schC x] [])=some (I (chkE x),[]):=by
 have l0:=fun ks B hB=>l_sf0 x hx ks x.length 0 0 B hB rfl (by omega)
 simp only [xH] at l0
 unfold chkE
 by_cases b:60 < x.length
 ·have d:((60:Int) < (x.length:Int))=True:=eq_true (by omega)
  rw [if_pos b]
  rw [call_18]
  simp -implicitDefEqProofs only [go_sem,simprocAttr,Tryz.f18,List.length_map,d]
 ·have d:((60:Int) < (x.length:Int))=False:=eq_false (by omega)
  rw [if_neg b,chk_all]
  rw [call_18]
  simp -implicitDefEqProofs only [go_sem,simprocAttr,Tryz.f18,List.length_map,d]
  rw [l0 _ _ ?_]
  ·by_cases z0:evE (tableE x) 0 x.length=0
   ·have l2:=fun ks B hB=>l_sf2 x hx (tables_ok z0).2 ks x.length 0 0 B hB rfl (by omega)
    simp only [xH] at l2
    rw [if_pos z0,if_pos z0]
    simp -implicitDefEqProofs only [go_sem,simprocAttr,List.length_map]
    rw [l2 _ _ ?_]
    ·by_cases z1:evE (forsE x) 0 x.length=0
     ·rw [if_pos z1,z1]
      simp -implicitDefEqProofs only [go_sem,simprocAttr]
     ·rw [if_neg z1]
    ·rfl
   ·rw [if_neg z0,if_neg z0]
  ·rfl
section
variable {L:List Int} {a B:Int}
theorem g_column (h:Gd L a B) (hB:20≤B) (nm:List UInt8):∃ (c:Col) (a':Int),R K (.call 90 [.ptr 0 0,.str nm] (St L a))=some (.agg (colC c),St L a')∧a≤a'∧a'≤a+20∧c.nm=nm:=by
 obtain ⟨x,hx,p⟩:=g_Pick h (by omega) [2,2,3,1,4] (by decide) (by decide)
 simp only [List.map] at p
 have h1:=h.step (a+1) (B - 1) (by omega) (by omega)
 have x1:=g_Flip h1 (by omega) 2
 have h2:=h1.step (a+1+1) (B - 2) (by omega) (by omega)
 have x2:=g_Flip h2 (by omega) 4
 have h3:=h2.step (a+1+1+1) (B - 3) (by omega) (by omega)
 generalize (nextS L (a+1) 2==0)=b1 at *
 cases e2:nextS L (a+1+1) 4==0 with
 | true =>
  rw [e2] at x2
  obtain ⟨v,a',x3,q1,q2,_⟩:=g_Value h3 (by omega) x
  simp only [enc] at x3
  refine ⟨⟨nm,x,b1,v⟩,a',?_,by omega,by omega,rfl⟩
  rw [call_90]
  simp -implicitDefEqProofs only [go_sem,simprocAttr,Tryz.f90,p,x1,x2,x3,colC]
 | false =>
  rw [e2] at x2
  refine ⟨⟨nm,x,b1,⟨0,0,[]⟩⟩,a+1+1+1,?_,by omega,by omega,rfl⟩
  rw [call_90]
  simp -implicitDefEqProofs only [go_sem,simprocAttr,Tryz.f90,p,x1,x2,colC]
def ints (l:List Int):List (List AV):=l.map fun x=>[I x]
def Lows (n:Nat) (l:List Int):Prop:=l.length=n∧∀ x∈l,0≤x∧x < (n:Int)
theorem intsL (l:List Int):(ints l).length=l.length:=by simp [ints]
theorem ints_app (l:List Int) (x:Int):ints l++[[I x]]=ints (l++[x]):=by simp [ints]
theorem ints_at {l:List Int} {i:Nat} {x:Int} (h:l[i]? = some x):(ints l)[i]? = some [I x]:=by simp [ints,h]
theorem ints_set (l:List Int) (i:Nat) (x:Int):(ints l).set i [I x]=ints (l.set i x):=by simp [ints,List.map_set]
theorem locsR_ints:∀ l:List Int,locsR (ints l)=[]
 | []=>rfl
 | x::l=>by simpa [ints,locsR,locsL,locs] using locsR_ints l
theorem l_ord0 (n:Nat) (hn:n≤20):∀ (q j:Nat) (l:List Int),n=j+q→l.length=j→(∀ x∈l,0≤x∧x < (n:Int))→∃ l',Lows n l'∧∀ (ks:List It) (Bo:Code) (jj:Int),Loop Tryz.f91 0 Bo→jj=(j:Int) →
  RL K (.run 91 1 (.code Bo::.lp Bo (some ([0,1,5,9,10],[])) 2::.blk 0 2::ks) [(0,.ptr 0 0),(1,I (n:Int)),(5,.own 1 l.length),(9,I (n:Int)),(10,I jj)] [.cells [LR L,I a],.rows 1 (ints l) true]) =
  R K (.run 91 1 ks [(0,.ptr 0 0),(1,I (n:Int)),(5,.own 1 n)] [.cells [LR L,I a],.rows 1 (ints l') true])
 | 0,j,l,hq,hl,hx=>by
  have d:¬(j:Int) < (n:Int):=by omega
  have e:l.length=n:=by omega
  refine ⟨l,⟨e,hx⟩,fun ks Bo jj hB hj=>?_⟩
  subst hj
  unfold Loop at hB
  simp -implicitDefEqProofs only [go_sem,simprocAttr,Tryz.f91,loopOf] at hB
  subst hB
  rw [RL_eq]
  simp -implicitDefEqProofs only [go_sem,simprocAttr,d,locsR_ints,e]
 | q+1,j,l,hq,hl,hx=>by
  have d:(j:Int) < (n:Int):=by omega
  have h7:=next_id (i:=j) (n:=n) (by omega) (by omega)
  obtain ⟨l',p,ih⟩:=l_ord0 n hn q (j+1) (l++[(j:Int)]) (by omega) (by simp [hl]) (fun x hx'=>by
   rcases List.mem_append.1 hx' with h | h
   ·exact hx x h
   ·rw [List.mem_singleton] at h;omega)
  refine ⟨l',p,fun ks Bo jj hB hj=>?_⟩
  subst hj
  have ih:=ih ks Bo _ hB rfl
  have rm:((l.length+1)*9≤roomMax)=True:=eq_true (by unfold roomMax;omega)
  simp only [List.length_append,List.length_cons,List.length_nil,Nat.zero_add] at ih
  unfold Loop at hB
  simp -implicitDefEqProofs only [go_sem,simprocAttr,Tryz.f91,loopOf] at hB
  subst hB
  rw [RL_eq]
  simp -implicitDefEqProofs only [go_sem,simprocAttr,d,h7,locsR_ints,intsL,ints_app,rm]
  exact ih
theorem lows_set {n:Nat} {l:List Int} (h:Lows n l) (i:Nat) {x:Int} (hx:x∈l):Lows n (l.set i x):=by
 refine ⟨by rw [List.length_set];exact h.1,fun y hy=>?_⟩
 rcases List.mem_or_eq_of_mem_set hy with h1 | h1
 ·exact h.2 y h1
 ·rw [h1];exact h.2 x hx
theorem l_ord2 (n:Nat) (hn:n≤20):∀ (i:Nat) (l:List Int) (a B:Int),i < n→Gd L a B→(i:Int)≤B→Lows n l→∃ (l':List Int) (a':Int),a≤a'∧a'≤a+i∧Lows n l'∧∀ (ks:List It) (Bo:Code),Loop Tryz.f91 2 Bo →
  RL K (.run 91 1 (.code Bo::.lp Bo (some ([0,5,7],[])) 2::.blk 2 2::ks) [(0,.ptr 0 0),(5,.own 1 n),(7,I (i:Int))] [.cells [LR L,I a],.rows 1 (ints l) true]) =
  R K (.run 91 1 ks [(5,.own 1 n)] [.cells [LR L,I a'],.rows 1 (ints l') true])
 | 0,l,a,B,hi,hG,hB',hl=>by
  refine ⟨l,a,by omega,by omega,hl,fun ks Bo hB=>?_⟩
  unfold Loop at hB
  simp -implicitDefEqProofs only [go_sem,simprocAttr,Tryz.f91,loopOf] at hB
  subst hB
  rw [RL_eq]
  simp -implicitDefEqProofs only [go_sem,simprocAttr,locsR_ints]
 | i+1,l,a,B,hi,hG,hB',hl=>by
  have hx0:=g_Next hG (by omega) ((i:Int)+1+1)
  have b0:=next_bounds L a ((i:Int)+1+1) (by omega) (by omega)
  obtain ⟨k,hk⟩:∃ k:Nat,nextS L a ((i:Int)+1+1)=(k:Int):=⟨(nextS L a ((i:Int)+1+1)).toNat,by omega⟩
  rw [hk] at hx0 b0
  have hll:=hl.1
  obtain ⟨xi,hxi⟩:=some_at (l:=l) (i:=i+1) (by omega)
  obtain ⟨xk,hxk⟩:=some_at (l:=l) (i:=k) (by omega)
  have mi:=List.mem_of_getElem? hxi
  have mk:=List.mem_of_getElem? hxk
  have l1:=lows_set hl (i+1) mk
  have hxi1:xi∈l.set (i+1) xk∨True:=.inr trivial
  obtain ⟨z,hz⟩:=some_at (l:=l.set (i+1) xk) (i:=k) (by rw [List.length_set];omega)
  have l2:Lows n ((l.set (i+1) xk).set k xi):=by
   refine ⟨by rw [List.length_set,List.length_set];exact hl.1,fun y hy=>?_⟩
   rcases List.mem_or_eq_of_mem_set hy with h1 | h1
   ·exact l1.2 y h1
   ·rw [h1];exact hl.2 xi mi
  obtain ⟨l',a',q1,q2,q3,ih⟩:=l_ord2 n hn i ((l.set (i+1) xk).set k xi) (a+1) (B - 1) (by omega) (hG.step _ _ (by omega) (by omega)) (by omega) l2
  refine ⟨l',a',by omega,by omega,q3,fun ks Bo hB=>?_⟩
  have ih:=ih ks Bo hB
  have c1:(((i+1:Nat):Int))=(i:Int)+1:=by omega
  have w1:wrapI .i64 ((i:Int)+1+1)=(i:Int)+1+1:=wrap_id (by omega) (by omega)
  have w2:wrapI .i64 ((i:Int)+1 - 1)=(i:Int):=by rw [wrap_id (by omega) (by omega)];omega
  have d:((i:Int)+1 > 0)=True:=eq_true (by omega)
  have d2:((0:Int) < (i:Int)+1)=True:=eq_true (by omega)
  have ai:at? (ints l) ((i:Int)+1)=some [I xi]:=by
   have:=at_get (ints_at hxi);rw [c1] at this;exact this
  have ak:=at_get (ints_at hxk)
  have bi:=ints_at hxi
  have bk:=ints_at hxk
  have bz:=ints_at hz
  have az:=at_get bz
  have ti:((i:Int)+1).toNat=i+1:=by omega
  have sp:∀ b c:Int,splice [I b] 0 [I c]=[I c]:=fun _ _=>rfl
  have n1:(ints l).length=n:=by rw [intsL];exact hl.1
  have n2:(ints (l.set (i+1) xk)).length=n:=by rw [intsL];exact l1.1
  rw [c1]
  unfold Loop at hB
  simp -implicitDefEqProofs only [go_sem,simprocAttr,Tryz.f91,loopOf] at hB
  subst hB
  rw [RL_eq]
  simp -implicitDefEqProofs only [go_sem,simprocAttr,hx0,w1,w2,d,d2,ai,ak,bi,bk,bz,az,ti,sp,n1,n2,ints_set,locsR_ints,Int.toNat_natCast]
  exact ih
theorem g_Order (h:Gd L a B) (n:Nat) (h1:1≤n) (hn:n≤20) (hB:20≤B):∃ (l:List Int) (a':Int),Lows n l∧a≤a'∧a'≤a+20∧R K (.call 91 [.ptr 0 0,I (n:Int)] (St L a))=some (.rows (ints l),St L a'):=by
 obtain ⟨l0,p0,e0⟩:=l_ord0 (L:=L) (a:=a) n hn n 0 [] (by omega) rfl (by simp)
 obtain ⟨l,a',q1,q2,q3,e2⟩:=l_ord2 (L:=L) n hn (n - 1) l0 a B (by omega) h (by omega) p0
 have w:wrapI .i64 ((n:Int) - 1)=((n - 1:Nat):Int):=by rw [wrap_id (by omega) (by omega)];omega
 have nl:(ints l).length=n:=by rw [intsL];exact q3.1
 refine ⟨l,a',q3,q1,by omega,?_⟩
 rw [show ints []=[] from rfl,List.length_nil] at e0
 rw [call_91]
 simp -implicitDefEqProofs only [go_sem,simprocAttr,Tryz.f91]
 rw [e0 _ _ 0 ?_ rfl]
 ·simp -implicitDefEqProofs only [go_sem,simprocAttr,w]
  rw [e2 _ _ ?_]
  ·simp -implicitDefEqProofs only [go_sem,simprocAttr,locsR_ints,nl,true_or]
  ·rfl
 ·rfl
end
abbrev idB:List UInt8:=[105,100]
abbrev kB:List UInt8:=[107]
abbrev idCol:Col:=⟨[105,100],2,false,⟨0,0,[]⟩⟩
abbrev ret5:Blk:=.cells [.str [],.nils,.nils,.nils,.nils]
theorem locsR_cols:∀ l:List Col,locsR (l.map colC)=[]
 | []=>rfl
 | x::l=>by simpa [colC,locsR,locsL,locs] using locsR_cols l
theorem cols_app (l:List Col) (c:Col):l.map colC++[colC c]=(l++[c]).map colC:=by simp
theorem letter (j:Nat) (hj:j≤10):∃ s:List UInt8,(Utf8.encode (wrapI .i32 (97+(j:Int)))).data.toList=s∧s.length≤4:=by
 refine ⟨_,rfl,?_⟩
 have h:∀ n:Fin 11,(Utf8.encode (wrapI .i32 (97+(n.val:Int)))).data.toList.length≤4:=by decide
 exact h ⟨j,by omega⟩
structure ColsOk (cols:List Col) (m:Nat):Prop where
 len:cols.length≤m
 pos:1≤cols.length
 nm:∀ c∈cols,c.nm.length≤100
 id:idB∈cols.map (·.nm)
theorem ColsOk.add {cols:List Col} {m:Nat} (h:ColsOk cols m) (c:Col) (hc:c.nm.length≤100):ColsOk (cols++[c]) (m+1):=by
 refine ⟨by simp;exact h.len,by simp,fun d hd=>?_,by rw [List.map_append];exact List.mem_append_left _ h.id⟩
 rcases List.mem_append.1 hd with h1 | h1
 ·exact h.nm d h1
 ·rw [List.mem_singleton] at h1;rw [h1];exact hc
section
variable {L:List Int}
theorem l_tb0 (nm:List UInt8) (r:Nat) (hr:r≤4) (kv:AV) (kt:Heap) (m:Nat) (hs:(kv=.lit (SLs [idB])∧kt=[]∧m=3)∨(kv=.own 4 2∧kt=[.rows 1 (SLs [idB,kB]) false]∧m=5)):∀ (q j:Nat) (cols:List Col) (a B:Int) (u:Nat),r=j+q→u+q≤10→Gd L a B→(20*q:Int)≤B→ColsOk cols u →
  ∃ (cols':List Col) (a':Int),a≤a'∧a'≤a+20*q∧ColsOk cols' (u+q)∧(∀ n∈cols.map (·.nm),n∈cols'.map (·.nm))∧∀ (ks:List It) (Bo:Code) (jj:Int),Loop Tryz.f41 0 Bo→jj=(j:Int) →
  RL K (.run 41 1 (.code Bo::.lp Bo (some ([0,4,5,33,34],[])) m::.blk 0 m::ks) [(0,.ptr 0 0),(4,.ptr 1 0),(5,.ptr 2 0),(33,I (r:Int)),(34,I jj)] (.cells [LR L,I a]::ret5::.cells [.str nm,.own 3 cols.length,kv,.nils,.nils]::.rows 6 (cols.map colC) true::kt)) =
  R K (.run 41 1 ks [(0,.ptr 0 0),(4,.ptr 1 0),(5,.ptr 2 0)] (.cells [LR L,I a']::ret5::.cells [.str nm,.own 3 cols'.length,kv,.nils,.nils]::.rows 6 (cols'.map colC) true::kt))
 | 0,j,cols,a,B,u,hq,hu,hG,hB',hc=>by
  have d:¬(j:Int) < (r:Int):=by omega
  refine ⟨cols,a,by omega,by omega,hc,fun n hn=>hn,fun ks Bo jj hB hj=>?_⟩
  subst hj
  rcases hs with ⟨rfl,rfl,rfl⟩ | ⟨rfl,rfl,rfl⟩
  ·unfold Loop at hB
   simp -implicitDefEqProofs only [go_sem,simprocAttr,Tryz.f41,loopOf] at hB
   subst hB
   rw [RL_eq]
   simp -implicitDefEqProofs only [go_sem,simprocAttr,d,locsR_cols,locsR_SLs]
  ·unfold Loop at hB
   simp -implicitDefEqProofs only [go_sem,simprocAttr,Tryz.f41,loopOf] at hB
   subst hB
   rw [RL_eq]
   simp -implicitDefEqProofs only [go_sem,simprocAttr,d,locsR_cols,locsR_SLs]
 | q+1,j,cols,a,B,u,hq,hu,hG,hB',hc=>by
  have d:(j:Int) < (r:Int):=by omega
  have h7:=next_id (i:=j) (n:=r) (by omega) (by omega)
  obtain ⟨s,es,hsl⟩:=letter j (by omega)
  have w1:wrapI .i64 (97+(j:Int))=97+(j:Int):=wrap_id (by omega) (by omega)
  obtain ⟨c,a1,x1,q1,q2,q3⟩:=g_column hG (by omega) (99::s)
  obtain ⟨cols',a',p1,p2,p3,p4,ih⟩:=l_tb0 nm r hr kv kt m hs q (j+1) (cols++[c]) a1 (B - 20) (u+1) (by omega) (by omega) (hG.step _ _ (by omega) (by omega)) (by omega) (hc.add c (by rw [q3];simp;omega))
  refine ⟨cols',a',by omega,by omega,by rw [show u+(q+1)=u+1+q by omega];exact p3,fun n hn=>p4 n (by rw [List.map_append];exact List.mem_append_left _ hn),fun ks Bo jj hB hj=>?_⟩
  subst hj
  have ih:=ih ks Bo _ hB rfl
  have hcl:=hc.len
  have ca:=cols_app cols c
  have al:=allLen_cols cols
  have rm:((cols.length+1)*65≤roomMax)=True:=eq_true (by unfold roomMax;omega)
  have st:(1+s.length≤strMax)=True:=eq_true (by unfold strMax;omega)
  simp only [List.length_append,List.length_cons,List.length_nil,Nat.zero_add,colC] at ih x1 ca
  rcases hs with ⟨rfl,rfl,rfl⟩ | ⟨rfl,rfl,rfl⟩
  ·unfold Loop at hB
   simp -implicitDefEqProofs only [go_sem,simprocAttr,Tryz.f41,loopOf] at hB
   subst hB
   rw [RL_eq]
   simp -implicitDefEqProofs only [go_sem,simprocAttr,d,h7,w1,es,x1,ca,al,rm,st,colC,locsR_cols,locsR_SLs,List.length_map]
   exact ih
  ·unfold Loop at hB
   simp -implicitDefEqProofs only [go_sem,simprocAttr,Tryz.f41,loopOf] at hB
   subst hB
   rw [RL_eq]
   simp -implicitDefEqProofs only [go_sem,simprocAttr,d,h7,w1,es,x1,ca,al,rm,st,colC,locsR_cols,locsR_SLs,List.length_map]
   exact ih
end
theorem locsR_idx:∀ l:List Idx,locsR (l.map idxC)=[]
 | []=>rfl
 | x::l=>by simpa [idxC,locsR,locsL,locs] using locsR_idx l
theorem idx_app (l:List Idx) (c:Idx):l.map idxC++[idxC c]=(l++[c]).map idxC:=by simp
theorem SLs_nil:SLs []=[]:=rfl
theorem ints_take (l:List Int) (k:Nat):List.take k (ints l)=ints (l.take k):=by simp [ints,List.map_take]
theorem allLen_ints:∀ l:List Int,allLen 1 (ints l)=true
 | []=>rfl
 | x::l=>by simpa [ints,allLen] using allLen_ints l
def TbS (cols:List Col) (key:List (List UInt8)) (cv kv:AV) (g:Heap):Prop :=
 (cv=.lit (cols.map colC)∧kv=.lit (SLs key)∧g=[])∨(cv=.rows (cols.map colC)∧kv=.lit (SLs key)∧g=[.hole])∨(cv=.rows (cols.map colC)∧kv=.rows (SLs key)∧g=[.hole,.hole])
section
variable {L:List Int}
theorem l_tb4 (nm inm:List UInt8) (uq:Bool) (cols:List Col) (key:List (List UInt8)) (cv kv:AV) (g:Heap) (hs:TbS cols key cv kv g) (a:Int) (is:List Idx) (r i:Int) (ps:List Int) (hp:∀ x∈ps,0≤x∧x < (cols.length:Int)) (hpl:ps.length≤2):∀ (q j:Nat) (ns:List (List UInt8)),ps.length=j+q→ns.length≤j →
  ∃ ns':List (List UInt8),ns'.length≤2∧∀ (ks:List It) (Bo:Code) (jj:Int),Loop Tryz.f41 4 Bo→jj=(j:Int) →
  RL K (.run 41 1 (.code Bo::.lp Bo (some ([0,4,5,8,51,52,74,75,76],[])) (6+g.length)::.blk 4 (6+g.length)::ks) [(0,.ptr 0 0),(4,.ptr 1 0),(5,.ptr 2 0),(8,.ptr (4+g.length) 0),(51,I r),(52,I i),(74,.rows (ints ps)),(75,I (ps.length:Int)),(76,I jj)] (.cells [LR L,I a]::ret5::.cells [.str nm,cv,kv,.nils,.own (3+g.length) is.length]::(g++[.rows 3 (is.map idxC) false,.cells [.str inm,.own (5+g.length) ns.length,.bool uq],.rows 1 (SLs ns) false]))) =
  R K (.run 41 1 ks [(0,.ptr 0 0),(4,.ptr 1 0),(5,.ptr 2 0),(8,.ptr (4+g.length) 0),(51,I r),(52,I i)] (.cells [LR L,I a]::ret5::.cells [.str nm,cv,kv,.nils,.own (3+g.length) is.length]::(g++[.rows 3 (is.map idxC) false,.cells [.str inm,.own (5+g.length) ns'.length,.bool uq],.rows 1 (SLs ns') false])))
 | 0,j,ns,hq,hl=>by
  have d:¬(j:Int) < (ps.length:Int):=by omega
  refine ⟨ns,by omega,fun ks Bo jj hB hj=>?_⟩
  subst hj
  rcases hs with ⟨rfl,rfl,rfl⟩ | ⟨rfl,rfl,rfl⟩ | ⟨rfl,rfl,rfl⟩
  all_goals
   simp only [List.length_cons,List.length_nil,Nat.zero_add,Nat.add_zero,Nat.reduceAdd,List.cons_append,List.nil_append]
   unfold Loop at hB
   simp -implicitDefEqProofs only [go_sem,simprocAttr,Tryz.f41,loopOf] at hB
   subst hB
   rw [RL_eq]
   simp -implicitDefEqProofs only [go_sem,simprocAttr,d,locsR_cols,locsR_SLs,locsR_idx]
 | q+1,j,ns,hq,hl=>by
  have d:(j:Int) < (ps.length:Int):=by omega
  have h7:=next_id (i:=j) (n:=ps.length) (by omega) (by omega)
  obtain ⟨x,hx⟩:=some_at (l:=ps) (i:=j) (by omega)
  have hxb:=hp x (List.mem_of_getElem? hx)
  have gx:=at_get (ints_at hx)
  obtain ⟨c,hc⟩:=some_at (l:=cols) (i:=x.toNat) (by omega)
  have gc:=col_get hc
  rw [Int.toNat_of_nonneg hxb.1] at gc
  obtain ⟨ns',p1,ih⟩:=l_tb4 nm inm uq cols key cv kv g hs a is r i ps hp hpl q (j+1) (ns++[c.nm]) (by omega) (by simp;omega)
  refine ⟨ns',p1,fun ks Bo jj hB hj=>?_⟩
  subst hj
  have ih:=ih ks Bo _ hB rfl
  have sa:=SLs_app ns c.nm
  have rm:((ns.length+1)*17≤roomMax)=True:=eq_true (by unfold roomMax;omega)
  simp only [colC] at gc
  rcases hs with ⟨rfl,rfl,rfl⟩ | ⟨rfl,rfl,rfl⟩ | ⟨rfl,rfl,rfl⟩
  all_goals
   simp only [List.length_cons,List.length_nil,List.length_append,Nat.zero_add,Nat.add_zero,Nat.reduceAdd,List.cons_append,List.nil_append] at ih ⊢
   unfold Loop at hB
   simp -implicitDefEqProofs only [go_sem,simprocAttr,Tryz.f41,loopOf] at hB
   subst hB
   rw [RL_eq]
   simp -implicitDefEqProofs only [go_sem,simprocAttr,d,h7,gx,gc,sa,rm,SLs_len,locsR_cols,locsR_SLs,locsR_idx]
   exact ih
end
def IdxOk (is:List Idx) (m:Nat):Prop:=is.length≤m∧∀ x∈is,x.nm.length≤100∧x.cols.length≤2
section
variable {L:List Int}
theorem l_tb2 (nm:List UInt8) (cols:List Col) (hc:ColsOk cols 6) (key:List (List UInt8)) (cv kv:AV) (g:Heap) (hs:TbS cols key cv kv g) (r:Nat) (hr:r≤2):∀ (q i:Nat) (is:List Idx) (a B:Int),r=i+q→Gd L a B→(30*q:Int)≤B→IdxOk is i →
  ∃ (is':List Idx) (a':Int),a≤a'∧a'≤a+30*q∧IdxOk is' 2∧∀ (ks:List It) (Bo:Code) (ii:Int),Loop Tryz.f41 2 Bo→ii=(i:Int) →
  RL K (.run 41 1 (.code Bo::.lp Bo (some ([0,4,5,51,52],[])) (4+g.length)::.blk 2 (4+g.length)::ks) [(0,.ptr 0 0),(4,.ptr 1 0),(5,.ptr 2 0),(51,I (r:Int)),(52,I ii)] (.cells [LR L,I a]::ret5::.cells [.str nm,cv,kv,.nils,.own (3+g.length) is.length]::(g++[.rows 3 (is.map idxC) false]))) =
  R K (.run 41 1 ks [(4,.ptr 1 0),(5,.ptr 2 0)] (.cells [LR L,I a']::ret5::.cells [.str nm,cv,kv,.nils,.own (3+g.length) is'.length]::(g++[.rows 3 (is'.map idxC) false])))
 | 0,i,is,a,B,hq,hG,hB',hi=>by
  have d:¬(i:Int) < (r:Int):=by omega
  refine ⟨is,a,by omega,by omega,⟨by have:=hi.1;omega,hi.2⟩,fun ks Bo ii hB hii=>?_⟩
  subst hii
  rcases hs with ⟨rfl,rfl,rfl⟩ | ⟨rfl,rfl,rfl⟩ | ⟨rfl,rfl,rfl⟩
  all_goals
   simp only [List.length_cons,List.length_nil,Nat.zero_add,Nat.add_zero,Nat.reduceAdd,List.cons_append,List.nil_append]
   unfold Loop at hB
   simp -implicitDefEqProofs only [go_sem,simprocAttr,Tryz.f41,loopOf] at hB
   subst hB
   rw [RL_eq]
   simp -implicitDefEqProofs only [go_sem,simprocAttr,d,locsR_cols,locsR_SLs,locsR_idx]
 | q+1,i,is,a,B,hq,hG,hB',hi=>by
  have d:(i:Int) < (r:Int):=by omega
  have h7:=next_id (i:=i) (n:=r) (by omega) (by omega)
  obtain ⟨s,es,hsl⟩:=letter i (by omega)
  have w1:wrapI .i64 (97+(i:Int))=97+(i:Int):=wrap_id (by omega) (by omega)
  have hc1:=hc.pos
  have hc6:=hc.len
  have x1:=g_Flip hG (by omega) 2
  have G1:=hG.step (a+1) (B - 1) (by omega) (by omega)
  generalize (nextS L a 2==0)=uq at *
  obtain ⟨o,a1,p1,p2,p3,x2⟩:=g_Order G1 cols.length hc1 (by omega) (by omega)
  have G2:=G1.step a1 (B - 21) (by omega) (by omega)
  obtain ⟨b,hb1,hb2,hb3,hb4⟩:∃ b:Int,1≤b∧b≤2∧b≤(cols.length:Int)∧(if (cols.length:Int) < 2 then (cols.length:Int) else 2)=b:=by
   refine ⟨_,?_,?_,?_,rfl⟩<;>split<;>omega
  have x3:=g_Range G2 (by omega) 1 b (by omega) (by omega) (by omega)
  have b3:=range_bounds L a1 1 b (by omega) (by omega)
  obtain ⟨kk,hkk⟩:∃ k:Nat,rngS L a1 1 b=(k:Int):=⟨(rngS L a1 1 b).toNat,by omega⟩
  rw [hkk] at x3 b3
  have G3:=G2.step (a1+1) (B - 22) (by omega) (by omega)
  have hol:=p1.1
  obtain ⟨ns',n1,e4⟩:=l_tb4 (L:=L) nm (105::s) uq cols key cv kv g hs (a1+1) is (r:Int) (i:Int) (o.take kk) (fun x hx=>p1.2 x (List.mem_of_mem_take hx)) (by rw [List.length_take];omega) (o.take kk).length 0 [] (by omega) (by simp)
  have hlt:(o.take kk).length=kk:=by rw [List.length_take];omega
  rw [hlt] at e4
  have hadd:IdxOk (is++[⟨105::s,ns',uq⟩]) (i+1):=by
   refine ⟨by rw [List.length_append];have:=hi.1;simp;omega,fun x hx=>?_⟩
   rcases List.mem_append.1 hx with h | h
   ·exact hi.2 x h
   ·rw [List.mem_singleton] at h;subst h;exact ⟨by simp;omega,n1⟩
  obtain ⟨is',a',q1,q2,q3,ih⟩:=l_tb2 nm cols hc key cv kv g hs r hr q (i+1) (is++[⟨105::s,ns',uq⟩]) (a1+1) (B - 30) (by omega) (G3.step _ _ (by omega) (by omega)) (by omega) hadd
  refine ⟨is',a',by omega,by omega,q3,fun ks Bo ii hB hii=>?_⟩
  subst hii
  have ih:=ih ks Bo _ hB rfl
  have hil:=hi.1
  have ia:=idx_app is ⟨105::s,ns',uq⟩
  have rm:((is.length+1)*49≤roomMax)=True:=eq_true (by unfold roomMax;omega)
  have st:(1+s.length≤strMax)=True:=eq_true (by unfold strMax;omega)
  have g1:((kk:Int)≤(o.length:Int))=True:=eq_true (by omega)
  have g2:((0:Int)≤(kk:Int))=True:=eq_true (by omega)
  simp only [idxC] at ia
  rcases hs with ⟨rfl,rfl,rfl⟩ | ⟨rfl,rfl,rfl⟩ | ⟨rfl,rfl,rfl⟩
  all_goals
   simp only [List.length_cons,List.length_nil,List.length_append,Nat.zero_add,Nat.add_zero,Nat.reduceAdd,List.cons_append,List.nil_append,SLs_nil] at ih e4 ⊢
   unfold Loop at hB
   simp -implicitDefEqProofs only [go_sem,simprocAttr,Tryz.f41,loopOf] at hB
   subst hB
   rw [RL_eq]
   simp -implicitDefEqProofs only [go_sem,simprocAttr,d,h7,w1,es,st,x1,x2,x3,hb4,g1,g2,ints_take,allLen_ints,intsL,hlt,Int.toNat_natCast,Nat.sub_zero,List.length_map,locsR_cols,locsR_SLs,locsR_idx]
   rw [e4 _ _ 0 ?_ rfl]
   ·simp -implicitDefEqProofs only [go_sem,simprocAttr,h7,ia,rm,idxC,SLs_len,List.length_map,locsR_cols,locsR_SLs,locsR_idx]
    exact ih
   ·rfl
end
structure GenT (t:Tbl):Prop where
 nm:t.nm.length≤100
 cols:ColsOk t.cols 6
 key:t.key.length≤2
 keyIn:∀ n∈t.key,n∈t.cols.map (·.nm)
 fgn:t.fgn=[]
 idx:IdxOk t.idx 2
theorem cols_id:ColsOk [idCol] 1:=⟨by simp,by simp,by simp,by simp⟩
theorem idx_nil:IdxOk [] 0:=⟨by simp,by simp⟩
section
variable {L:List Int} {a B:Int}
theorem g_table (h:Gd L a B) (hB:200≤B) (nm:List UInt8) (hn:nm.length≤100):∃ (t:Tbl) (a':Int),R K (.call 41 [.ptr 0 0,.str nm] (St L a))=some (tblA t,St L a')∧a≤a'∧a'≤a+200∧GenT t∧t.nm=nm:=by
 have x0:=g_Flip h (by omega) 4
 have h1:=h.step (a+1) (B - 1) (by omega) (by omega)
 cases e0:nextS L a 4==0 with
 | false =>
  rw [e0] at x0
  have x1:=g_Range h1 (by omega) 0 4 (by omega) (by omega) (by omega)
  have b1:=range_bounds L (a+1) 0 4 (by omega) (by omega)
  have h2:=h1.step (a+1+1) (B - 2) (by omega) (by omega)
  obtain ⟨r,hr⟩:∃ k:Nat,rngS L (a+1) 0 4=(k:Int):=⟨(rngS L (a+1) 0 4).toNat,by omega⟩
  rw [hr] at x1 b1
  cases r with
  | zero =>
   have x2:=g_Next h2 (by omega) 3
   have b2:=next_bounds L (a+1+1) 3 (by omega) (by omega)
   obtain ⟨u,hu⟩:∃ k:Nat,nextS L (a+1+1) 3=(k:Int):=⟨(nextS L (a+1+1) 3).toNat,by omega⟩
   rw [hu] at x2 b2
   have h3:=h2.step (a+1+1+1) (B - 3) (by omega) (by omega)
   obtain ⟨is,a',q1,q2,q3,e2⟩:=l_tb2 (L:=L) nm [idCol] ⟨by simp,by simp,by simp,by simp⟩ [idB] _ _ _ (.inl ⟨rfl,rfl,rfl⟩) u (by omega) u 0 [] _ _ (by omega) h3 (by omega) idx_nil
   refine ⟨⟨nm,[idCol],[idB],[],is⟩,a',?_,by omega,by omega,⟨hn,⟨by simp,by simp,by simp,by simp⟩,by simp,by simp,rfl,q3⟩,rfl⟩
   simp only [SLs,List.length_nil,Nat.add_zero,List.nil_append,List.map_nil,List.map_cons,colC] at e2
   rw [call_41]
   simp -implicitDefEqProofs only [go_sem,simprocAttr,Tryz.f41,x0,x1]
   rw [RL_eq]
   simp -implicitDefEqProofs only [go_sem,simprocAttr,x2]
   rw [e2 _ _ 0 ?_ rfl]
   ·simp -implicitDefEqProofs only [go_sem,simprocAttr,tblC,locsR_idx,List.length_map,or_self]
    rfl
   ·rfl
  | succ r =>
   obtain ⟨s,es,hsl⟩:=letter 0 (by omega)
   rw [show (97+((0:Nat):Int))=97 from rfl] at es
   obtain ⟨c,a1,y1,q1,q2,q3⟩:=g_column h2 (by omega) (99::s)
   have h3:=h2.step a1 (B - 30) (by omega) (by omega)
   obtain ⟨cols,a2,p1,p2,p3,p4,e0⟩:=l_tb0 (L:=L) nm (r+1) (by omega) _ _ 3 (.inl ⟨rfl,rfl,rfl⟩) r 1 [idCol,c] a1 (B - 30) 2 (by omega) (by omega) h3 (by omega) (cols_id.add c (by rw [q3];simp;omega))
   have h4:=h3.step a2 (B - 130) (by omega) (by omega)
   have x2:=g_Next h4 (by omega) 3
   have b2:=next_bounds L a2 3 (by omega) (by omega)
   obtain ⟨u,hu⟩:∃ k:Nat,nextS L a2 3=(k:Int):=⟨(nextS L a2 3).toNat,by omega⟩
   rw [hu] at x2 b2
   have h5:=h4.step (a2+1) (B - 131) (by omega) (by omega)
   have hc6:ColsOk cols 6:=⟨by have:=p3.len;omega,p3.pos,p3.nm,p3.id⟩
   obtain ⟨is,a',w1,w2,w3,e2⟩:=l_tb2 (L:=L) nm cols hc6 [idB] _ _ _ (.inr (.inl ⟨rfl,rfl,rfl⟩)) u (by omega) u 0 [] _ _ (by omega) h5 (by omega) idx_nil
   refine ⟨⟨nm,cols,[idB],[],is⟩,a',?_,by omega,by omega,⟨hn,hc6,by simp,fun n hn=>by rw [List.mem_singleton] at hn;rw [hn];exact hc6.id,rfl,w3⟩,rfl⟩
   have st:(1+s.length≤strMax)=True:=eq_true (by unfold strMax;omega)
   have rm:(130≤roomMax)=True:=eq_true (by unfold roomMax;omega)
   have d:((0:Int) < (r:Int)+1)=True:=eq_true (by omega)
   have c1:(((r+1:Nat)):Int)=(r:Int)+1:=by omega
   simp only [List.length_nil,List.length_cons,Nat.zero_add,Nat.reduceAdd,Nat.add_zero,List.nil_append,List.cons_append,SLs,List.map_nil,List.map_cons,colC] at e2 e0 y1
   rw [c1] at x1
   simp only [c1] at e0
   rw [call_41]
   simp -implicitDefEqProofs only [go_sem,simprocAttr,Tryz.f41,x0,x1]
   rw [RL_eq]
   simp -implicitDefEqProofs only [go_sem,simprocAttr,d,es,st,rm,y1,colC,locsR_cols]
   rw [e0 _ _ 1 ?_ rfl]
   ·simp -implicitDefEqProofs only [go_sem,simprocAttr,x2,locsR_cols,List.length_map]
    rw [e2 _ _ 0 ?_ rfl]
    ·simp -implicitDefEqProofs only [go_sem,simprocAttr,tblC,locsR_idx,List.length_map,or_self]
     rfl
    ·rfl
   ·rfl
 | true =>
  rw [e0] at x0
  obtain ⟨x,hx,y0⟩:=g_Pick h1 (by omega) [2,3,1] (by decide) (by decide)
  have h1':=h1.step (a+1+1) (B - 2) (by omega) (by omega)
  have x1:=g_Range h1' (by omega) 0 4 (by omega) (by omega) (by omega)
  have b1:=range_bounds L (a+1+1) 0 4 (by omega) (by omega)
  have h2:=h1'.step (a+1+1+1) (B - 3) (by omega) (by omega)
  obtain ⟨r,hr⟩:∃ k:Nat,rngS L (a+1+1) 0 4=(k:Int):=⟨(rngS L (a+1+1) 0 4).toNat,by omega⟩
  rw [hr] at x1 b1
  obtain ⟨cols,a2,p1,p2,p3,p4,e0⟩:=l_tb0 (L:=L) nm r (by omega) _ _ 5 (.inr ⟨rfl,rfl,rfl⟩) r 0 [idCol,⟨kB,x,false,⟨0,0,[]⟩⟩] _ (B - 3) 2 (by omega) (by omega) h2 (by omega) (cols_id.add _ (by simp))
  have h4:=h2.step a2 (B - 130) (by omega) (by omega)
  have x2:=g_Next h4 (by omega) 3
  have b2:=next_bounds L a2 3 (by omega) (by omega)
  obtain ⟨u,hu⟩:∃ k:Nat,nextS L a2 3=(k:Int):=⟨(nextS L a2 3).toNat,by omega⟩
  rw [hu] at x2 b2
  have h5:=h4.step (a2+1) (B - 131) (by omega) (by omega)
  have hc6:ColsOk cols 6:=⟨by have:=p3.len;omega,p3.pos,p3.nm,p3.id⟩
  obtain ⟨is,a',w1,w2,w3,e2⟩:=l_tb2 (L:=L) nm cols hc6 [idB,kB] _ _ _ (.inr (.inr ⟨rfl,rfl,rfl⟩)) u (by omega) u 0 [] _ _ (by omega) h5 (by omega) idx_nil
  refine ⟨⟨nm,cols,[idB,kB],[],is⟩,a',?_,by omega,by omega,⟨hn,hc6,by simp,fun n hn=>p4 n (by simpa using hn),rfl,w3⟩,rfl⟩
  have rm:(130≤roomMax)=True:=eq_true (by unfold roomMax;omega)
  have rm2:(34≤roomMax)=True:=eq_true (by unfold roomMax;omega)
  simp only [List.length_nil,List.length_cons,Nat.zero_add,Nat.reduceAdd,Nat.add_zero,List.nil_append,List.cons_append,SLs,List.map_nil,List.map_cons,colC] at e2 e0 y0
  rw [call_41]
  simp -implicitDefEqProofs only [go_sem,simprocAttr,Tryz.f41,x0,y0,x1,rm,rm2]
  rw [e0 _ _ 0 ?_ rfl]
  ·simp -implicitDefEqProofs only [go_sem,simprocAttr,x2,locsR_cols,List.length_map]
   rw [e2 _ _ 0 ?_ rfl]
   ·simp -implicitDefEqProofs only [go_sem,simprocAttr,tblC,locsR_idx,List.length_map,or_self]
    rfl
   ·rfl
  ·rfl
end
theorem locsR_tbls:∀ l:List Tbl,locsR (l.map tblC)=[]
 | []=>rfl
 | x::l=>by simpa [tblC,locsR,locsL,locs] using locsR_tbls l
theorem locsR_fgns:∀ l:List Fgn,locsR (l.map fgnC)=[]
 | []=>rfl
 | x::l=>by simpa [fgnC,locsR,locsL,locs] using locsR_fgns l
theorem allLen_tbls:∀ l:List Tbl,allLen 5 (l.map tblC)=true
 | []=>rfl
 | c::l=>by simpa [allLen,tblC] using allLen_tbls l
theorem allLen_fgns:∀ l:List Fgn,allLen 3 (l.map fgnC)=true
 | []=>rfl
 | c::l=>by simpa [allLen,fgnC] using allLen_fgns l
theorem allLen_idxs:∀ l:List Idx,allLen 3 (l.map idxC)=true
 | []=>rfl
 | c::l=>by simpa [allLen,idxC] using allLen_idxs l
theorem tbls_app (l:List Tbl) (c:Tbl):l.map tblC++[tblC c]=(l++[c]).map tblC:=by simp
theorem fgns_app (l:List Fgn) (c:Fgn):l.map fgnC++[fgnC c]=(l++[c]).map fgnC:=by simp
theorem empty_map {α:Type} {f:α→List AV} {l:List α} (h:1≤l.length):(l.map f).isEmpty=false:=by
 cases l with
 | nil=>simp at h
 | cons a l=>rfl
theorem c_cloneT (x:List Tbl) (h:1≤x.length) (hl:x.length≤1000000):R K (.call 46 [.rows (x.map tblC)] [])=some (.own 0 x.length,[.rows 5 (x.map tblC) true]):=by
 have e:=empty_map (f:=tblC) h
 have rm:(x.length*113≤roomMax)=True:=eq_true (by unfold roomMax;omega)
 have d:(0 < x.length)=True:=eq_true (by omega)
 have hp:K.prim 46 [.rows (x.map tblC)]=none:=by
  cases x with
  | nil=>simp at h
  | cons a x=>rfl
 rw [call_46 hp]
 simp -implicitDefEqProofs only [go_sem,simprocAttr,Tryz.f46,e,rm,d,allLen_tbls,locsR_tbls,List.length_map,List.length_nil,Nat.zero_add,List.nil_append]
theorem c_cloneF (x:List Fgn) (h:1≤x.length) (hl:x.length≤1000000):R K (.call 48 [.rows (x.map fgnC)] [])=some (.own 0 x.length,[.rows 3 (x.map fgnC) false]):=by
 have e:=empty_map (f:=fgnC) h
 have rm:(x.length*57≤roomMax)=True:=eq_true (by unfold roomMax;omega)
 have d:(0 < x.length)=True:=eq_true (by omega)
 have hp:K.prim 48 [.rows (x.map fgnC)]=none:=by
  cases x with
  | nil=>simp at h
  | cons a x=>rfl
 rw [call_48 hp]
 simp -implicitDefEqProofs only [go_sem,simprocAttr,Tryz.f48,e,rm,d,allLen_fgns,locsR_fgns,List.length_map,List.length_nil,Nat.zero_add,List.nil_append]
theorem c_cloneF0:R K (.call 48 [.rows []] [])=some (.lit [],[]):=R_prim rfl
theorem c_cloneI (x:List Idx) (h:1≤x.length) (hl:x.length≤1000000):R K (.call 50 [.rows (x.map idxC)] [])=some (.own 0 x.length,[.rows 3 (x.map idxC) false]):=by
 have e:=empty_map (f:=idxC) h
 have rm:(x.length*49≤roomMax)=True:=eq_true (by unfold roomMax;omega)
 have d:(0 < x.length)=True:=eq_true (by omega)
 have hp:K.prim 50 [.rows (x.map idxC)]=none:=by
  cases x with
  | nil=>simp at h
  | cons a x=>rfl
 rw [call_50 hp]
 simp -implicitDefEqProofs only [go_sem,simprocAttr,Tryz.f50,e,rm,d,allLen_idxs,locsR_idx,List.length_map,List.length_nil,Nat.zero_add,List.nil_append]
theorem c_cloneI0:R K (.call 50 [.rows []] [])=some (.lit [],[]):=R_prim rfl
theorem c_cloneC (x:List Col) (h:1≤x.length) (hl:x.length≤1000000):R K (.call 49 [.rows (x.map colC)] [])=some (.own 0 x.length,[.rows 6 (x.map colC) true]):=by
 have e:=empty_map (f:=colC) h
 have rm:(x.length*65≤roomMax)=True:=eq_true (by unfold roomMax;omega)
 have d:(0 < x.length)=True:=eq_true (by omega)
 have hp:K.prim 49 [.rows (x.map colC)]=none:=by
  cases x with
  | nil=>simp at h
  | cons a x=>rfl
 rw [call_49 hp]
 simp -implicitDefEqProofs only [go_sem,simprocAttr,Tryz.f49,e,rm,d,allLen_cols,locsR_cols,List.length_map,List.length_nil,Nat.zero_add,List.nil_append]
def Tbls (m:Nat) (x:List Tbl):Prop:=x.length=m∧∀ t∈x,GenT t
section
variable {L:List Int}
theorem l_sc0 (n:Nat) (hn:n≤3):∀ (q j:Nat) (x:List Tbl) (a B:Int),n=j+q→Gd L a B→(200*q:Int)≤B→Tbls j x →
  ∃ (x':List Tbl) (a':Int),a≤a'∧a'≤a+200*q∧Tbls n x'∧∀ (ks:List It) (Bo:Code) (jj:Int),Loop Tryz.f14 0 Bo→jj=(j:Int) →
  RL K (.run 14 1 (.code Bo::.lp Bo (some ([0,2,3,16,17],[])) 4::.blk 0 4::ks) [(0,.ptr 0 0),(2,.ptr 1 0),(3,.ptr 2 0),(16,I (n:Int)),(17,I jj)] [.cells [LR L,I a],.cells [.nils],.cells [.own 3 x.length],.rows 5 (x.map tblC) false]) =
  R K (.run 14 1 ks [(0,.ptr 0 0),(2,.ptr 1 0),(3,.ptr 2 0)] [.cells [LR L,I a'],.cells [.nils],.cells [.own 3 x'.length],.rows 5 (x'.map tblC) false])
 | 0,j,x,a,B,hq,hG,hB',hx=>by
  have d:¬(j:Int) < (n:Int):=by omega
  refine ⟨x,a,by omega,by omega,⟨by have:=hx.1;omega,hx.2⟩,fun ks Bo jj hB hj=>?_⟩
  subst hj
  unfold Loop at hB
  simp -implicitDefEqProofs only [go_sem,simprocAttr,Tryz.f14,loopOf] at hB
  subst hB
  rw [RL_eq]
  simp -implicitDefEqProofs only [go_sem,simprocAttr,d,locsR_tbls]
 | q+1,j,x,a,B,hq,hG,hB',hx=>by
  have d:(j:Int) < (n:Int):=by omega
  have h7:=next_id (i:=j) (n:=n) (by omega) (by omega)
  obtain ⟨s,es,hsl⟩:=letter j (by omega)
  have w1:wrapI .i64 (97+(j:Int))=97+(j:Int):=wrap_id (by omega) (by omega)
  obtain ⟨t,a1,x1,q1,q2,q3,q4⟩:=g_table hG (by omega) (116::s) (by simp;omega)
  obtain ⟨x',a',p1,p2,p3,ih⟩:=l_sc0 n hn q (j+1) (x++[t]) a1 (B - 200) (by omega) (hG.step _ _ (by omega) (by omega)) (by omega) ⟨by rw [List.length_append];have:=hx.1;simp;omega,fun u hu=>by
   rcases List.mem_append.1 hu with h | h
   ·exact hx.2 u h
   ·rw [List.mem_singleton] at h;rw [h];exact q3⟩
  refine ⟨x',a',by omega,by omega,p3,fun ks Bo jj hB hj=>?_⟩
  subst hj
  have ih:=ih ks Bo _ hB rfl
  have hxl:=hx.1
  have ta:=tbls_app x t
  have rm:((x.length+1)*113≤roomMax)=True:=eq_true (by unfold roomMax;omega)
  have st:(1+s.length≤strMax)=True:=eq_true (by unfold strMax;omega)
  simp only [List.length_append,List.length_cons,List.length_nil,Nat.zero_add,tblC] at ih x1 ta
  unfold Loop at hB
  simp -implicitDefEqProofs only [go_sem,simprocAttr,Tryz.f14,loopOf] at hB
  subst hB
  rw [RL_eq]
  simp -implicitDefEqProofs only [go_sem,simprocAttr,d,h7,w1,es,st,x1,ta,rm,tblC,locsR_tbls,allLen_tbls,List.length_map]
  exact ih
end
theorem k_43 (n:List UInt8) (c:Col):R K (.call 43 [colA c,.ptr 0 0] (nmH n))=some (.bool (c.nm==n),nmH n):=by
 rw [call_43]
 simp -implicitDefEqProofs only [go_sem,simprocAttr,Tryz.f43,colC]
theorem v_43 (n:List UInt8) (c:Col):callV nlA (R K) (nmH n) [colA c] (.fn 43 [.ptr 0 0])=some (.bool (c.nm==n),nmH n):=by
 have hk:=k_43 n c
 simp only [colA,colC] at hk ⊢
 simp -implicitDefEqProofs only [go_sem,simprocAttr,hk]
abbrev scH (L:List Int) (a:Int) (x:List Tbl) (u:Tbl) (fnm:List UInt8) (ns:List (List UInt8)):Heap:=[.cells [LR L,I a],.cells [.nils],.cells [.rows (x.map tblC)],.hole,.cells (tblC u),.cells [.str fnm,.own 6 ns.length,.str u.nm],.rows 1 (SLs ns) false]
section
variable {L:List Int}
theorem l_sc6 (x:List Tbl) (t u:Tbl) (fnm k:List UInt8) (kd r p w:Int) (htl:t.cols.length≤1000) (c0:Nat) (hc0:c0≤1000) (ns:List (List UInt8)) (hns:ns.length≤c0):∀ (q j:Nat) (a B:Int),t.cols.length=j+q→Gd L a B→(q:Int)≤B →
  ∃ (ns':List (List UInt8)) (a':Int),a≤a'∧a'≤a+q∧ns'.length≤c0+1∧∀ (ks:List It) (Bo:Code) (jj:Int),Loop Tryz.f14 6 Bo→jj=(j:Int) →
  RL K (.run 14 1 (.code Bo::.lp Bo (some ([0,2,3,5,6,7,10,34,35,67,68,69,85,86,87],[])) 8::.blk 6 8::ks) [(0,.ptr 0 0),(2,.ptr 1 0),(3,.ptr 2 0),(5,.rptr (tblC t) 0),(6,.ptr 4 0),(7,.ptr 5 0),(10,I kd),(34,I r),(35,I p),(67,.rows (SLs u.key)),(68,I (u.key.length:Int)),(69,I w),(85,.rows (t.cols.map colC)),(86,I (t.cols.length:Int)),(87,I jj)] (scH L a x u fnm ns++[.cells [.str k]])) =
  R K (.run 14 1 ks [(0,.ptr 0 0),(2,.ptr 1 0),(3,.ptr 2 0),(5,.rptr (tblC t) 0),(6,.ptr 4 0),(7,.ptr 5 0),(34,I r),(35,I p),(67,.rows (SLs u.key)),(68,I (u.key.length:Int)),(69,I w)] (scH L a' x u fnm ns'++[.cells [.str k]]))
 | 0,j,a,B,hq,hG,hB'=>by
  have d:¬(j:Int) < (t.cols.length:Int):=by omega
  refine ⟨ns,a,by omega,by omega,by omega,fun ks Bo jj hB hj=>?_⟩
  subst hj
  unfold Loop at hB
  simp -implicitDefEqProofs only [go_sem,simprocAttr,Tryz.f14,loopOf] at hB
  subst hB
  rw [RL_eq]
  simp -implicitDefEqProofs only [go_sem,simprocAttr,d,locsR_SLs,scH,tblC]
 | q+1,j,a,B,hq,hG,hB'=>by
  have d:(j:Int) < (t.cols.length:Int):=by omega
  have h7:=next_id (i:=j) (n:=t.cols.length) (by omega) (by omega)
  obtain ⟨c,hc⟩:=some_at (l:=t.cols) (i:=j) (by omega)
  have gc:=col_get hc
  have hcn:=c_contains c.nm ns (by omega)
  have rm:((ns.length+1)*17≤roomMax)=True:=eq_true (by unfold roomMax;omega)
  have sa:=SLs_app ns c.nm
  simp only [colC] at gc
  cases e1:(c.kd==kd) with
  | false =>
   obtain ⟨ns',a',p1,p2,p3,ih⟩:=l_sc6 x t u fnm k kd r p w htl c0 hc0 ns hns q (j+1) a B (by omega) hG (by omega)
   refine ⟨ns',a',p1,by omega,p3,fun ks Bo jj hB hj=>?_⟩
   subst hj
   have ih:=ih ks Bo _ hB rfl
   simp only [scH,tblC,List.cons_append,List.nil_append] at ih ⊢
   unfold Loop at hB
   simp -implicitDefEqProofs only [go_sem,simprocAttr,Tryz.f14,loopOf] at hB
   subst hB
   rw [RL_eq]
   simp -implicitDefEqProofs only [go_sem,simprocAttr,d,h7,gc,e1,colC,tblC,locsR_SLs]
   exact ih
  | true =>
   cases e2:ns.contains c.nm with
   | true =>
    rw [e2] at hcn
    obtain ⟨ns',a',p1,p2,p3,ih⟩:=l_sc6 x t u fnm k kd r p w htl c0 hc0 ns hns q (j+1) a B (by omega) hG (by omega)
    refine ⟨ns',a',p1,by omega,p3,fun ks Bo jj hB hj=>?_⟩
    subst hj
    have ih:=ih ks Bo _ hB rfl
    simp only [scH,tblC,List.cons_append,List.nil_append] at ih ⊢
    unfold Loop at hB
    simp -implicitDefEqProofs only [go_sem,simprocAttr,Tryz.f14,loopOf] at hB
    subst hB
    rw [RL_eq]
    simp -implicitDefEqProofs only [go_sem,simprocAttr,d,h7,gc,e1,hcn,SLs_len,colC,tblC,locsR_SLs]
    exact ih
   | false =>
    rw [e2] at hcn
    cases e3:(c.nm==[105,100]) with
    | false =>
     refine ⟨ns++[c.nm],a,by omega,by omega,by simp;omega,fun ks Bo jj hB hj=>?_⟩
     subst hj
     simp only [scH,tblC,List.cons_append,List.nil_append,List.length_append,List.length_cons,List.length_nil,Nat.zero_add]
     unfold Loop at hB
     simp -implicitDefEqProofs only [go_sem,simprocAttr,Tryz.f14,loopOf] at hB
     subst hB
     rw [RL_eq]
     simp -implicitDefEqProofs only [go_sem,simprocAttr,d,h7,gc,e1,e3,hcn,rm,sa,bne,SLs_len,colC,tblC,locsR_SLs]
    | true =>
     have x0:=g_Flip hG (by omega) 6
     cases e4:nextS L a 6==0 with
     | true =>
      rw [e4] at x0
      refine ⟨ns++[c.nm],a+1,by omega,by omega,by simp;omega,fun ks Bo jj hB hj=>?_⟩
      subst hj
      simp only [scH,tblC,List.cons_append,List.nil_append,List.length_append,List.length_cons,List.length_nil,Nat.zero_add]
      unfold Loop at hB
      simp -implicitDefEqProofs only [go_sem,simprocAttr,Tryz.f14,loopOf] at hB
      subst hB
      rw [RL_eq]
      simp -implicitDefEqProofs only [go_sem,simprocAttr,d,h7,gc,e1,e3,x0,hcn,rm,sa,bne,SLs_len,colC,tblC,locsR_SLs]
     | false =>
      rw [e4] at x0
      obtain ⟨ns',a',p1,p2,p3,ih⟩:=l_sc6 x t u fnm k kd r p w htl c0 hc0 ns hns q (j+1) (a+1) (B - 1) (by omega) (hG.step _ _ (by omega) (by omega)) (by omega)
      refine ⟨ns',a',by omega,by omega,p3,fun ks Bo jj hB hj=>?_⟩
      subst hj
      have ih:=ih ks Bo _ hB rfl
      simp only [scH,tblC,List.cons_append,List.nil_append] at ih ⊢
      unfold Loop at hB
      simp -implicitDefEqProofs only [go_sem,simprocAttr,Tryz.f14,loopOf] at hB
      subst hB
      rw [RL_eq]
      simp -implicitDefEqProofs only [go_sem,simprocAttr,d,h7,gc,e1,e3,x0,hcn,bne,SLs_len,colC,tblC,locsR_SLs]
      exact ih
theorem l_sc4 (x:List Tbl) (t u:Tbl) (fnm:List UInt8) (r p:Int) (htl:t.cols.length≤1000) (hul:u.cols.length≤1000) (hul2:u.key.length≤100) (hK:∀ n∈u.key,n∈u.cols.map (·.nm)):∀ (q j:Nat) (ns:List (List UInt8)) (a B:Int),u.key.length=j+q→Gd L a B→(1000*q:Int)≤B→ns.length≤j →
  ∃ (ns':List (List UInt8)) (a':Int),a≤a'∧a'≤a+1000*q∧ns'.length≤u.key.length∧∀ (ks:List It) (Bo:Code) (jj:Int),Loop Tryz.f14 4 Bo→jj=(j:Int) →
  RL K (.run 14 1 (.code Bo::.lp Bo (some ([0,2,3,5,6,7,34,35,67,68,69],[])) 7::.blk 4 7::ks) [(0,.ptr 0 0),(2,.ptr 1 0),(3,.ptr 2 0),(5,.rptr (tblC t) 0),(6,.ptr 4 0),(7,.ptr 5 0),(34,I r),(35,I p),(67,.rows (SLs u.key)),(68,I (u.key.length:Int)),(69,I jj)] (scH L a x u fnm ns)) =
  R K (.run 14 1 ks [(0,.ptr 0 0),(2,.ptr 1 0),(3,.ptr 2 0),(5,.rptr (tblC t) 0),(7,.ptr 5 0),(34,I r),(35,I p)] (scH L a' x u fnm ns'))
 | 0,j,ns,a,B,hq,hG,hB',hn=>by
  have d:¬(j:Int) < (u.key.length:Int):=by omega
  refine ⟨ns,a,by omega,by omega,by omega,fun ks Bo jj hB hj=>?_⟩
  subst hj
  unfold Loop at hB
  simp -implicitDefEqProofs only [go_sem,simprocAttr,Tryz.f14,loopOf] at hB
  subst hB
  rw [RL_eq]
  simp -implicitDefEqProofs only [go_sem,simprocAttr,d,locsR_SLs,scH,tblC]
 | q+1,j,ns,a,B,hq,hG,hB',hn=>by
  have d:(j:Int) < (u.key.length:Int):=by omega
  have h7:=next_id (i:=j) (n:=u.key.length) (by omega) (by omega)
  obtain ⟨k,hk⟩:=some_at (l:=u.key) (i:=j) (by omega)
  have gk:=str_get hk
  have hm:=hK k (List.mem_of_getElem? hk)
  have hnot:¬ixN k (u.cols.map (·.nm)) 0 < 0:=by
   intro h
   rcases ixN_ge k (u.cols.map (·.nm)) 0 with h1 | h1
   ·exact (ixN_mem k (u.cols.map (·.nm)) 0).1 h1 hm
   ·omega
  obtain ⟨b,cc,hb,hcc⟩:=ixN_col (t:=u) hnot
  have gc:=col_get hcc
  have hi:=c_ixCol (.fn 43 [.ptr 0 0]) (nmH k) k (nmH_fits k) u.cols (by omega) (v_43 k)
  rw [hb] at hi
  obtain ⟨ns1,a1,p1,p2,p3,e6⟩:=l_sc6 (L:=L) x t u fnm k cc.kd r p (j:Int) htl j (by omega) ns hn t.cols.length 0 a B (by omega) hG (by omega)
  obtain ⟨ns',a',q1,q2,q3,ih⟩:=l_sc4 x t u fnm r p htl hul hul2 hK q (j+1) ns1 a1 (B - 1000) (by omega) (hG.step _ _ (by omega) (by omega)) (by omega) p3
  refine ⟨ns',a',by omega,by omega,q3,fun ks Bo jj hB hj=>?_⟩
  subst hj
  have ih:=ih ks Bo _ hB rfl
  simp only [nmH] at hi
  simp only [colC] at gc
  simp only [scH,tblC,List.cons_append,List.nil_append] at ih e6 ⊢
  unfold Loop at hB
  simp -implicitDefEqProofs only [go_sem,simprocAttr,Tryz.f14,loopOf] at hB
  subst hB
  rw [RL_eq]
  simp -implicitDefEqProofs only [go_sem,simprocAttr,d,h7,gk,gc,hi,colC,tblC,locsR_SLs,List.length_map]
  rw [e6 _ _ 0 ?_ rfl]
  ·simp -implicitDefEqProofs only [go_sem,simprocAttr,h7,locsR_SLs]
   exact ih
  ·rfl
end
structure SzT (t:Tbl) (m:Nat):Prop where
 nm:t.nm.length≤100
 c1:1≤t.cols.length
 cl:t.cols.length≤6
 cn:∀ c∈t.cols,c.nm.length≤100
 key:t.key.length≤2
 fl:t.fgn.length≤m
 fg:∀ f∈t.fgn,f.nm.length≤100∧f.cols.length≤2
 il:t.idx.length≤m+2
 ix:∀ f∈t.idx,f.nm.length≤100∧f.cols.length≤2
theorem SzT.more {t:Tbl} {m m':Nat} (h:SzT t m) (e:m≤m'):SzT t m':=⟨h.nm,h.c1,h.cl,h.cn,h.key,by have:=h.fl;omega,h.fg,by have:=h.il;omega,h.ix⟩
structure SzX (x:List Tbl) (m:Nat):Prop where
 l1:1≤x.length
 l3:x.length≤3
 tbl:∀ t∈x,SzT t m
theorem SzX.fit {x:List Tbl} {m:Nat} (h:SzX x m) (hm:m≤1000):FitX x:=by
 refine ⟨by have:=h.l3;omega,fun t ht=>?_⟩
 have s:=h.tbl t ht
 exact ⟨by have:=s.nm;omega,by have:=s.cl;omega,by have:=s.key;omega,by have:=s.fl;omega,by have:=s.il;omega,
  fun c hc=>by have:=s.cn c hc;omega,fun f hf=>by have:=s.fg f hf;exact ⟨by omega,by omega⟩,fun f hf=>by have:=s.ix f hf;exact ⟨by omega,by omega⟩⟩
theorem SzX.set {x:List Tbl} {m:Nat} (h:SzX x m) (i:Nat) {t:Tbl} (ht:SzT t m):SzX (x.set i t) m:=by
 refine ⟨by rw [List.length_set];exact h.l1,by rw [List.length_set];exact h.l3,fun u hu=>?_⟩
 rcases List.mem_or_eq_of_mem_set hu with h1 | h1
 ·exact h.tbl u h1
 ·rw [h1];exact ht
theorem SzX.more {x:List Tbl} {m m':Nat} (h:SzX x m) (e:m≤m'):SzX x m':=⟨h.l1,h.l3,fun t ht=>(h.tbl t ht).more e⟩
def KeysIn (x:List Tbl):Prop:=∀ t∈x,∀ n∈t.key,n∈t.cols.map (·.nm)
theorem gen_sz {t:Tbl} (h:GenT t):SzT t 0:=⟨h.nm,h.cols.pos,h.cols.len,h.cols.nm,h.key,by rw [h.fgn];simp,by rw [h.fgn];simp,by have:=h.idx.1;omega,h.idx.2⟩
theorem set_tbl (x:List Tbl) (b:Nat) (nm:List UInt8) (cols:List Col) (key:List (List UInt8)) (fgn:List Fgn) (idx:List Idx) :
  (x.map tblC).set b [.str nm,.rows (cols.map colC),.rows (SLs key),.rows (fgn.map fgnC),.rows (idx.map idxC)]=(x.set b ⟨nm,cols,key,fgn,idx⟩).map tblC:=by
 rw [List.map_set]
 rfl
section
variable {L:List Int}
theorem l_sc2 (r:Nat) (hr:r≤3):∀ (q j:Nat) (x:List Tbl) (a B:Int),r=j+q→Gd L a B→(10000*q:Int)≤B→SzX x j→KeysIn x →
  ∃ (x':List Tbl) (a':Int),a≤a'∧a'≤a+10000*q∧SzX x' 3∧∀ (ks:List It) (Bo:Code) (jj:Int),Loop Tryz.f14 2 Bo→jj=(j:Int) →
  RL K (.run 14 1 (.code Bo::.lp Bo (some ([0,2,3,34,35],[])) 4::.blk 2 4::ks) [(0,.ptr 0 0),(2,.ptr 1 0),(3,.ptr 2 0),(34,I (r:Int)),(35,I jj)] [.cells [LR L,I a],.cells [.nils],.cells [.rows (x.map tblC)],.hole]) =
  R K (.run 14 1 ks [(2,.ptr 1 0),(3,.ptr 2 0)] [.cells [LR L,I a'],.cells [.nils],.cells [.rows (x'.map tblC)],.hole])
 | 0,j,x,a,B,hq,hG,hB',hx,hK=>by
  have d:¬(j:Int) < (r:Int):=by omega
  refine ⟨x,a,by omega,by omega,hx.more (by omega),fun ks Bo jj hB hj=>?_⟩
  subst hj
  unfold Loop at hB
  simp -implicitDefEqProofs only [go_sem,simprocAttr,Tryz.f14,loopOf] at hB
  subst hB
  rw [RL_eq]
  simp -implicitDefEqProofs only [go_sem,simprocAttr,d]
 | q+1,j,x,a,B,hq,hG,hB',hx,hK=>by
  have d:(j:Int) < (r:Int):=by omega
  have h7:=next_id (i:=j) (n:=r) (by omega) (by omega)
  have hl1:=hx.l1
  have hl3:=hx.l3
  have x0:=g_Next hG (by omega) (x.length:Int)
  have b0:=next_bounds L a (x.length:Int) (by omega) (by omega)
  obtain ⟨i,hi⟩:∃ k:Nat,nextS L a (x.length:Int)=(k:Int):=⟨(nextS L a (x.length:Int)).toNat,by omega⟩
  rw [hi] at x0 b0
  have G1:=hG.step (a+1) (B - 1) (by omega) (by omega)
  have x1:=g_Next G1 (by omega) (x.length:Int)
  have b1:=next_bounds L (a+1) (x.length:Int) (by omega) (by omega)
  obtain ⟨k,hk⟩:∃ k:Nat,nextS L (a+1) (x.length:Int)=(k:Int):=⟨(nextS L (a+1) (x.length:Int)).toNat,by omega⟩
  rw [hk] at x1 b1
  have G2:=G1.step (a+1+1) (B - 2) (by omega) (by omega)
  obtain ⟨t,ht⟩:=some_at (l:=x) (i:=i) (by omega)
  obtain ⟨u,hu⟩:=some_at (l:=x) (i:=k) (by omega)
  have gt:=tbl_get ht
  have gu:=tbl_get hu
  have mt:=List.mem_of_getElem? ht
  have mu:=List.mem_of_getElem? hu
  have st:=hx.tbl t mt
  have su:=hx.tbl u mu
  have tfl:=st.fl
  have tcl:=st.cl
  have ucl:=su.cl
  have uk:=su.key
  obtain ⟨s,es,hsl⟩:=letter t.fgn.length (by omega)
  have w1:wrapI .i64 (97+(t.fgn.length:Int))=97+(t.fgn.length:Int):=wrap_id (by omega) (by omega)
  have sm:(1+s.length≤strMax)=True:=eq_true (by unfold strMax;omega)
  obtain ⟨ns,a1,p1,p2,p3,e4⟩:=l_sc4 (L:=L) x t u (102::s) (r:Int) (j:Int) (by omega) (by omega) (by omega) (hK u mu) u.key.length 0 [] (a+1+1) (B - 2) (by omega) G2 (by omega) (by simp)
  have G3:=G2.step a1 (B - 5000) (by omega) (by omega)
  have hnot:¬ixN t.nm (x.map (·.nm)) 0 < 0:=by
   intro h
   rcases ixN_ge t.nm (x.map (·.nm)) 0 with h1 | h1
   ·exact (ixN_mem t.nm (x.map (·.nm)) 0).1 h1 (List.mem_map.2 ⟨t,mt,rfl⟩)
   ·omega
  obtain ⟨b,v,hb,hv⟩:=ixN_tbl hnot
  have xt:=r_TableAt x t.nm (by omega)
  rw [hb] at xt
  have mv:=List.mem_of_getElem? hv
  have sv:=hx.tbl v mv
  have gv:=tbl_get hv
  have gv2:(x.map tblC)[b]? = some (tblC v):=by simp [hv]
  have cT:=c_cloneT x hl1 (by omega)
  have hN:SzX (x.set b ⟨v.nm,v.cols,v.key,t.fgn++[⟨102::s,ns,u.nm⟩],v.idx⟩) (j+1):=by
   refine (hx.more (by omega)).set b ⟨sv.nm,sv.c1,sv.cl,sv.cn,sv.key,by simp;omega,fun f hf=>?_,by have:=sv.il;show v.idx.length≤_;omega,sv.ix⟩
   rcases List.mem_append.1 hf with h | h
   ·exact st.fg f h
   ·rw [List.mem_singleton] at h;subst h;exact ⟨by simp;omega,by show ns.length≤2;omega⟩
  have hKN:KeysIn (x.set b ⟨v.nm,v.cols,v.key,t.fgn++[⟨102::s,ns,u.nm⟩],v.idx⟩):=by
   intro y hy
   rcases List.mem_or_eq_of_mem_set hy with h1 | h1
   ·exact hK y h1
   ·rw [h1];exact hK v mv
  have xF:=r_SchemaFault _ (hN.fit (by omega))
  have fa:=fgns_app t.fgn ⟨102::s,ns,u.nm⟩
  have se:=set_tbl x b v.nm v.cols v.key (t.fgn++[⟨102::s,ns,u.nm⟩]) v.idx
  have rm:((t.fgn.length+1)*57≤roomMax)=True:=eq_true (by unfold roomMax;omega)
  have rm1:(57≤roomMax)=True:=eq_true (by unfold roomMax;omega)
  have tb:((b:Int).toNat)=b:=Int.toNat_natCast b
  have c1:t.fgn=[]∨1≤t.fgn.length:=by
   cases t.fgn with
   | nil=>exact .inl rfl
   | cons a b=>exact .inr (by simp)
  simp only [tblC,fgnC] at gt gu gv gv2 fa
  simp only [scH,tblC,SLs_nil,List.length_nil] at e4
  have yl:(x.set b ⟨v.nm,v.cols,v.key,t.fgn++[⟨102::s,ns,u.nm⟩],v.idx⟩).length=x.length:=List.length_set
  generalize (x.set b ⟨v.nm,v.cols,v.key,t.fgn++[⟨102::s,ns,u.nm⟩],v.idx⟩)=y at *
  obtain ⟨x',a',q1,q2,q3,ih⟩:∃ (x':List Tbl) (a':Int),a1≤a'∧a'≤a1+10000*q∧SzX x' 3∧∀ (ks:List It) (Bo:Code) (jj:Int),Loop Tryz.f14 2 Bo→jj=((j+1:Nat):Int) →
    RL K (.run 14 1 (.code Bo::.lp Bo (some ([0,2,3,34,35],[])) 4::.blk 2 4::ks) [(0,.ptr 0 0),(2,.ptr 1 0),(3,.ptr 2 0),(34,I (r:Int)),(35,I jj)] [.cells [LR L,I a1],.cells [.nils],.cells [.rows ((if chkE y=0 then y else x).map tblC)],.hole]) =
    R K (.run 14 1 ks [(2,.ptr 1 0),(3,.ptr 2 0)] [.cells [LR L,I a'],.cells [.nils],.cells [.rows (x'.map tblC)],.hole]):=by
   split
   ·exact l_sc2 r hr q (j+1) y a1 (B - 10000) (by omega) (G3.step _ _ (by omega) (by omega)) (by omega) hN hKN
   ·exact l_sc2 r hr q (j+1) x a1 (B - 10000) (by omega) (G3.step _ _ (by omega) (by omega)) (by omega) (hx.more (by omega)) hK
  refine ⟨x',a',by omega,by omega,q3,fun ks Bo jj hB hj=>?_⟩
  subst hj
  have ih:=ih ks Bo _ hB rfl
  have e0:(chkE y==0)=decide (chkE y=0):=rfl
  rcases c1 with c1 | c1
  ·have es0:=es
   rw [c1] at es0 se
   rw [show (97+(([]:List Fgn).length:Int))=97 from rfl] at es0
   simp only [List.nil_append,List.map_cons,List.map_nil,fgnC] at se
   simp only [c1,List.map_nil] at e4 gt
   by_cases h0:chkE y=0
   ·rw [if_pos h0] at ih
    have d0:(chkE y==0)=true:=by simpa using h0
    unfold Loop at hB
    simp -implicitDefEqProofs only [go_sem,simprocAttr,Tryz.f14,loopOf] at hB
    subst hB
    rw [RL_eq]
    simp -implicitDefEqProofs only [go_sem,simprocAttr,d,h7,x0,x1,gt,gu,es0,sm,c1,List.length_nil,List.map_nil,tblC,fgnC,List.length_map,locsR_tbls]
    rw [e4 _ _ 0 ?_ rfl]
    ·simp -implicitDefEqProofs only [go_sem,simprocAttr,h7,tblC,fgnC,cT,xt,c_cloneF0,c1,List.length_nil,List.map_nil,gv,gv2,se,rm1,d0,xF,tb,yl,SLs_len,List.length_map,allLen_tbls,allLen_fgns,locsR_tbls,locsR_fgns,locsR_SLs,Nat.zero_add,Nat.one_mul,List.nil_append]
     exact ih
    ·rfl
   ·rw [if_neg h0] at ih
    have d0:(chkE y==0)=false:=by simpa using h0
    unfold Loop at hB
    simp -implicitDefEqProofs only [go_sem,simprocAttr,Tryz.f14,loopOf] at hB
    subst hB
    rw [RL_eq]
    simp -implicitDefEqProofs only [go_sem,simprocAttr,d,h7,x0,x1,gt,gu,es0,sm,c1,List.length_nil,List.map_nil,tblC,fgnC,List.length_map,locsR_tbls]
    rw [e4 _ _ 0 ?_ rfl]
    ·simp -implicitDefEqProofs only [go_sem,simprocAttr,h7,tblC,fgnC,cT,xt,c_cloneF0,c1,List.length_nil,List.map_nil,gv,gv2,se,rm1,d0,xF,tb,yl,SLs_len,List.length_map,allLen_tbls,allLen_fgns,locsR_tbls,locsR_fgns,locsR_SLs,Nat.zero_add,Nat.one_mul,List.nil_append]
     exact ih
    ·rfl
  ·have cF:=c_cloneF t.fgn c1 (by omega)
   by_cases h0:chkE y=0
   ·rw [if_pos h0] at ih
    have d0:(chkE y==0)=true:=by simpa using h0
    unfold Loop at hB
    simp -implicitDefEqProofs only [go_sem,simprocAttr,Tryz.f14,loopOf] at hB
    subst hB
    rw [RL_eq]
    simp -implicitDefEqProofs only [go_sem,simprocAttr,d,h7,x0,x1,gt,gu,es,w1,sm,tblC,fgnC,List.length_map,locsR_tbls]
    rw [e4 _ _ 0 ?_ rfl]
    ·simp -implicitDefEqProofs only [go_sem,simprocAttr,h7,tblC,fgnC,cT,xt,cF,gv,gv2,fa,se,rm,d0,xF,tb,yl,SLs_len,List.length_map,allLen_tbls,allLen_fgns,locsR_tbls,locsR_fgns,locsR_SLs]
     exact ih
    ·rfl
   ·rw [if_neg h0] at ih
    have d0:(chkE y==0)=false:=by simpa using h0
    unfold Loop at hB
    simp -implicitDefEqProofs only [go_sem,simprocAttr,Tryz.f14,loopOf] at hB
    subst hB
    rw [RL_eq]
    simp -implicitDefEqProofs only [go_sem,simprocAttr,d,h7,x0,x1,gt,gu,es,w1,sm,tblC,fgnC,List.length_map,locsR_tbls]
    rw [e4 _ _ 0 ?_ rfl]
    ·simp -implicitDefEqProofs only [go_sem,simprocAttr,h7,tblC,fgnC,cT,xt,cF,gv,gv2,fa,se,rm,d0,xF,tb,yl,SLs_len,List.length_map,allLen_tbls,allLen_fgns,locsR_tbls,locsR_fgns,locsR_SLs]
     exact ih
    ·rfl
theorem g_Schema {a B:Int} (h:Gd L a B) (hB:50000≤B):∃ (x:List Tbl) (a':Int),R K (.call 14 [.ptr 0 0] (St L a))=some (schC x,St L a')∧a≤a'∧a'≤a+50000∧SzX x 3:=by
 have x0:=g_Range h (by omega) 1 3 (by omega) (by omega) (by omega)
 have b0:=range_bounds L a 1 3 (by omega) (by omega)
 obtain ⟨n,hn⟩:∃ k:Nat,rngS L a 1 3=(k:Int):=⟨(rngS L a 1 3).toNat,by omega⟩
 rw [hn] at x0 b0
 have h1:=h.step (a+1) (B - 1) (by omega) (by omega)
 obtain ⟨x,a1,p1,p2,p3,e0⟩:=l_sc0 (L:=L) n (by omega) n 0 [] (a+1) (B - 1) (by omega) h1 (by omega) ⟨rfl,by simp⟩
 have h2:=h1.step a1 (B - 1000) (by omega) (by omega)
 have x1:=g_Next h2 (by omega) 4
 have b1:=next_bounds L a1 4 (by omega) (by omega)
 obtain ⟨r,hr⟩:∃ k:Nat,nextS L a1 4=(k:Int):=⟨(nextS L a1 4).toNat,by omega⟩
 rw [hr] at x1 b1
 have h3:=h2.step (a1+1) (B - 1001) (by omega) (by omega)
 have hxl:=p3.1
 obtain ⟨x',a',q1,q2,q3,e2⟩:=l_sc2 (L:=L) r (by omega) r 0 x (a1+1) (B - 1001) (by omega) h3 (by omega) ⟨by omega,by omega,fun t ht=>gen_sz (p3.2 t ht)⟩ (fun t ht=>(p3.2 t ht).keyIn)
 refine ⟨x',a',?_,by omega,by omega,q3⟩
 simp only [List.length_nil,List.map_nil] at e0
 rw [call_14]
 simp -implicitDefEqProofs only [go_sem,simprocAttr,Tryz.f14,x0]
 rw [e0 _ _ 0 ?_ rfl]
 ·simp -implicitDefEqProofs only [go_sem,simprocAttr,x1,locsR_tbls,List.length_map]
  rw [e2 _ _ 0 ?_ rfl]
  ·simp -implicitDefEqProofs only [go_sem,simprocAttr]
  ·rfl
 ·rfl
end
theorem leave_all {f:List AV→Option (List AV)} (hf:∀ u:Tbl,f (tblC u)=some (tblC u)):∀ x:List Tbl,leaveRows f (x.map tblC)=some (x.map tblC)
 | []=>rfl
 | v::x=>by
  simp only [List.map_cons,leaveRows,hf]
  rw [leave_all hf x]
  simp [tblC,locsL,locs,singles,single]
theorem leave_rows {f:List AV→Option (List AV)} {RO:List AV} {t:Tbl} (hf:∀ u:Tbl,f (tblC u)=some (tblC u)) (hR:f RO=some (tblC t)) (hl:RO.length=5):∀ (x:List Tbl) (i:Nat),i < x.length→leaveRows f ((x.map tblC).set i RO)=some ((x.set i t).map tblC)
 | [],i,h=>by simp at h
 | u::x,0,_=>by
  simp only [List.map_cons,List.set_cons_zero,leaveRows,hR,leave_all hf x]
  rw [if_pos ⟨rfl,by rw [hl];rfl,rfl⟩]
 | u::x,i+1,h=>by
  have ih:=leave_rows hf hR hl x i (by simpa using h)
  simp only [List.map_cons,List.set_cons_succ,leaveRows,hf]
  rw [ih]
  simp [tblC,locsL,locs,singles,single]
theorem locs_set {RO:List AV} {l:Nat} (hl:l∈locsL RO):∀ (x:List Tbl) (i:Nat),i < x.length→locsR ((x.map tblC).set i RO)≠[]
 | [],i,h=>by simp at h
 | u::x,0,_=>by
  intro e
  simp only [List.map_cons,List.set_cons_zero,locsR,List.append_eq_nil_iff] at e
  rw [e.1] at hl
  simp at hl
 | u::x,i+1,h=>by
  intro e
  simp only [List.map_cons,List.set_cons_succ,locsR,List.append_eq_nil_iff] at e
  exact locs_set hl x i (by simpa using h) e.2
theorem leave_one (x:List Tbl) (i:Nat) (hi:i < x.length) (nm:List UInt8) (cols:List Col) (key:List (List UInt8)) (fgn:List Fgn) (idx:List Idx) (h:Heap) (h4:h[4]? = some (.rows 6 (cols.map colC) true)) :
  (if locsR ((x.map tblC).set i [.str nm,.own 4 cols.length,.rows (SLs key),.rows (fgn.map fgnC),.rows (idx.map idxC)])=[] then some ((x.map tblC).set i [.str nm,.own 4 cols.length,.rows (SLs key),.rows (fgn.map fgnC),.rows (idx.map idxC)]) else leaveRows (leaveGL (orRows (leaveRows (leaveGL (orRows fun _=>none) false 1 h))) false 1 h) ((x.map tblC).set i [.str nm,.own 4 cols.length,.rows (SLs key),.rows (fgn.map fgnC),.rows (idx.map idxC)])) =
  some ((x.set i ⟨nm,cols,key,fgn,idx⟩).map tblC):=by
 rw [if_neg (locs_set (l:=4) (by simp [locsL,locs]) x i hi)]
 refine leave_rows (f:=leaveGL (orRows (leaveRows (leaveGL (orRows fun _=>none) false 1 h))) false 1 h) (RO:=[.str nm,.own 4 cols.length,.rows (SLs key),.rows (fgn.map fgnC),.rows (idx.map idxC)]) (fun u=>rfl) ?_ rfl x i hi
 simp only [leaveGL,leaveG,h4,List.length_map,orRows,locsR_cols,if_true,tblC]
 simp
theorem at_0 {α:Type} (a:α) (l:List α):at? (a::l) 0=some a:=rfl
theorem at_1 {α:Type} (a b:α) (l:List α):at? (a::b::l) 1=some b:=rfl
theorem at_2 {α:Type} (a b c:α) (l:List α):at? (a::b::c::l) 2=some c:=rfl
theorem at_3 {α:Type} (a b c d:α) (l:List α):at? (a::b::c::d::l) 3=some d:=rfl
theorem cols_set (l:List Col) (j:Nat) (c:Col):(l.map colC).set j [.str c.nm,.int .i64 c.kd,.bool c.nl,.int .i64 c.df.k,.int .i64 c.df.n,.str c.df.s]=(l.set j c).map colC:=by
 rw [List.map_set]
 rfl
section
variable {L:List Int} {a B:Int}
set_option maxHeartbeats 4000000 in
theorem g_Spoiled (h:Gd L a B) (hB:1000≤B) (x:List Tbl) (m:Nat) (hm:m≤100) (hx:SzX x m):∃ (x':List Tbl) (a':Int),R K (.call 15 [.ptr 0 0,schC x] (St L a))=some (schC x',St L a')∧a≤a'∧a'≤a+1000∧SzX x' (m+1):=by
 have h1:=hx.l1
 have hl3:=hx.l3
 have cT:=c_cloneT x h1 (by omega)
 have x0:=g_Next h (by omega) (x.length:Int)
 have b0:=next_bounds L a (x.length:Int) (by omega) (by omega)
 obtain ⟨i,hi⟩:∃ k:Nat,nextS L a (x.length:Int)=(k:Int):=⟨(nextS L a (x.length:Int)).toNat,by omega⟩
 rw [hi] at x0 b0
 have hil:i < x.length:=by omega
 obtain ⟨t,ht⟩:=some_at (l:=x) (i:=i) (by omega)
 have st:=hx.tbl t (List.mem_of_getElem? ht)
 have gt:=tbl_get ht
 have gt2:(x.map tblC)[i]? = some (tblC t):=by simp [ht]
 have h2:=h.step (a+1) (B - 1) (by omega) (by omega)
 have x1:=g_Next h2 (by omega) 8
 have b1:=next_bounds L (a+1) 8 (by omega) (by omega)
 have h3:=h2.step (a+1+1) (B - 2) (by omega) (by omega)
 have z:((x.length:Int)==0)=false:=by rw [←Bool.not_eq_true,beq_iff_eq];omega
 have tc1:=st.c1
 have tcl:=st.cl
 have cC:=c_cloneC t.cols tc1 (by omega)
 have gs:∀ R,((x.map tblC).set i R)[i]? = some R:=fun R=>by rw [List.getElem?_set_self (by rw [List.length_map];exact hil)]
 have ss:∀ R R',((x.map tblC).set i R).set i R'=(x.map tblC).set i R':=fun R R'=>List.set_set ..
 have ls:∀ R,((x.map tblC).set i R).length=x.length:=fun R=>by rw [List.length_set,List.length_map]
 have lv:=leave_one x i hil
 have SZ:∀ t',SzT t' (m+1)→SzX (x.set i t') (m+1):=fun t' ht'=>(hx.more (by omega)).set i ht'
 have s2:=st.more (Nat.le_succ m)
 simp only [tblC] at gt gt2
 generalize nextS L (a+1) 8=c at *
 have c8:c=0∨c=1∨c=2∨c=3∨c=4∨c=5∨c=6∨c=7:=by omega
 rcases c8 with rfl | rfl | rfl | rfl | rfl | rfl | rfl | rfl
 ·have x2:=g_Next h3 (by omega) 6
  obtain ⟨s,hs,hg⟩:=str_at (l:=[[],[116,97],[116,98],[84],[116,95],[95,116]]) (next_bounds L (a+1+1) 6 (by omega) (by omega))
  have hsl:s.length≤5:=(by decide:∀ x∈([[],[116,97],[116,98],[84],[116,95],[95,116]]:List (List UInt8)),x.length≤5) s hs
  simp only [List.map] at hg
  refine ⟨x.set i ⟨s,t.cols,t.key,t.fgn,t.idx⟩,a+1+1+1,?_,by omega,by omega,SZ _ ⟨by show s.length≤100;omega,s2.c1,s2.cl,s2.cn,s2.key,s2.fl,s2.fg,s2.il,s2.ix⟩⟩
  rw [call_15]
  simp -implicitDefEqProofs only [go_sem,simprocAttr,Tryz.f15,z,cT,x0,x1,x2,hg,gt,gt2,gs,ss,ls,lv,cC,tblC,Int.toNat_natCast,List.length_map,locsR_tbls,locsR_cols,true_or,at_0,at_1,at_2,at_3]
 ·have x2:=g_Next h3 (by omega) 4
  have b2:=next_bounds L (a+1+1) 4 (by omega) (by omega)
  generalize nextS L (a+1+1) 4=d at *
  have d4:d=0∨d=1∨d=2∨d=3:=by omega
  rcases d4 with rfl | rfl | rfl | rfl
  ·refine ⟨x.set i ⟨t.nm,t.cols,[],t.fgn,t.idx⟩,a+1+1+1,?_,by omega,by omega,SZ _ ⟨s2.nm,s2.c1,s2.cl,s2.cn,by simp,s2.fl,s2.fg,s2.il,s2.ix⟩⟩
   have lv:=lv t.nm t.cols [] t.fgn t.idx
   rw [SLs_nil] at lv
   rw [call_15]
   simp -implicitDefEqProofs only [go_sem,simprocAttr,Tryz.f15,z,cT,x0,x1,x2,gt,gt2,gs,ss,ls,lv,cC,tblC,Int.toNat_natCast,List.length_map,locsR_tbls,locsR_cols,true_or,at_0,at_1,at_2,at_3]
  ·refine ⟨x.set i ⟨t.nm,t.cols,[[105,100],[105,100]],t.fgn,t.idx⟩,a+1+1+1,?_,by omega,by omega,SZ _ ⟨s2.nm,s2.c1,s2.cl,s2.cn,by simp,s2.fl,s2.fg,s2.il,s2.ix⟩⟩
   have lv:=lv t.nm t.cols [[105,100],[105,100]] t.fgn t.idx
   simp only [SLs,List.map_cons,List.map_nil] at lv
   rw [call_15]
   simp -implicitDefEqProofs only [go_sem,simprocAttr,Tryz.f15,z,cT,x0,x1,x2,gt,gt2,gs,ss,ls,lv,cC,tblC,Int.toNat_natCast,List.length_map,locsR_tbls,locsR_cols,true_or,at_0,at_1,at_2,at_3]
  ·refine ⟨x.set i ⟨t.nm,t.cols,[[122,122]],t.fgn,t.idx⟩,a+1+1+1,?_,by omega,by omega,SZ _ ⟨s2.nm,s2.c1,s2.cl,s2.cn,by simp,s2.fl,s2.fg,s2.il,s2.ix⟩⟩
   have lv:=lv t.nm t.cols [[122,122]] t.fgn t.idx
   simp only [SLs,List.map_cons,List.map_nil] at lv
   rw [call_15]
   simp -implicitDefEqProofs only [go_sem,simprocAttr,Tryz.f15,z,cT,x0,x1,x2,gt,gt2,gs,ss,ls,lv,cC,tblC,Int.toNat_natCast,List.length_map,locsR_tbls,locsR_cols,true_or,at_0,at_1,at_2,at_3]
  ·refine ⟨x.set i ⟨t.nm,t.cols,[[99,97]],t.fgn,t.idx⟩,a+1+1+1,?_,by omega,by omega,SZ _ ⟨s2.nm,s2.c1,s2.cl,s2.cn,by simp,s2.fl,s2.fg,s2.il,s2.ix⟩⟩
   have lv:=lv t.nm t.cols [[99,97]] t.fgn t.idx
   simp only [SLs,List.map_cons,List.map_nil] at lv
   rw [call_15]
   simp -implicitDefEqProofs only [go_sem,simprocAttr,Tryz.f15,z,cT,x0,x1,x2,gt,gt2,gs,ss,ls,lv,cC,tblC,Int.toNat_natCast,List.length_map,locsR_tbls,locsR_cols,true_or,at_0,at_1,at_2,at_3]
 ·have x2:=g_Next h3 (by omega) (t.cols.length:Int)
  have b2:=next_bounds L (a+1+1) (t.cols.length:Int) (by omega) (by omega)
  obtain ⟨j,hj⟩:∃ k:Nat,nextS L (a+1+1) (t.cols.length:Int)=(k:Int):=⟨(nextS L (a+1+1) (t.cols.length:Int)).toNat,by omega⟩
  rw [hj] at x2 b2
  have h4:=h3.step (a+1+1+1) (B - 3) (by omega) (by omega)
  have x3:=g_Range h4 (by omega) (-1) 5 (by omega) (by omega) (by omega)
  obtain ⟨e,he⟩:=some_at (l:=t.cols) (i:=j) (by omega)
  have ge:=col_get he
  have ge2:(t.cols.map colC)[j]? = some (colC e):=by simp [he]
  generalize rngS L (a+1+1+1) (-1) 5=kd at *
  have cs:=cols_set t.cols j { e with kd:=kd }
  have lv:=lv t.nm (t.cols.set j { e with kd:=kd }) t.key t.fgn t.idx
  simp only [List.length_set] at lv
  have me:=List.mem_of_getElem? he
  simp only [colC] at ge ge2 cs
  refine ⟨x.set i ⟨t.nm,t.cols.set j { e with kd:=kd },t.key,t.fgn,t.idx⟩,a+1+1+1+1,?_,by omega,by omega,SZ _ ⟨s2.nm,by rw [List.length_set];exact s2.c1,by rw [List.length_set];exact s2.cl,fun c hc=>by
   rcases List.mem_or_eq_of_mem_set hc with h1 | h1
   ·exact s2.cn c h1
   ·rw [h1];exact s2.cn e me,s2.key,s2.fl,s2.fg,s2.il,s2.ix⟩⟩
  rw [call_15]
  simp -implicitDefEqProofs only [go_sem,simprocAttr,Tryz.f15,z,cT,x0,x1,x2,x3,ge,ge2,cs,gt,gt2,gs,ss,ls,lv,cC,tblC,colC,Int.toNat_natCast,List.length_map,locsR_tbls,locsR_cols,true_or,at_0,at_1,at_2,at_3]
 ·have x2:=g_Next h3 (by omega) (t.cols.length:Int)
  have b2:=next_bounds L (a+1+1) (t.cols.length:Int) (by omega) (by omega)
  obtain ⟨j,hj⟩:∃ k:Nat,nextS L (a+1+1) (t.cols.length:Int)=(k:Int):=⟨(nextS L (a+1+1) (t.cols.length:Int)).toNat,by omega⟩
  rw [hj] at x2 b2
  have h4:=h3.step (a+1+1+1) (B - 3) (by omega) (by omega)
  obtain ⟨e,he⟩:=some_at (l:=t.cols) (i:=j) (by omega)
  have ge:=col_get he
  have ge2:(t.cols.map colC)[j]? = some (colC e):=by simp [he]
  have me:=List.mem_of_getElem? he
  have x3:=g_Next h4 (by omega) 4
  obtain ⟨s,hs,hg⟩:=str_at (l:=[[],[105,100],[99,97],[65]]) (next_bounds L (a+1+1+1) 4 (by omega) (by omega))
  have hsl:s.length≤5:=(by decide:∀ x∈([[],[105,100],[99,97],[65]]:List (List UInt8)),x.length≤5) s hs
  simp only [List.map] at hg
  have cs:=cols_set t.cols j { e with nm:=s }
  have lv:=lv t.nm (t.cols.set j { e with nm:=s }) t.key t.fgn t.idx
  simp only [List.length_set] at lv
  simp only [colC] at ge ge2 cs
  refine ⟨x.set i ⟨t.nm,t.cols.set j { e with nm:=s },t.key,t.fgn,t.idx⟩,a+1+1+1+1,?_,by omega,by omega,SZ _ ⟨s2.nm,by rw [List.length_set];exact s2.c1,by rw [List.length_set];exact s2.cl,fun c hc=>by
   rcases List.mem_or_eq_of_mem_set hc with h1 | h1
   ·exact s2.cn c h1
   ·rw [h1];show s.length≤100;omega,s2.key,s2.fl,s2.fg,s2.il,s2.ix⟩⟩
  rw [call_15]
  simp -implicitDefEqProofs only [go_sem,simprocAttr,Tryz.f15,z,cT,x0,x1,x2,x3,hg,ge,ge2,cs,gt,gt2,gs,ss,ls,lv,cC,tblC,colC,Int.toNat_natCast,List.length_map,locsR_tbls,locsR_cols,true_or,at_0,at_1,at_2,at_3]
 ·obtain ⟨e,he⟩:=some_at (l:=t.cols) (i:=0) (by omega)
  have ge:=col_get he
  have ge2:(t.cols.map colC)[0]? = some (colC e):=by simp [he]
  have me:=List.mem_of_getElem? he
  have cs:=cols_set t.cols 0 { e with nl:=true }
  have lv:=lv t.nm (t.cols.set 0 { e with nl:=true }) t.key t.fgn t.idx
  simp only [List.length_set] at lv
  have z0:at? (t.cols.map colC) 0=some (colC e):=ge
  simp only [colC] at z0 ge2 cs
  refine ⟨x.set i ⟨t.nm,t.cols.set 0 { e with nl:=true },t.key,t.fgn,t.idx⟩,a+1+1,?_,by omega,by omega,SZ _ ⟨s2.nm,by rw [List.length_set];exact s2.c1,by rw [List.length_set];exact s2.cl,fun c hc=>by
   rcases List.mem_or_eq_of_mem_set hc with h1 | h1
   ·exact s2.cn c h1
   ·rw [h1];exact s2.cn e me,s2.key,s2.fl,s2.fg,s2.il,s2.ix⟩⟩
  rw [call_15]
  simp -implicitDefEqProofs only [go_sem,simprocAttr,Tryz.f15,z,cT,x0,x1,z0,ge2,cs,gt,gt2,gs,ss,ls,lv,cC,tblC,colC,Int.toNat_natCast,List.length_map,locsR_tbls,locsR_cols,true_or,at_0,at_1,at_2,at_3]
 ·have c1:t.idx=[]∨1≤t.idx.length:=by
   cases t.idx with
   | nil=>exact .inl rfl
   | cons a b=>exact .inr (by simp)
  have til:=st.il
  have rm:((t.idx.length+1)*49≤roomMax)=True:=eq_true (by unfold roomMax;omega)
  have rm1:(49≤roomMax)=True:=eq_true (by unfold roomMax;omega)
  have x2:=g_Next h3 (by omega) 3
  obtain ⟨s,hs,hg⟩:=str_at (l:=[[105,97],[122],[65]]) (next_bounds L (a+1+1) 3 (by omega) (by omega))
  have hsl:s.length≤5:=(by decide:∀ x∈([[105,97],[122],[65]]:List (List UInt8)),x.length≤5) s hs
  simp only [List.map] at hg
  have h4:=h3.step (a+1+1+1) (B - 3) (by omega) (by omega)
  have x3:=g_Next h4 (by omega) 4
  have b3:=next_bounds L (a+1+1+1) 4 (by omega) (by omega)
  generalize nextS L (a+1+1+1) 4=d at *
  generalize nextS L (a+1+1) 3=d0 at *
  have d4:d=0∨d=1∨d=2∨d=3:=by omega
  have key:∀ ns:List (List UInt8),ns.length≤2→SzX (x.set i ⟨t.nm,t.cols,t.key,t.fgn,t.idx++[⟨s,ns,false⟩]⟩) (m+1):=fun ns hn=>SZ _ ⟨s2.nm,s2.c1,s2.cl,s2.cn,s2.key,s2.fl,s2.fg,by show (t.idx++_).length≤_;simp;omega,fun f hf=>by
   rcases List.mem_append.1 hf with h | h
   ·exact s2.ix f h
   ·rw [List.mem_singleton] at h;subst h;exact ⟨by show s.length≤100;omega,hn⟩⟩
  rcases d4 with rfl | rfl | rfl | rfl
  ·refine ⟨x.set i ⟨t.nm,t.cols,t.key,t.fgn,t.idx++[⟨s,[],false⟩]⟩,a+1+1+1+1,?_,by omega,by omega,key _ (by simp)⟩
   have lv:=lv t.nm t.cols t.key t.fgn (t.idx++[⟨s,[],false⟩])
   have ia:=idx_app t.idx ⟨s,[],false⟩
   simp only [idxC,SLs,List.map_cons,List.map_nil] at ia
   rcases c1 with c1 | c1
   ·rw [c1] at lv
    simp only [List.nil_append,List.map_cons,List.map_nil,idxC,SLs] at lv
    simp only [c1,List.map_nil] at gt gt2
    simp only [c1]
    rw [call_15]
    simp -implicitDefEqProofs only [go_sem,simprocAttr,Tryz.f15,z,cT,x0,x1,x2,x3,hg,rm1,c_cloneI0,c1,gt,gt2,gs,ss,ls,lv,cC,tblC,idxC,Int.toNat_natCast,List.length_map,List.map_nil,List.length_nil,List.nil_append,Nat.zero_add,Nat.one_mul,locsR_tbls,locsR_cols,true_or,at_0,at_1,at_2,at_3]
   ·have cI:=c_cloneI t.idx c1 (by omega)
    rw [call_15]
    simp -implicitDefEqProofs only [go_sem,simprocAttr,Tryz.f15,z,cT,x0,x1,x2,x3,hg,rm,cI,ia,gt,gt2,gs,ss,ls,lv,cC,tblC,idxC,Int.toNat_natCast,List.length_map,locsR_tbls,locsR_cols,locsR_idx,allLen_idxs,true_or,at_0,at_1,at_2,at_3]
  ·refine ⟨x.set i ⟨t.nm,t.cols,t.key,t.fgn,t.idx++[⟨s,[[105,100]],false⟩]⟩,a+1+1+1+1,?_,by omega,by omega,key _ (by simp)⟩
   have lv:=lv t.nm t.cols t.key t.fgn (t.idx++[⟨s,[[105,100]],false⟩])
   have ia:=idx_app t.idx ⟨s,[[105,100]],false⟩
   simp only [idxC,SLs,List.map_cons,List.map_nil] at ia
   rcases c1 with c1 | c1
   ·rw [c1] at lv
    simp only [List.nil_append,List.map_cons,List.map_nil,idxC,SLs] at lv
    simp only [c1,List.map_nil] at gt gt2
    simp only [c1]
    rw [call_15]
    simp -implicitDefEqProofs only [go_sem,simprocAttr,Tryz.f15,z,cT,x0,x1,x2,x3,hg,rm1,c_cloneI0,c1,gt,gt2,gs,ss,ls,lv,cC,tblC,idxC,Int.toNat_natCast,List.length_map,List.map_nil,List.length_nil,List.nil_append,Nat.zero_add,Nat.one_mul,locsR_tbls,locsR_cols,true_or,at_0,at_1,at_2,at_3]
   ·have cI:=c_cloneI t.idx c1 (by omega)
    rw [call_15]
    simp -implicitDefEqProofs only [go_sem,simprocAttr,Tryz.f15,z,cT,x0,x1,x2,x3,hg,rm,cI,ia,gt,gt2,gs,ss,ls,lv,cC,tblC,idxC,Int.toNat_natCast,List.length_map,locsR_tbls,locsR_cols,locsR_idx,allLen_idxs,true_or,at_0,at_1,at_2,at_3]
  ·refine ⟨x.set i ⟨t.nm,t.cols,t.key,t.fgn,t.idx++[⟨s,[[122,122]],false⟩]⟩,a+1+1+1+1,?_,by omega,by omega,key _ (by simp)⟩
   have lv:=lv t.nm t.cols t.key t.fgn (t.idx++[⟨s,[[122,122]],false⟩])
   have ia:=idx_app t.idx ⟨s,[[122,122]],false⟩
   simp only [idxC,SLs,List.map_cons,List.map_nil] at ia
   rcases c1 with c1 | c1
   ·rw [c1] at lv
    simp only [List.nil_append,List.map_cons,List.map_nil,idxC,SLs] at lv
    simp only [c1,List.map_nil] at gt gt2
    simp only [c1]
    rw [call_15]
    simp -implicitDefEqProofs only [go_sem,simprocAttr,Tryz.f15,z,cT,x0,x1,x2,x3,hg,rm1,c_cloneI0,c1,gt,gt2,gs,ss,ls,lv,cC,tblC,idxC,Int.toNat_natCast,List.length_map,List.map_nil,List.length_nil,List.nil_append,Nat.zero_add,Nat.one_mul,locsR_tbls,locsR_cols,true_or,at_0,at_1,at_2,at_3]
   ·have cI:=c_cloneI t.idx c1 (by omega)
    rw [call_15]
    simp -implicitDefEqProofs only [go_sem,simprocAttr,Tryz.f15,z,cT,x0,x1,x2,x3,hg,rm,cI,ia,gt,gt2,gs,ss,ls,lv,cC,tblC,idxC,Int.toNat_natCast,List.length_map,locsR_tbls,locsR_cols,locsR_idx,allLen_idxs,true_or,at_0,at_1,at_2,at_3]
  ·refine ⟨x.set i ⟨t.nm,t.cols,t.key,t.fgn,t.idx++[⟨s,[[105,100],[105,100]],false⟩]⟩,a+1+1+1+1,?_,by omega,by omega,key _ (by simp)⟩
   have lv:=lv t.nm t.cols t.key t.fgn (t.idx++[⟨s,[[105,100],[105,100]],false⟩])
   have ia:=idx_app t.idx ⟨s,[[105,100],[105,100]],false⟩
   simp only [idxC,SLs,List.map_cons,List.map_nil] at ia
   rcases c1 with c1 | c1
   ·rw [c1] at lv
    simp only [List.nil_append,List.map_cons,List.map_nil,idxC,SLs] at lv
    simp only [c1,List.map_nil] at gt gt2
    simp only [c1]
    rw [call_15]
    simp -implicitDefEqProofs only [go_sem,simprocAttr,Tryz.f15,z,cT,x0,x1,x2,x3,hg,rm1,c_cloneI0,c1,gt,gt2,gs,ss,ls,lv,cC,tblC,idxC,Int.toNat_natCast,List.length_map,List.map_nil,List.length_nil,List.nil_append,Nat.zero_add,Nat.one_mul,locsR_tbls,locsR_cols,true_or,at_0,at_1,at_2,at_3]
   ·have cI:=c_cloneI t.idx c1 (by omega)
    rw [call_15]
    simp -implicitDefEqProofs only [go_sem,simprocAttr,Tryz.f15,z,cT,x0,x1,x2,x3,hg,rm,cI,ia,gt,gt2,gs,ss,ls,lv,cC,tblC,idxC,Int.toNat_natCast,List.length_map,locsR_tbls,locsR_cols,locsR_idx,allLen_idxs,true_or,at_0,at_1,at_2,at_3]
 ·have c1:t.fgn=[]∨1≤t.fgn.length:=by
   cases t.fgn with
   | nil=>exact .inl rfl
   | cons a b=>exact .inr (by simp)
  have til:=st.fl
  have rm:((t.fgn.length+1)*57≤roomMax)=True:=eq_true (by unfold roomMax;omega)
  have rm1:(57≤roomMax)=True:=eq_true (by unfold roomMax;omega)
  have x2:=g_Next h3 (by omega) 2
  obtain ⟨s,hs,hg⟩:=str_at (l:=[[102,97],[122]]) (next_bounds L (a+1+1) 2 (by omega) (by omega))
  have hsl:s.length≤5:=(by decide:∀ x∈([[102,97],[122]]:List (List UInt8)),x.length≤5) s hs
  simp only [List.map] at hg
  have h4:=h3.step (a+1+1+1) (B - 3) (by omega) (by omega)
  have x3:=g_Next h4 (by omega) 2
  obtain ⟨s',hs',hg'⟩:=str_at (l:=[[116,97],[122,122]]) (next_bounds L (a+1+1+1) 2 (by omega) (by omega))
  simp only [List.map] at hg'
  have h5:=h4.step (a+1+1+1+1) (B - 4) (by omega) (by omega)
  have x4:=g_Next h5 (by omega) 3
  have b4:=next_bounds L (a+1+1+1+1) 3 (by omega) (by omega)
  generalize nextS L (a+1+1+1+1) 3=d at *
  generalize nextS L (a+1+1+1) 2=d1 at *
  generalize nextS L (a+1+1) 2=d0 at *
  have d4:d=0∨d=1∨d=2:=by omega
  have key:∀ ns:List (List UInt8),ns.length≤2→SzX (x.set i ⟨t.nm,t.cols,t.key,t.fgn++[⟨s,ns,s'⟩],t.idx⟩) (m+1):=fun ns hn=>SZ _ ⟨s2.nm,s2.c1,s2.cl,s2.cn,s2.key,by show (t.fgn++_).length≤_;simp;omega,fun f hf=>by
   rcases List.mem_append.1 hf with h | h
   ·exact s2.fg f h
   ·rw [List.mem_singleton] at h;subst h;exact ⟨by show s.length≤100;omega,hn⟩,s2.il,s2.ix⟩
  rcases d4 with rfl | rfl | rfl
  ·refine ⟨x.set i ⟨t.nm,t.cols,t.key,t.fgn++[⟨s,[],s'⟩],t.idx⟩,a+1+1+1+1+1,?_,by omega,by omega,key _ (by simp)⟩
   have lv:=lv t.nm t.cols t.key (t.fgn++[⟨s,[],s'⟩]) t.idx
   have ia:=fgns_app t.fgn ⟨s,[],s'⟩
   simp only [fgnC,SLs,List.map_cons,List.map_nil] at ia
   rcases c1 with c1 | c1
   ·rw [c1] at lv
    simp only [List.nil_append,List.map_cons,List.map_nil,fgnC,SLs] at lv
    simp only [c1,List.map_nil] at gt gt2
    simp only [c1]
    rw [call_15]
    simp -implicitDefEqProofs only [go_sem,simprocAttr,Tryz.f15,z,cT,x0,x1,x2,x3,x4,hg,hg',rm1,c_cloneF0,c1,gt,gt2,gs,ss,ls,lv,cC,tblC,fgnC,Int.toNat_natCast,List.length_map,List.map_nil,List.length_nil,List.nil_append,Nat.zero_add,Nat.one_mul,locsR_tbls,locsR_cols,true_or,at_0,at_1,at_2,at_3]
   ·have cF:=c_cloneF t.fgn c1 (by omega)
    rw [call_15]
    simp -implicitDefEqProofs only [go_sem,simprocAttr,Tryz.f15,z,cT,x0,x1,x2,x3,x4,hg,hg',rm,cF,ia,gt,gt2,gs,ss,ls,lv,cC,tblC,fgnC,Int.toNat_natCast,List.length_map,locsR_tbls,locsR_cols,locsR_fgns,allLen_fgns,true_or,at_0,at_1,at_2,at_3]
  ·refine ⟨x.set i ⟨t.nm,t.cols,t.key,t.fgn++[⟨s,[[105,100]],s'⟩],t.idx⟩,a+1+1+1+1+1,?_,by omega,by omega,key _ (by simp)⟩
   have lv:=lv t.nm t.cols t.key (t.fgn++[⟨s,[[105,100]],s'⟩]) t.idx
   have ia:=fgns_app t.fgn ⟨s,[[105,100]],s'⟩
   simp only [fgnC,SLs,List.map_cons,List.map_nil] at ia
   rcases c1 with c1 | c1
   ·rw [c1] at lv
    simp only [List.nil_append,List.map_cons,List.map_nil,fgnC,SLs] at lv
    simp only [c1,List.map_nil] at gt gt2
    simp only [c1]
    rw [call_15]
    simp -implicitDefEqProofs only [go_sem,simprocAttr,Tryz.f15,z,cT,x0,x1,x2,x3,x4,hg,hg',rm1,c_cloneF0,c1,gt,gt2,gs,ss,ls,lv,cC,tblC,fgnC,Int.toNat_natCast,List.length_map,List.map_nil,List.length_nil,List.nil_append,Nat.zero_add,Nat.one_mul,locsR_tbls,locsR_cols,true_or,at_0,at_1,at_2,at_3]
   ·have cF:=c_cloneF t.fgn c1 (by omega)
    rw [call_15]
    simp -implicitDefEqProofs only [go_sem,simprocAttr,Tryz.f15,z,cT,x0,x1,x2,x3,x4,hg,hg',rm,cF,ia,gt,gt2,gs,ss,ls,lv,cC,tblC,fgnC,Int.toNat_natCast,List.length_map,locsR_tbls,locsR_cols,locsR_fgns,allLen_fgns,true_or,at_0,at_1,at_2,at_3]
  ·refine ⟨x.set i ⟨t.nm,t.cols,t.key,t.fgn++[⟨s,[[99,97]],s'⟩],t.idx⟩,a+1+1+1+1+1,?_,by omega,by omega,key _ (by simp)⟩
   have lv:=lv t.nm t.cols t.key (t.fgn++[⟨s,[[99,97]],s'⟩]) t.idx
   have ia:=fgns_app t.fgn ⟨s,[[99,97]],s'⟩
   simp only [fgnC,SLs,List.map_cons,List.map_nil] at ia
   rcases c1 with c1 | c1
   ·rw [c1] at lv
    simp only [List.nil_append,List.map_cons,List.map_nil,fgnC,SLs] at lv
    simp only [c1,List.map_nil] at gt gt2
    simp only [c1]
    rw [call_15]
    simp -implicitDefEqProofs only [go_sem,simprocAttr,Tryz.f15,z,cT,x0,x1,x2,x3,x4,hg,hg',rm1,c_cloneF0,c1,gt,gt2,gs,ss,ls,lv,cC,tblC,fgnC,Int.toNat_natCast,List.length_map,List.map_nil,List.length_nil,List.nil_append,Nat.zero_add,Nat.one_mul,locsR_tbls,locsR_cols,true_or,at_0,at_1,at_2,at_3]
   ·have cF:=c_cloneF t.fgn c1 (by omega)
    rw [call_15]
    simp -implicitDefEqProofs only [go_sem,simprocAttr,Tryz.f15,z,cT,x0,x1,x2,x3,x4,hg,hg',rm,cF,ia,gt,gt2,gs,ss,ls,lv,cC,tblC,fgnC,Int.toNat_natCast,List.length_map,locsR_tbls,locsR_cols,locsR_fgns,allLen_fgns,true_or,at_0,at_1,at_2,at_3]
 ·have x2:=g_Next h3 (by omega) (t.cols.length:Int)
  have b2:=next_bounds L (a+1+1) (t.cols.length:Int) (by omega) (by omega)
  obtain ⟨j,hj⟩:∃ k:Nat,nextS L (a+1+1) (t.cols.length:Int)=(k:Int):=⟨(nextS L (a+1+1) (t.cols.length:Int)).toNat,by omega⟩
  rw [hj] at x2 b2
  have h4:=h3.step (a+1+1+1) (B - 3) (by omega) (by omega)
  obtain ⟨e,he⟩:=some_at (l:=t.cols) (i:=j) (by omega)
  have ge:=col_get he
  have ge2:(t.cols.map colC)[j]? = some (colC e):=by simp [he]
  have me:=List.mem_of_getElem? he
  obtain ⟨v,a1,x3,q1,q2,_⟩:=g_Any h4 (by omega)
  have cs:=cols_set t.cols j { e with df:=v }
  have lv:=lv t.nm (t.cols.set j { e with df:=v }) t.key t.fgn t.idx
  simp only [List.length_set] at lv
  simp only [colC] at ge ge2 cs
  simp only [enc] at x3
  refine ⟨x.set i ⟨t.nm,t.cols.set j { e with df:=v },t.key,t.fgn,t.idx⟩,a1,?_,by omega,by omega,SZ _ ⟨s2.nm,by rw [List.length_set];exact s2.c1,by rw [List.length_set];exact s2.cl,fun c hc=>by
   rcases List.mem_or_eq_of_mem_set hc with h1 | h1
   ·exact s2.cn c h1
   ·rw [h1];exact s2.cn e me,s2.key,s2.fl,s2.fg,s2.il,s2.ix⟩⟩
  rw [call_15]
  simp -implicitDefEqProofs only [go_sem,simprocAttr,Tryz.f15,z,cT,x0,x1,x2,x3,ge,ge2,cs,gt,gt2,gs,ss,ls,lv,cC,tblC,colC,Int.toNat_natCast,List.length_map,locsR_tbls,locsR_cols,true_or,at_0,at_1,at_2,at_3]
end
section
variable {L:List Int}
theorem l_loose (n:Nat) (hn:n≤2):∀ (q j:Nat) (x:List Tbl) (a B:Int),n=j+q→Gd L a B→(1000*q:Int)≤B→SzX x (3+j) →
  ∃ (x':List Tbl) (a':Int),a≤a'∧a'≤a+1000*q∧SzX x' 5∧∀ (ks:List It) (Bo:Code) (jj:Int),Loop Tryz.f4 0 Bo→jj=(j:Int) →
  RL K (.run 4 1 (.code Bo::.lp Bo (some ([0,2,3,8,9],[])) 3::.blk 0 3::ks) [(0,.ptr 0 0),(2,.ptr 1 0),(3,.ptr 2 0),(8,I (n:Int)),(9,I jj)] [.cells [LR L,I a],.cells [.nils],.cells [.rows (x.map tblC)]]) =
  R K (.run 4 1 ks [(2,.ptr 1 0),(3,.ptr 2 0)] [.cells [LR L,I a'],.cells [.nils],.cells [.rows (x'.map tblC)]])
 | 0,j,x,a,B,hq,hG,hB',hx=>by
  have d:¬(j:Int) < (n:Int):=by omega
  refine ⟨x,a,by omega,by omega,hx.more (by omega),fun ks Bo jj hB hj=>?_⟩
  subst hj
  unfold Loop at hB
  simp -implicitDefEqProofs only [go_sem,simprocAttr,Tryz.f4,loopOf] at hB
  subst hB
  rw [RL_eq]
  simp -implicitDefEqProofs only [go_sem,simprocAttr,d]
 | q+1,j,x,a,B,hq,hG,hB',hx=>by
  have d:(j:Int) < (n:Int):=by omega
  have h7:=next_id (i:=j) (n:=n) (by omega) (by omega)
  obtain ⟨y,a1,x1,p1,p2,p3⟩:=g_Spoiled hG (by omega) x (3+j) (by omega) hx
  obtain ⟨x',a',q1,q2,q3,ih⟩:=l_loose n hn q (j+1) y a1 (B - 1000) (by omega) (hG.step _ _ (by omega) (by omega)) (by omega) p3
  refine ⟨x',a',by omega,by omega,q3,fun ks Bo jj hB hj=>?_⟩
  subst hj
  have ih:=ih ks Bo _ hB rfl
  unfold Loop at hB
  simp -implicitDefEqProofs only [go_sem,simprocAttr,Tryz.f4,loopOf] at hB
  subst hB
  rw [RL_eq]
  simp -implicitDefEqProofs only [go_sem,simprocAttr,d,h7,x1]
  exact ih
theorem g_loose {a B:Int} (h:Gd L a B) (hB:100000≤B):∃ (x:List Tbl) (a':Int),R K (.call 4 [.ptr 0 0] (St L a))=some (schC x,St L a')∧SzX x 5∧a≤a'∧a'≤a+60000:=by
 obtain ⟨x,a1,x1,p1,p2,p3⟩:=g_Schema h (by omega)
 have h1:=h.step a1 (B - 50000) (by omega) (by omega)
 obtain ⟨n,hn,y⟩:=g_Pick h1 (by omega) [0,0,1,1,2] (by decide) (by decide)
 have hb:0≤n∧n≤2:=(by decide:∀ x∈([0,0,1,1,2]:List Int),0≤x∧x≤2) n hn
 obtain ⟨k,rfl⟩:∃ k:Nat,n=(k:Int):=⟨n.toNat,by omega⟩
 have h2:=h1.step (a1+1) (B - 50001) (by omega) (by omega)
 obtain ⟨x',a',q1,q2,q3,e⟩:=l_loose (L:=L) k (by omega) k 0 x (a1+1) (B - 50001) (by omega) h2 (by omega) p3
 simp only [List.map] at y
 refine ⟨x',a',?_,q3,by omega,by omega⟩
 rw [call_4]
 simp -implicitDefEqProofs only [go_sem,simprocAttr,Tryz.f4,x1,y]
 rw [e _ _ 0 ?_ rfl]
 ·simp -implicitDefEqProofs only [go_sem,simprocAttr]
 ·rfl
end
theorem l_Equal (l:List (List UInt8)) (hl:l.length≤1000000) (ks:List It):∀ (q j:Nat) (i:Int) (Bo:Code),Loop Tryz.f35 0 Bo→i=(j:Int)→l.length=j+q →
  RL K (.run 35 0 (.code Bo::.lp Bo (some ([0,1,12,13],[])) 0::.blk 0 0::ks) [(0,.rows (SLs l)),(1,.rows (SLs l)),(12,I (l.length:Int)),(13,I i)] []) =
  R K (.run 35 0 ks [] [])
 | 0,j,i,Bo,hB,hi,hq=>by
  subst hi
  have d:¬(j:Int) < (l.length:Int):=by omega
  unfold Loop at hB
  simp -implicitDefEqProofs only [go_sem,simprocAttr,Tryz.f35,loopOf] at hB
  subst hB
  rw [RL_eq]
  simp -implicitDefEqProofs only [go_sem,simprocAttr,d]
 | q+1,j,i,Bo,hB,hi,hq=>by
  subst hi
  have hB':=hB
  have d:(j:Int) < (l.length:Int):=by omega
  have h7:=next_id (i:=j) (n:=l.length) (by omega) (by omega)
  obtain ⟨c,hc⟩:=some_at (l:=l) (i:=j) (by omega)
  have gc:=str_get hc
  have ih:=l_Equal l hl ks q (j+1) _ Bo hB' rfl (by omega)
  unfold Loop at hB
  simp -implicitDefEqProofs only [go_sem,simprocAttr,Tryz.f35,loopOf] at hB
  subst hB
  rw [RL_eq]
  simp -implicitDefEqProofs only [go_sem,simprocAttr,d,h7,gc,bne,beq_self_eq_true]
  exact ih
theorem c_Equal (l:List (List UInt8)) (hl:l.length≤1000000):R K (.call 35 [.rows (SLs l),.rows (SLs l)] [])=some (.bool true,[]):=by
 have lk:=fun ks B hB=>l_Equal l hl ks l.length 0 0 B hB rfl (by omega)
 rw [call_35]
 simp -implicitDefEqProofs only [go_sem,simprocAttr,Tryz.f35,SLs_len,bne,beq_self_eq_true]
 rw [lk _ _ ?_]
 ·simp -implicitDefEqProofs only [go_sem,simprocAttr]
 ·rfl
theorem r_schemas:R K (.call 7 [] [])=some (.bool true,[]):=R_prim rfl
theorem index_hd (c:UInt8) (r:List UInt8):Lib.index (c::r) [c]=0:=by
 unfold Lib.index
 simp
theorem index_tl {b c:UInt8} (h:b≠c) (r:List UInt8):Lib.index (b::r) [c]=if Lib.index r [c]=-1 then -1 else Lib.index r [c]+1:=by
 rw [Lib.index]
 have:([c].isPrefixOf (b::r))=false:=by simp [List.isPrefixOf];exact fun e=>h e.symm
 simp [this]
theorem index_app {c:UInt8}:∀ (a r:List UInt8),c∉a→Lib.index (a++c::r) [c]=(a.length:Int)
 | [],r,_=>index_hd c r
 | b::a,r,h=>by
  simp only [List.mem_cons,not_or] at h
  rw [List.cons_append,index_tl (fun e=>h.1 e.symm),index_app a r h.2,if_neg (by omega)]
  simp
theorem index_out {c:UInt8}:∀ (a:List UInt8),c∉a→Lib.index a [c]=-1
 | [],_=>rfl
 | b::a,h=>by
  simp only [List.mem_cons,not_or] at h
  rw [index_tl (fun e=>h.1 e.symm),index_out a h.2,if_pos rfl]
theorem cut_app {c:UInt8} (a r:List UInt8) (h:c∉a):Lib.cut (a++c::r) [c]=(a,r,true):=by
 unfold Lib.cut
 rw [index_app a r h,if_pos (by omega)]
 simp only [Int.toNat_natCast,List.length_cons,List.length_nil,Prod.mk.injEq,and_true]
 refine ⟨List.take_left,?_⟩
 rw [←List.drop_drop,List.drop_left]
 rfl
theorem cut_out {c:UInt8} (a:List UInt8) (h:c∉a):Lib.cut a [c]=(a,[],false):=by
 unfold Lib.cut
 rw [index_out a h,if_neg (by omega)]
theorem cut_split (c:UInt8) (s:List UInt8):(∃ a r,c∉a∧s=a++c::r)∨c∉s:=by
 induction s with
 | nil=>exact .inr (by simp)
 | cons b r ih =>
  by_cases h:b=c
  ·subst h;exact .inl ⟨[],r,by simp,rfl⟩
  ·rcases ih with ⟨a,r',h1,rfl⟩ | h1
   ·exact .inl ⟨b::a,r',by simp only [List.mem_cons,not_or];exact ⟨fun e=>h e.symm,h1⟩,rfl⟩
   ·exact .inr (by simp only [List.mem_cons,not_or];exact ⟨fun e=>h e.symm,h1⟩)
def esc:List UInt8→List UInt8
 | []=>[]
 | c::r=>if c=39 then 39::39::esc r else c::esc r
theorem replK_esc:∀ (s:List UInt8) (k:Nat),s.count 39≤k→Lib.replaceK [39] [39,39] k s=esc s
 | [],k,_=>by cases k<;>simp [Lib.replaceK,Lib.index,esc]
 | c::r,k,h=>by
  by_cases hc:c=39
  ·subst hc
   rw [List.count_cons_self] at h
   obtain ⟨k,rfl⟩:∃ j,k=j+1:=⟨k - 1,by omega⟩
   rw [Lib.replaceK_hit _ _ _ _ 0 (index_hd 39 r),esc,if_pos rfl]
   simp only [List.take_zero,List.nil_append,Nat.zero_add,List.length_cons,List.length_nil,List.drop_succ_cons,List.drop_zero]
   rw [replK_esc r k (by omega)]
   rfl
  ·rw [List.count_cons_of_ne hc] at h
   have ih:=replK_esc r k h
   rw [esc,if_neg hc,←ih]
   cases k with
   | zero=>rfl
   | succ k =>
    rw [Lib.replaceK,Lib.replaceK,index_tl hc]
    have hg:=Lib.index_ge r [39]
    by_cases hm:Lib.index r [39]=-1
    ·simp [hm]
    ·have e1:(Lib.index r [39]+1).toNat=(Lib.index r [39]).toNat+1:=by omega
     have e2:(Lib.index r [39]+1==-1)=false:=by rw [beq_eq_false_iff_ne];omega
     have e3:(Lib.index r [39]==-1)=false:=by rw [beq_eq_false_iff_ne];omega
     simp only [if_neg hm,e1,e2,e3,Bool.false_eq_true,if_false,List.take_succ_cons,List.cons_append,Nat.succ_add,List.drop_succ_cons,Nat.add_right_comm _ 1]
theorem count_one:∀ (f:Nat) (s:List UInt8),s.length < f→Lib.countFrom [39] f s=s.count 39
 | f+1,[],_=>by simp [Lib.countFrom,Lib.index]
 | f+1,c::r,h=>by
  simp only [List.length_cons] at h
  by_cases hc:c=39
  ·subst hc
   rw [Lib.countFrom,index_hd,List.count_cons_self]
   simp only [Int.toNat_zero,Nat.zero_add,List.length_cons,List.length_nil,List.drop_succ_cons,List.drop_zero]
   rw [count_one f r (by omega)]
   simp;omega
  ·have ih:=count_one (f+1) r (by omega)
   rw [List.count_cons_of_ne hc,←ih,Lib.countFrom,Lib.countFrom,index_tl hc]
   have hg:=Lib.index_ge r [39]
   by_cases hm:Lib.index r [39]=-1
   ·simp [hm]
   ·have e1:(Lib.index r [39]+1).toNat=(Lib.index r [39]).toNat+1:=by omega
    have e2:(Lib.index r [39]+1==-1)=false:=by rw [beq_eq_false_iff_ne];omega
    have e3:(Lib.index r [39]==-1)=false:=by rw [beq_eq_false_iff_ne];omega
    simp only [if_neg hm,e1,e2,e3,Bool.false_eq_true,if_false,List.drop_succ_cons,List.length_cons,List.length_nil,Nat.add_right_comm _ 1]
theorem replace_esc (s:List UInt8):Lib.replaceAll s [39] [39,39]=esc s:=by
 have e:Lib.count s [39]=s.count 39:=count_one _ s (by omega)
 unfold Lib.replaceAll Lib.replace Lib.replaceNum
 rw [if_neg (by decide),if_pos (.inl (by omega)),e,replK_esc s _ (Nat.le_refl _)]
def isD (c:UInt8):Bool:=decide (48≤c.toNat)&&decide (c.toNat≤57)
theorem dec_isD (u:Nat):(Lib.decDigits u).all isD=true:=by
 induction u using Nat.strongRecOn with
 | _ u ih =>
  have hb:∀ d:Nat,d < 10→isD (UInt8.ofNat (48+d))=true:=fun d hd=>by
   have:(UInt8.ofNat (48+d)).toNat=48+d:=by simp [UInt8.toNat_ofNat'];omega
   simp only [isD,this,Bool.and_eq_true,decide_eq_true_eq];omega
  rw [Lib.decDigits]
  split
  ·rename_i h
   rw [List.all_cons,hb u h];rfl
  ·rename_i h
   rw [List.all_append,ih (u / 10) (by omega),List.all_cons,hb (u % 10) (by omega)];rfl
theorem itoa_pos {n:Int} (h:0≤n):(Lib.itoa n).all isD=true:=by
 obtain ⟨u,rfl⟩:=Int.eq_ofNat_of_zero_le h
 rw [Lib.itoa_nonneg];exact dec_isD u
theorem itoa_minus {n:Int} (h:n < 0):∃ d,Lib.itoa n=45::d∧d.all isD=true:=by
 obtain ⟨u,hu⟩:∃ u:Nat,n=-(u:Int):=⟨n.natAbs,by omega⟩
 subst hu
 rw [Lib.itoa_neg u (by omega)]
 exact ⟨_,rfl,dec_isD u⟩
theorem read_yes {t:List UInt8} (h:(readS t).2=0):rightS (readS t).1=true∧showS (readS t).1=t:=by
 unfold readS at *
 split at h
 ·rename_i hh;rw [if_pos hh];exact hh
 ·simp at h
theorem rep_all {c:UInt8} {p:UInt8→Bool} (h:p c=true):∀ n:Nat,(Lib.repeatL [c] n).all p=true
 | 0=>by simp [Lib.repeatL]
 | n+1=>by
  have:=rep_all h n
  rw [Lib.repeatL,List.all_append,this]
  simp [h]
noncomputable def rdS (w:List UInt8):Option Val:=if (readS w).2=0 then some (readS w).1 else none
def plW (c:UInt8):Bool:=decide (c≠39)&&(decide (c≠32)&&decide (c≠10))
theorem plW_no {s:List UInt8} (h:s.all plW=true):(10:UInt8)∉s∧(32:UInt8)∉s∧(39:UInt8)∉s:=by
 have h2:=List.all_eq_true.1 h
 refine ⟨fun e=>?_,fun e=>?_,fun e=>?_⟩<;>exact absurd (h2 _ e) (by decide)
theorem plW_word {s:List UInt8} (h:s.all plW=true):scanQ false s=some false∧(10:UInt8)∉s:=⟨scanQ_plain s false (plW_no h).2.1 (plW_no h).2.2,(plW_no h).1⟩
theorem isD_plW {c:UInt8} (h:isD c=true):plW c=true:=by
 have:c≠39∧c≠32∧c≠10:=by
  refine ⟨?_,?_,?_⟩<;>(rintro rfl;revert h;decide)
 simp [plW,this]
theorem all_plW {s:List UInt8} (h:s.all isD=true):s.all plW=true:=List.all_eq_true.2 fun x hx=>isD_plW (List.all_eq_true.1 h x hx)
theorem pad_plW {n:Int} {d:Nat} (h:0≤n):(padS n d).all plW=true:=by
 unfold padS
 rw [List.all_append,rep_all (by decide),Bool.true_and]
 exact all_plW (itoa_pos h)
theorem dtext_plW {n:Int} (h0:0≤n) (h1:n≤253402300799):(dtextS n).all plW=true:=by
 have hb:=date_bounds h0 h1
 unfold dtextS
 simp only [List.all_append,Bool.and_eq_true]
 refine ⟨⟨⟨⟨⟨⟨⟨⟨⟨⟨?_,?_⟩,?_⟩,?_⟩,?_⟩,?_⟩,?_⟩,?_⟩,?_⟩,?_⟩,?_⟩
 all_goals first
  | (exact pad_plW (by omega))
  | decide
theorem esc_dbl:∀ s:List UInt8,esc s=dblQ s
 | []=>rfl
 | c::r=>by
  have:=esc_dbl r
  simp only [esc,dblQ,List.flatMap_cons] at this ⊢
  split<;>simp [this]
theorem dbl_no10 {s:List UInt8} (h:(10:UInt8)∉s):(10:UInt8)∉dblQ s:=by
 intro e
 obtain ⟨c,hc,e⟩:=List.mem_flatMap.1 e
 split at e
 ·simp at e
 ·rw [List.mem_singleton] at e;subst e;exact h hc
theorem show_word {v:Val} (h:rightS v=true):scanQ false (showS v)=some false∧(10:UInt8)∉showS v:=by
 have hp:=plain_of_right h
 have hk:=plain_kinds v
 rw [hp] at hk
 rcases hk with q | q | q | q | q
 ·have:showS v=bNull:=by simp [showS,hp,q]
  rw [this];decide
 ·have:showS v=Lib.formatBool (v.n==1):=by simp [showS,hp,q]
  rw [this,fmt_bool]
  cases v.n==1<;>decide
 ·have:showS v=Lib.itoa v.n:=by simp [showS,hp,q]
  rw [this]
  by_cases hn:0≤v.n
  ·exact plW_word (all_plW (itoa_pos hn))
  ·obtain ⟨d,e,hd⟩:=itoa_minus (n:=v.n) (by omega)
   rw [e]
   exact plW_word (by rw [List.all_cons,all_plW hd];decide)
 ·have:showS v=[39]++Lib.replaceAll v.s [39] [39,39]++[39]:=by simp [showS,hp,q]
  rw [this,replace_esc,esc_dbl]
  refine ⟨scanQ_text v.s,?_⟩
  have h7:ok7 v.s=true:=by
   simp only [rightS,Bool.and_eq_true] at h
   have:=h.2.2
   simpa [rangeS,q] using this
  have h10:(10:UInt8)∉v.s:=fun e=>by
   have:=List.all_eq_true.1 h7 _ e
   revert this;decide
  simp [dbl_no10 h10]
 ·have:showS v=[64]++dtextS v.n:=by simp [showS,hp,q]
  have hb:=plain_moment (v:=v) (by rw [hp];exact q)
  rw [hp] at hb
  rw [this]
  exact plW_word (by rw [List.all_append,dtext_plW hb.1 hb.2];decide)
theorem rd_yes {w:List UInt8} {v:Val} (e:rdS w=some v):rightS v=true∧showS v=w∧readS w=(v,0):=by
 unfold rdS at e
 split at e
 ·rename_i h0
  obtain rfl:=Option.some.inj e
  exact ⟨(read_yes h0).1,(read_yes h0).2,by rw [←h0]⟩
 ·simp at e
theorem sr_ok:ShowRead showS rdS where
 text:=fun w v e=>(rd_yes e).2.1
 zero:=fun w v e h=>by
  have hr:=(rd_yes e).1
  simp only [rightS,formS,h,if_true,Bool.and_eq_true,beq_iff_eq] at hr
  obtain ⟨k,n,s⟩:=v
  simp only at h hr
  rw [h,hr.1.1,hr.1.2]
 word:=fun w v e=>by
  obtain ⟨h1,h2,_⟩:=rd_yes e
  rw [←h2]
  exact show_word h1
theorem split_C (c:UInt8):∀ (k:Nat) (s:List UInt8),s.count c≤k→Lib.splitK [c] 0 k s=splitC c s
 | 0,s,h=>by
  have hs:c∉s:=List.count_eq_zero.1 (by omega)
  rw [splitC_one c s hs]
  rfl
 | k+1,s,h=>by
  rcases cut_split c s with ⟨a,r,ha,rfl⟩ | hs
  ·have hr:r.count c≤k:=by
    rw [List.count_append,List.count_cons_self] at h
    omega
   have e:(a++c::r).drop (a.length+1)=r:=by
    rw [←List.drop_drop,List.drop_left]
    rfl
   rw [splitC_app c a r ha,←split_C c k r hr]
   conv=>lhs;unfold Lib.splitK
   rw [index_app a r ha,if_neg (by simp)]
   simp only [Int.toNat_natCast,Nat.add_zero,List.take_left,List.length_cons,List.length_nil,Nat.zero_add]
   rw [e]
  ·rw [splitC_one c s hs]
   unfold Lib.splitK
   rw [index_out s hs,if_pos (by rfl)]
theorem p_Split (s:List UInt8) (c:UInt8) (h:s.length < 4294967281):R K (.call 28 [.str s,.str [c]] [])=some (.rows (SLs (splitC c s)),[]):=R_prim (by
 show pSplit [.str s,.str [c]]=_
 simp only [pSplit]
 rw [if_pos (by simp [h])]
 have e:=Lib.splitB_data ⟨[c].toArray⟩ 0 (Lib.countB ⟨s.toArray⟩ ⟨[c].toArray⟩) ⟨s.toArray⟩
 have e2:=split_C c (Lib.countB ⟨s.toArray⟩ ⟨[c].toArray⟩) s (by show s.count c≤Lib.count s [c];rw [Lib.count_one];exact Nat.le_refl _)
 simp only [List.toList_toArray] at e
 rw [e2] at e
 rw [←e]
 simp only [SLs,List.map_map]
 rfl)
theorem join_jn:∀ ws:List (List UInt8),Lib.join ws [32]=jnW ws
 | []=>rfl
 | [w]=>Lib.join_one w [32]
 | w::v::r=>by
  have h:=join_jn (v::r)
  rw [Lib.join_cons] at h ⊢
  simp only [jnW]
  rw [←h]
  simp [Lib.joinTail]
theorem strsOf_SL:∀ l:List (List UInt8),strsOf (SLs l)=some l
 | []=>rfl
 | s::r=>by
  have:=strsOf_SL r
  simp only [SLs,List.map_cons,strsOf] at this ⊢
  rw [this]
theorem p_Cut (s:List UInt8) (h:s.length < 4294967281):R K (.call 78 [.str s,.str [32]] [])=some (.tup [.str (Lib.cut s [32]).1,.str (Lib.cut s [32]).2.1,.bool (Lib.cut s [32]).2.2],[]):=R_prim (by
 show pCut [.str s,.str [32]]=_
 simp only [pCut]
 rw [if_pos (by simpa using h)])
theorem p_CutSuffix (s p:List UInt8) (h:s.length≤10000000):R K (.call 27 [.str s,.str p] [])=some (.tup [.str (Lib.trimSuffix s p),.bool (Lib.hasSuffix s p)],[]):=R_prim (by
 show pCutSuffix [.str s,.str p]=_
 simp only [pCutSuffix]
 rw [if_pos (by simp;omega)])
noncomputable abbrev lnS (n:Ln):List UInt8:=lnTx showS n
def sumW (w:Ln→Nat) (ns:List Ln):Nat:=(ns.map w).sum
theorem sumW_cons (w:Ln→Nat) (n:Ln) (ns:List Ln):sumW w (n::ns)=w n+sumW w ns:=by simp [sumW]
theorem sumW_app (w:Ln→Nat) (a b:List Ln):sumW w (a++b)=sumW w a+sumW w b:=by simp [sumW]
theorem sumW_mem (w:Ln→Nat) {n:Ln}:∀ {ns:List Ln},n∈ns→w n≤sumW w ns
 | m::ns,h=>by
  rw [sumW_cons]
  rcases List.mem_cons.1 h with rfl | h
  ·omega
  ·have:=sumW_mem w h;omega
theorem sumW_le {w:Ln→Nat} {k:Nat}:∀ ns:List Ln,(∀ n∈ns,w n≤k)→sumW w ns≤k*ns.length
 | [],_=>by simp [sumW]
 | n::ns,h=>by
  rw [sumW_cons,List.length_cons,Nat.mul_succ]
  have:=h n (by simp)
  have:=sumW_le ns fun m hm=>h m (by simp [hm])
  omega
noncomputable def lnW (n:Ln):Nat:=(lnS n).length+1
theorem txt_sum:∀ ns:List Ln,((ns.map lnS).flatMap fun l=>l++[10]).length=sumW lnW ns
 | []=>rfl
 | n::ns=>by
  rw [List.map_cons,List.flatMap_cons,List.length_append,txt_sum ns,sumW_cons]
  simp [lnW]
theorem txt_len (x:List Tbl):(txtOf (lnTx showS) x).length=sumW lnW (lns x):=txt_sum _
theorem lns_app (x y:List Tbl):lns (x++y)=lns x++lns y:=by simp [lns]
theorem lns_one (t:Tbl):lns [t]=lnsT t:=by simp [lns]
theorem sumT (w:Ln→Nat) (t:Tbl):sumW w (lnsT t)=w (.table t.nm)+sumW w (t.cols.map .column)+w (.key t.key)+sumW w (t.fgn.map .foreign)+sumW w (t.idx.map .index):=by
 unfold lnsT
 rw [sumW_cons,sumW_app,sumW_cons,sumW_app]
 omega
theorem sum_asm {w:Ln→Nat} {k:Nat} (hk:w (.key [])≤k):∀ (r:List Ln) (x:List Tbl) (t:Tbl),sumW w (lns (asmT x t r))≤sumW w (lns x)+sumW w (lnsT t)+sumW w r+k*r.length
 | [],x,t=>by
  simp only [asmT]
  rw [lns_app,lns_one,sumW_app]
  omega
 | .table nm::r,x,t=>by
  have ih:=sum_asm hk r (x++[t]) (newT nm)
  simp only [asmT]
  rw [lns_app,lns_one,sumW_app] at ih
  have e:sumW w (lnsT (newT nm))=w (.table nm)+w (.key []):=by rw [sumT];simp [newT,sumW]
  rw [e] at ih
  rw [sumW_cons,List.length_cons,Nat.mul_succ]
  omega
 | .column c::r,x,t=>by
  have ih:=sum_asm hk r x (putL t (.column c))
  simp only [asmT]
  have e:sumW w (lnsT (putL t (.column c)))=sumW w (lnsT t)+w (.column c):=by
   rw [sumT,sumT]
   simp only [putL,List.map_append,sumW_app,List.map_cons,List.map_nil]
   rw [show sumW w [Ln.column c]=w (.column c) by simp [sumW]]
   omega
  rw [e] at ih
  rw [sumW_cons,List.length_cons,Nat.mul_succ]
  omega
 | .key ks::r,x,t=>by
  have ih:=sum_asm hk r x (putL t (.key ks))
  simp only [asmT]
  have e:sumW w (lnsT (putL t (.key ks)))≤sumW w (lnsT t)+w (.key ks):=by
   rw [sumT,sumT]
   simp only [putL]
   omega
  rw [sumW_cons,List.length_cons,Nat.mul_succ]
  omega
 | .foreign f::r,x,t=>by
  have ih:=sum_asm hk r x (putL t (.foreign f))
  simp only [asmT]
  have e:sumW w (lnsT (putL t (.foreign f)))=sumW w (lnsT t)+w (.foreign f):=by
   rw [sumT,sumT]
   simp only [putL,List.map_append,sumW_app,List.map_cons,List.map_nil]
   rw [show sumW w [Ln.foreign f]=w (.foreign f) by simp [sumW]]
   omega
  rw [e] at ih
  rw [sumW_cons,List.length_cons,Nat.mul_succ]
  omega
 | .index f::r,x,t=>by
  have ih:=sum_asm hk r x (putL t (.index f))
  simp only [asmT]
  have e:sumW w (lnsT (putL t (.index f)))=sumW w (lnsT t)+w (.index f):=by
   rw [sumT,sumT]
   simp only [putL,List.map_append,sumW_app,List.map_cons,List.map_nil]
   rw [show sumW w [Ln.index f]=w (.index f) by simp [sumW]]
   omega
  rw [e] at ih
  rw [sumW_cons,List.length_cons,Nat.mul_succ]
  omega
theorem sum_asmL {w:Ln→Nat} {k:Nat} (hk:w (.key [])≤k) {ns:List Ln} {y:List Tbl} (h:asmL ns=some y):sumW w (lns y)≤sumW w ns+k*ns.length:=by
 unfold asmL at h
 split at h
 ·obtain rfl:=Option.some.inj h
  simp [lns,sumW]
 ·rename_i nm r
  obtain rfl:=Option.some.inj h
  have:=sum_asm hk r [] (newT nm)
  have e:sumW w (lnsT (newT nm))=w (.table nm)+w (.key []):=by rw [sumT];simp [newT,sumW]
  have e2:sumW w (lns [])=0:=rfl
  rw [e,e2] at this
  rw [sumW_cons,List.length_cons,Nat.mul_succ]
  omega
 ·simp at h
theorem put_all {P:Ln→Prop} (hk:P (.key [])) {t:Tbl} (ht:∀ n∈lnsT t,P n):∀ {n:Ln},P n→∀ m∈lnsT (putL t n),P m
 | .table nm,h=>fun m hm=>by
  simp only [lnsT,putL,newT,List.map_nil,List.nil_append,List.append_nil,List.mem_cons,List.not_mem_nil,or_false] at hm
  rcases hm with rfl | rfl
  ·exact h
  ·exact hk
 | .column c,h=>fun m hm=>by
  simp only [lnsT,putL,List.map_append,List.map_cons,List.map_nil,List.mem_cons,List.mem_append,List.mem_map,List.not_mem_nil,or_false] at hm
  rcases hm with rfl | (⟨a,ha,rfl⟩ | rfl) | rfl | ⟨a,ha,rfl⟩ | ⟨a,ha,rfl⟩
  ·exact ht _ (by simp [lnsT])
  ·exact ht _ (by simp [lnsT,ha])
  ·exact h
  ·exact ht _ (by simp [lnsT])
  ·exact ht _ (by simp [lnsT,ha])
  ·exact ht _ (by simp [lnsT,ha])
 | .key ks,h=>fun m hm=>by
  simp only [lnsT,putL,List.mem_cons,List.mem_append,List.mem_map] at hm
  rcases hm with rfl | ⟨a,ha,rfl⟩ | rfl | ⟨a,ha,rfl⟩ | ⟨a,ha,rfl⟩
  ·exact ht _ (by simp [lnsT])
  ·exact ht _ (by simp [lnsT,ha])
  ·exact h
  ·exact ht _ (by simp [lnsT,ha])
  ·exact ht _ (by simp [lnsT,ha])
 | .foreign f,h=>fun m hm=>by
  simp only [lnsT,putL,List.map_append,List.map_cons,List.map_nil,List.mem_cons,List.mem_append,List.mem_map,List.not_mem_nil,or_false] at hm
  rcases hm with rfl | ⟨a,ha,rfl⟩ | rfl | (⟨a,ha,rfl⟩ | rfl) | ⟨a,ha,rfl⟩
  ·exact ht _ (by simp [lnsT])
  ·exact ht _ (by simp [lnsT,ha])
  ·exact ht _ (by simp [lnsT])
  ·exact ht _ (by simp [lnsT,ha])
  ·exact h
  ·exact ht _ (by simp [lnsT,ha])
 | .index i,h=>fun m hm=>by
  simp only [lnsT,putL,List.map_append,List.map_cons,List.map_nil,List.mem_cons,List.mem_append,List.mem_map,List.not_mem_nil,or_false] at hm
  rcases hm with rfl | ⟨a,ha,rfl⟩ | rfl | ⟨a,ha,rfl⟩ | ⟨a,ha,rfl⟩ | rfl
  ·exact ht _ (by simp [lnsT])
  ·exact ht _ (by simp [lnsT,ha])
  ·exact ht _ (by simp [lnsT])
  ·exact ht _ (by simp [lnsT,ha])
  ·exact ht _ (by simp [lnsT,ha])
  ·exact h
theorem asmT_put (x:List Tbl) (t:Tbl) (n:Ln) (r:List Ln):asmT x t (n::r)=asmT x (putL t n) r∨∃ nm,n=.table nm∧asmT x t (n::r)=asmT (x++[t]) (newT nm) r:=by
 cases n with
 | table nm=>exact .inr ⟨nm,rfl,rfl⟩
 | _=>exact .inl rfl
theorem asm_all {P:Ln→Prop} (hk:P (.key [])):∀ (r:List Ln) (x:List Tbl) (t:Tbl),(∀ u∈x,∀ n∈lnsT u,P n)→(∀ n∈lnsT t,P n)→(∀ n∈r,P n)→∀ u∈asmT x t r,∀ n∈lnsT u,P n
 | [],x,t,hx,ht,_=>fun u hu=>by
  rcases List.mem_append.1 hu with h | h
  ·exact hx u h
  ·rw [List.mem_singleton] at h;rw [h];exact ht
 | n::r,x,t,hx,ht,hr=>by
  rcases asmT_put x t n r with e | ⟨nm,rfl,e⟩
  ·rw [e]
   exact asm_all hk r _ _ hx (put_all hk ht (hr n (by simp))) fun m hm=>hr m (by simp [hm])
  ·rw [e]
   refine asm_all hk r _ _ (fun u hu=>?_) (put_all (t:=t) hk ht (n:=.table nm) (hr _ (by simp))) fun m hm=>hr m (by simp [hm])
   rcases List.mem_append.1 hu with h | h
   ·exact hx u h
   ·rw [List.mem_singleton] at h;rw [h];exact ht
theorem asmL_all {P:Ln→Prop} (hk:P (.key [])) {ns:List Ln} {y:List Tbl} (h:∀ n∈ns,P n) (e:asmL ns=some y):∀ t∈y,∀ n∈lnsT t,P n:=by
 unfold asmL at e
 split at e
 ·obtain rfl:=Option.some.inj e
  simp
 ·rename_i nm r
  obtain rfl:=Option.some.inj e
  exact asm_all hk r [] _ (by simp) (fun n hn=>by
   simp only [lnsT,newT,List.map_nil,List.nil_append,List.append_nil,List.mem_cons,List.not_mem_nil,or_false] at hn
   rcases hn with rfl | rfl
   ·exact h _ (by simp)
   ·exact hk) fun m hm=>h m (by simp [hm])
 ·simp at e
theorem splitC_ne (c:UInt8) (l:List UInt8):splitC c l≠[]:=by
 cases l with
 | nil=>simp [splitC]
 | cons b r =>
  simp only [splitC]
  split
  ·simp
  ·split<;>simp
theorem jn_splitC:∀ l:List UInt8,jnW (splitC 32 l)=l
 | []=>rfl
 | b::r=>by
  have ih:=jn_splitC r
  simp only [splitC]
  by_cases h:b=32
  ·rw [if_pos h]
   cases e:splitC 32 r with
   | nil=>exact absurd e (splitC_ne 32 r)
   | cons w t =>
    rw [e] at ih
    rw [jn_head,ih,h]
    rfl
  ·rw [if_neg h]
   cases e:splitC 32 r with
   | nil=>exact absurd e (splitC_ne 32 r)
   | cons w t =>
    rw [e] at ih
    simp only
    cases t with
    | nil=>simp only [jnW] at ih ⊢;rw [ih]
    | cons v t=>rw [jn_head] at ih ⊢;rw [List.cons_append,ih]
theorem splitC_len (c:UInt8):∀ l:List UInt8,(splitC c l).length≤l.length+1∧∀ w∈splitC c l,w.length≤l.length
 | []=>by simp [splitC]
 | b::r=>by
  obtain ⟨h1,h2⟩:=splitC_len c r
  simp only [splitC]
  split
  ·refine ⟨by simp only [List.length_cons];omega,fun w hw=>?_⟩
   rcases List.mem_cons.1 hw with rfl | hw
   ·simp
   ·have:=h2 w hw;simp only [List.length_cons];omega
  ·cases e:splitC c r with
   | nil=>simp
   | cons h t =>
    rw [e] at h1 h2
    refine ⟨by simp only [List.length_cons] at h1 ⊢;omega,fun w hw=>?_⟩
    rcases List.mem_cons.1 hw with rfl | hw
    ·have:=h2 h (by simp);simp only [List.length_cons];omega
    ·have:=h2 w (by simp [hw]);simp only [List.length_cons];omega
theorem qSp_len:∀ (l:List UInt8) (b:Bool),∀ w∈qSp b l,w.length≤l.length
 | [],b=>by simp [qSp]
 | c::r,b=>by
  have hc:∀ b',∀ w∈consH c (qSp b' r),w.length≤(c::r).length:=fun b' w hw=>by
   have ih:=qSp_len r b'
   cases e:qSp b' r with
   | nil=>rw [e] at hw;simp [consH] at hw;simp [hw]
   | cons h t =>
    rw [e] at hw ih
    simp only [consH,List.mem_cons] at hw
    rcases hw with rfl | hw
    ·have:=ih h (by simp);simp only [List.length_cons];omega
    ·have:=ih w (by simp [hw]);simp only [List.length_cons];omega
  intro w hw
  simp only [qSp] at hw
  split at hw
  ·exact hc _ w hw
  ·split at hw
   ·rcases List.mem_cons.1 hw with rfl | hw
    ·simp
    ·have:=qSp_len r false w hw;simp only [List.length_cons];omega
   ·exact hc _ w hw
def nmsOf:Ln→List (List UInt8)
 | .table nm=>[nm]
 | .column c=>[c.nm]
 | .key ks=>ks
 | .foreign f=>f.nm::f.tb::f.cols
 | .index x=>x.nm::x.cols
theorem col_len (c:Col):(lnS (.column c)).length≤c.nm.length+1050:=by
 have h:=show_len c.df
 have hk:(kdT c.kd).length≤6:=by
  unfold kdT
  repeat' split
  all_goals decide
 show (jnW (colW::colT showS c)).length≤_
 unfold colT dfW
 split<;>split<;>simp only [List.cons_append,List.nil_append,jnW,List.length_append,List.length_cons,List.length_nil]<;>omega
theorem pCol_fit {nz:Bool} {r:List UInt8} {n:Ln} (e:pCol rdS nz r=some n):∃ c,n=.column c∧c.nm.length≤r.length:=by
 unfold pCol at e
 split at e
 ·rename_i w k ws hq
  have hw:w.length≤r.length:=qSp_len r false w (by rw [hq];simp)
  split at e
  ·split at e
   ·split at e
    ·split at e
     ·obtain ⟨v,_,rfl⟩:=Option.map_eq_some_iff.1 e
      exact ⟨_,rfl,hw⟩
     ·obtain ⟨v,_,rfl⟩:=Option.map_eq_some_iff.1 e
      exact ⟨_,rfl,hw⟩
    ·obtain rfl:=Option.some.inj e
     exact ⟨_,rfl,hw⟩
   ·simp at e
  ·simp at e
 ·simp at e
theorem line_fit {nz:Bool} {l:List UInt8} {n:Ln} (e:pLn rdS nz l=some n):(lnS n).length≤l.length+1050∧(nmsOf n).length≤l.length+1∧∀ w∈nmsOf n,w.length≤l.length:=by
 have hj:=jn_splitC l
 obtain ⟨h1,h2⟩:=splitC_len 32 l
 have hz:=splitC_ne 32 l
 unfold pLn at e
 split at e
 ·rename_i h;exact absurd h hz
 rename_i w ws hs
 rw [hs] at hj h1 h2
 split at e
 ·rename_i hw
  split at e
  ·rename_i m
   split at e
   ·obtain rfl:=Option.some.inj e
    refine ⟨?_,by simp [nmsOf],fun v hv=>h2 v (by simp [nmsOf] at hv;simp [hv])⟩
    show (jnW [tabW,m]).length≤_
    rw [←hw,hj];omega
   ·simp at e
  ·simp at e
 split at e
 ·obtain ⟨c,rfl,hc⟩:=pCol_fit e
  have hd:(l.drop (w.length+1)).length≤l.length:=by simp
  refine ⟨?_,by simp [nmsOf],fun v hv=>?_⟩
  ·have:=col_len c;omega
  ·simp [nmsOf] at hv;rw [hv];omega
 split at e
 ·rename_i hw
  split at e
  ·obtain rfl:=Option.some.inj e
   refine ⟨?_,by simp only [nmsOf,List.length_cons] at h1 ⊢;omega,fun v hv=>h2 v (by simp only [nmsOf] at hv;simp [hv])⟩
   show (jnW (keyW::ws)).length≤_
   rw [←hw,hj];omega
  ·simp at e
 split at e
 ·rename_i hw
  split at e
  ·rename_i m t cs
   split at e
   ·obtain rfl:=Option.some.inj e
    refine ⟨?_,by simp only [nmsOf,List.length_cons] at h1 ⊢;omega,fun v hv=>h2 v (by simp only [nmsOf] at hv;exact List.mem_cons_of_mem _ hv)⟩
    show (jnW (forW::m::t::cs)).length≤_
    rw [←hw,hj];omega
   ·simp at e
  ·simp at e
 split at e
 ·rename_i hw
  split at e
  ·rename_i m cs
   split at e
   ·obtain rfl:=Option.some.inj e
    refine ⟨?_,by simp only [nmsOf,List.length_cons] at h1 ⊢;omega,fun v hv=>h2 v (by simp only [nmsOf] at hv;exact List.mem_cons_of_mem _ hv)⟩
    show (jnW ((if decide (w=uniW)=true then uniW else indW)::m::cs)).length≤_
    have:(if decide (w=uniW)=true then uniW else indW)=w:=by
     rcases hw with hw | hw<;>rw [hw]<;>decide
    rw [this,hj];omega
   ·simp at e
  ·simp at e
 ·simp at e
structure FitS (x:List Tbl):Prop where
 len:(lns x).length≤1000000
 sum:sumW lnW (lns x)≤100000000000
 kd:∀ t∈x,∀ c∈t.cols,1≤c.kd∧c.kd≤4
theorem jn_le {m:Nat}:∀ (ws:List (List UInt8)) (w:List UInt8),(∀ v∈ws,v.length≤m)→(jnW (w::ws)).length≤w.length+(m+1)*ws.length
 | [],w,_=>by simp [jnW]
 | v::r,w,h=>by
  have ih:=jn_le r v fun u hu=>h u (by simp [hu])
  have:=h v (by simp)
  rw [jn_head,List.length_append,List.length_cons,List.length_cons,Nat.mul_succ]
  omega
theorem nameB_len {o:List UInt8} {m:Nat} {s:List UInt8} (h:nameB o m s=true):s.length≤m:=by
 unfold nameB at h
 split at h
 ·simp at h
 ·simp only [Bool.and_eq_true,decide_eq_true_eq] at h
  exact h.1.2
theorem ordE_tall {s b:List UInt8} {f:Bool} (h:ordE s b f=0):s.length≤40:=by
 unfold ordE at h
 split at h
 ·simp at h
 ·rename_i h1
  exact nameB_len (o:=[95]) (by simpa using h1)
theorem ix_in {n:List UInt8} {l:List (List UInt8)} (h:¬ixN n l 0 < 0):n∈l:=by
 refine Classical.byContradiction fun h1=>h ?_
 rw [(ixN_mem n l 0).2 h1]
 decide
structure Tight (t:Tbl):Prop where
 nm:t.nm.length≤40
 col:∀ c∈t.cols,c.nm.length≤40∧(1≤c.kd∧c.kd≤4)
 cl:t.cols.length≤60
 kl:t.key.length≤8
 fl:t.fgn.length≤20
 il:t.idx.length≤20
 key:∀ n∈t.key,n.length≤40
 fg:∀ f∈t.fgn,f.nm.length≤40∧∀ n∈f.cols,n.length≤40
 ix:∀ f∈t.idx,f.nm.length≤40∧f.cols.length≤8∧∀ n∈f.cols,n.length≤40
theorem names_len {t:Tbl} {l:List (List UInt8)} (hc:∀ c∈t.cols,c.nm.length≤40∧(1≤c.kd∧c.kd≤4)) (h:NamesIn t l):∀ n∈l,n.length≤40:=fun n hn=>by
 obtain ⟨c,hc',rfl⟩:=List.mem_map.1 (ix_in (h n hn))
 exact (hc c hc').1
theorem tight_of {x:List Tbl} {i:Nat} {t:Tbl} (ht:x[i]? = some t) (h:tableE x i=0):Tight t:=by
 obtain ⟨h1,hok⟩:=tableE_ok ht h
 unfold tableE at h
 rw [ht] at h
 simp only at h
 obtain ⟨_,h2⟩:=orE_zero h
 split at h2
 ·simp at h2
 rename_i hb
 simp only [bigT,Bool.or_eq_true,decide_eq_true_eq,not_or] at hb
 have h3:=evE_zero 4 0 h2
 have k0:=h3 0 (by omega) (by omega)
 have k2:=h3 2 (by omega) (by omega)
 have k3:=h3 3 (by omega) (by omega)
 simp only [partE,columnsE] at k0 k2 k3
 have hc:∀ c∈t.cols,c.nm.length≤40∧(1≤c.kd∧c.kd≤4):=by
  intro c hc
  obtain ⟨j,hj,rfl⟩:=List.mem_iff_getElem.1 hc
  have:=evE_zero _ 0 k0 j (by omega) (by omega)
  unfold colE at this
  rw [List.getElem?_eq_getElem hj] at this
  simp only at this
  split at this
  ·simp at this
  rename_i q1
  split at this
  ·simp at this
  unfold chkS at this
  split at this
  ·simp at this
  rename_i q2
  refine ⟨nameB_len (o:=[95]) (by simpa using q1),?_⟩
  have q3:within t.cols[j].kd 1 4=true:=by simpa using q2
  simpa [within] using q3
 refine ⟨ordE_tall h1,hc,by omega,by omega,by omega,by omega,names_len hc hok.key,?_,?_⟩
 ·intro f hf
  refine ⟨?_,names_len hc (hok.fg f hf)⟩
  obtain ⟨j,hj,rfl⟩:=List.mem_iff_getElem.1 hf
  have:=evE_zero _ 0 k2 j (by omega) (by omega)
  unfold fgnE at this
  rw [List.getElem?_eq_getElem hj] at this
  exact ordE_tall (orE_zero this).1
 ·intro f hf
  obtain ⟨j,hj,rfl⟩:=List.mem_iff_getElem.1 hf
  have:=evE_zero _ 0 k3 j (by omega) (by omega)
  unfold idxE at this
  rw [List.getElem?_eq_getElem hj] at this
  obtain ⟨q1,q2⟩:=orE_zero this
  split at q2
  ·simp at q2
  split at q2
  ·simp at q2
  rename_i q3 q4
  exact ⟨ordE_tall q1,by omega,names_len hc (listE_in q2)⟩
theorem lns_cons' (t:Tbl) (x:List Tbl):lns (t::x)=lnsT t++lns x:=by simp [lns]
theorem lns_count {k:Nat}:∀ x:List Tbl,(∀ t∈x,(lnsT t).length≤k)→(lns x).length≤k*x.length
 | [],_=>by simp [lns]
 | t::x,h=>by
  have:=lns_count x fun u hu=>h u (by simp [hu])
  have:=h t (by simp)
  rw [lns_cons',List.length_append,List.length_cons,Nat.mul_succ]
  omega
theorem right_fit {x:List Tbl} (h:chkE x=0):FitS x:=by
 have hR:=chk_right h
 unfold chkE at h
 split at h
 ·simp at h
 rename_i hl
 have h1:=evE_zero 2 0 h
 have k0:=h1 0 (by omega) (by omega)
 have k1:=h1 1 (by omega) (by omega)
 simp only [chkP] at k0 k1
 have hT:∀ t∈x,Tight t:=by
  intro t ht
  obtain ⟨i,hi,rfl⟩:=List.mem_iff_getElem.1 ht
  exact tight_of (List.getElem?_eq_getElem hi) (evE_zero _ 0 k0 i (by omega) (by omega))
 have hF:∀ t∈x,∀ f∈t.fgn,f.tb.length≤40∧f.cols.length≤8:=by
  intro t ht f hf
  have hlead:=hR.leads t ht f hf
  obtain ⟨a,u,h5,h6⟩:=ixN_tbl hlead
  refine ⟨?_,?_⟩
  ·obtain ⟨v,hv,e⟩:=List.mem_map.1 (ix_in hlead)
   rw [←e];exact (hT v hv).nm
  ·obtain ⟨i,hi,rfl⟩:=List.mem_iff_getElem.1 ht
   obtain ⟨k,hk,rfl⟩:=List.mem_iff_getElem.1 hf
   have b1:=evE_zero _ 0 k1 i (by omega) (by omega)
   unfold forsE at b1
   rw [List.getElem?_eq_getElem hi] at b1
   have b2:=evE_zero _ 0 b1 k (by omega) (by omega)
   unfold fkE at b2
   rw [List.getElem?_eq_getElem hk] at b2
   simp only [forE] at b2
   rw [if_neg hlead,h5,Int.toNat_natCast,h6] at b2
   simp only at b2
   split at b2
   ·rename_i e
    have:=(hT u (List.mem_of_getElem? h6)).kl
    omega
   ·simp at b2
 have hn:(lns x).length≤102*x.length:=lns_count x fun t ht=>by
  have:=hT t ht
  have:=this.cl
  have:=(hT t ht).fl
  have:=(hT t ht).il
  simp only [lnsT,List.length_cons,List.length_append,List.length_map]
  omega
 have hW:∀ n∈lns x,lnW n≤2000:=by
  intro n hn
  obtain ⟨t,ht,hm⟩:=List.mem_flatMap.1 hn
  have T:=hT t ht
  simp only [lnsT,List.mem_cons,List.mem_append,List.mem_map] at hm
  unfold lnW
  rcases hm with rfl | ⟨c,hc,rfl⟩ | rfl | ⟨f,hf,rfl⟩ | ⟨f,hf,rfl⟩
  ·have:=jn_le (m:=40) [t.nm] tabW (by simpa using T.nm)
   show (jnW [tabW,t.nm]).length+1≤2000
   simp only [List.length_cons,List.length_nil] at this
   omega
  ·have:=col_len c
   have:=(T.col c hc).1
   omega
  ·have:=jn_le (m:=40) t.key keyW T.key
   have:=T.kl
   show (jnW (keyW::t.key)).length+1≤2000
   simp only [List.length_cons,List.length_nil] at *
   omega
  ·have F:=hF t ht f hf
   have G:=T.fg f hf
   have:=jn_le (m:=40) (f.nm::f.tb::f.cols) forW (by
    intro v hv
    simp only [List.mem_cons] at hv
    rcases hv with rfl | rfl | hv
    ·exact G.1
    ·exact F.1
    ·exact G.2 v hv)
   show (jnW (forW::f.nm::f.tb::f.cols)).length+1≤2000
   simp only [List.length_cons,List.length_nil] at *
   omega
  ·have G:=T.ix f hf
   have:=jn_le (m:=40) (f.nm::f.cols) (if f.uq=true then uniW else indW) (by
    intro v hv
    simp only [List.mem_cons] at hv
    rcases hv with rfl | hv
    ·exact G.1
    ·exact G.2.2 v hv)
   have hw:(if f.uq=true then uniW else indW).length≤6:=by split<;>decide
   show (jnW ((if f.uq=true then uniW else indW)::f.nm::f.cols)).length+1≤2000
   simp only [List.length_cons,List.length_nil] at *
   omega
 refine ⟨by omega,?_,fun t ht c hc=>((hT t ht).col c hc).2⟩
 have:=sumW_le (lns x) hW
 omega
theorem readAll_len {p:List UInt8→Option Ln}:∀ (ls:List (List UInt8)) (ns:List Ln),readAll p ls=some ns→ns.length=ls.length∧∀ n∈ns,∃ l∈ls,p l=some n
 | [],ns,h=>by
  obtain rfl:=Option.some.inj h
  simp
 | l::ls,ns,h=>by
  simp only [readAll] at h
  split at h
  ·rename_i n ms h1 h2
   obtain rfl:=Option.some.inj h
   obtain ⟨e,f⟩:=readAll_len ls ms h2
   refine ⟨by simp [e],fun k hk=>?_⟩
   rcases List.mem_cons.1 hk with rfl | hk
   ·exact ⟨l,by simp,h1⟩
   ·obtain ⟨m,hm,e⟩:=f k hk
    exact ⟨m,by simp [hm],e⟩
  ·simp at h
theorem lnsT_in {t:Tbl}:∀ {y:List Tbl},t∈y→(lnsT t).length≤(lns y).length
 | u::y,h=>by
  rw [lns_cons',List.length_append]
  rcases List.mem_cons.1 h with rfl | h
  ·omega
  ·have:=lnsT_in h;omega
theorem sum_one (ns:List Ln):sumW (fun _=>1) ns=ns.length:=by
 induction ns with
 | nil=>rfl
 | cons n ns ih=>rw [sumW_cons,ih,List.length_cons];omega
theorem read_fit {nz:Bool} {ls:List (List UInt8)} {ns:List Ln} {y:List Tbl} (hn:ls.length≤65537) (hl:∀ l∈ls,l.length≤65537) (h2:readAll (pLn rdS nz) ls=some ns) (h3:asmL ns=some y):FitS y∧FitX y:=by
 obtain ⟨a1,a2⟩:=readAll_len ls ns h2
 have hok:=ok_whole (shw:=showS) (rd:=rdS) (readAll_sound (W:=okLn showS rdS) (fun _ _ e=>pLn_sound sr_ok e) ls ns h2) h3
 have hW:∀ n∈ns,lnW n≤70000:=fun n hn=>by
  obtain ⟨l,q1,q2⟩:=a2 n hn
  have:=(line_fit q2).1
  have:=hl l q1
  unfold lnW
  omega
 have s1:=sum_asmL (w:=lnW) (k:=4) (by decide) h3
 have s2:=sumW_le ns hW
 have s3:=sum_asmL (w:=fun _=>1) (k:=1) (Nat.le_refl _) h3
 rw [sum_one,sum_one] at s3
 have hP:=asmL_all (P:=fun n=>(nmsOf n).length≤70000∧∀ w∈nmsOf n,w.length≤70000) (by simp [nmsOf]) (fun n hn=>by
  obtain ⟨l,q1,q2⟩:=a2 n hn
  have h:=(line_fit q2).2
  have:=hl l q1
  exact ⟨by omega,fun w hw=>by have:=h.2 w hw;omega⟩) h3
 refine ⟨⟨by omega,by omega,fun t ht c hc=>?_⟩,⟨?_,fun t ht=>?_⟩⟩
 ·have:=hok (.column c) (List.mem_flatMap.2 ⟨t,ht,by simp [lnsT,hc]⟩)
  exact this.2.1
 ·have h0:y.length≤(lns y).length:=by
   clear s1 s2 s3 hP hok h3
   induction y with
   | nil=>simp
   | cons t y ih =>
    rw [lns_cons',List.length_append,List.length_cons]
    have:1≤(lnsT t).length:=by simp [lnsT]
    omega
  omega
 ·have hT:=hP t ht
  have hc:=lnsT_in ht
  have e:(lnsT t).length=1+t.cols.length+1+t.fgn.length+t.idx.length:=by simp only [lnsT,List.length_cons,List.length_append,List.length_map];omega
  constructor
  ·have:=(hT (.table t.nm) (by simp [lnsT])).2 t.nm (by simp [nmsOf]);omega
  ·omega
  ·have:=(hT (.key t.key) (by simp [lnsT])).1;simp only [nmsOf] at this;omega
  ·omega
  ·omega
  ·intro c hc
   have:=(hT (.column c) (by simp [lnsT,hc])).2 c.nm (by simp [nmsOf]);omega
  ·intro f hf
   have h:=hT (.foreign f) (by simp [lnsT,hf])
   refine ⟨?_,?_⟩
   ·have:=h.2 f.nm (by simp [nmsOf]);omega
   ·have:=h.1;simp only [nmsOf,List.length_cons] at this;omega
  ·intro f hf
   have h:=hT (.index f) (by simp [lnsT,hf])
   refine ⟨?_,?_⟩
   ·have:=h.2 f.nm (by simp [nmsOf]);omega
   ·have:=h.1;simp only [nmsOf,List.length_cons] at this;omega
def kindsL:List (List UInt8):=[[98,111,111,108],[105,110,116],[116,101,120,116],[109,111,109,101,110,116]]
theorem p_kinds:R K (.call 203 [.str [98,111,111,108,32,105,110,116,32,116,101,120,116,32,109,111,109,101,110,116]] [])=some (.rows (SLs kindsL),[]):=R_prim (by
 show pFields [.str [98,111,111,108,32,105,110,116,32,116,101,120,116,32,109,111,109,101,110,116]]=some (.rows (SLs kindsL))
 simp only [pFields]
 rw [if_pos (by decide)]
 rfl)
theorem c_kindWord {k:Int} (h:1≤k∧k≤4):R K (.call 116 [I k] [])=some (.str (kdT k),[]):=by
 have hf:=p_kinds
 simp only [kindsL,SLs,List.map_cons,List.map_nil] at hf
 have:k=1∨k=2∨k=3∨k=4:=by omega
 rcases this with rfl | rfl | rfl | rfl
 ·rw [call_116]
  simp -implicitDefEqProofs only [go_sem,simprocAttr,Tryz.f116,hf,at_0]
  all_goals rfl
 ·rw [call_116]
  simp -implicitDefEqProofs only [go_sem,simprocAttr,Tryz.f116,hf,at_1]
  all_goals rfl
 ·rw [call_116]
  simp -implicitDefEqProofs only [go_sem,simprocAttr,Tryz.f116,hf,at_2]
  all_goals rfl
 ·rw [call_116]
  simp -implicitDefEqProofs only [go_sem,simprocAttr,Tryz.f116,hf,at_3]
  all_goals rfl
theorem ix_kinds (w:List UInt8):ixN w kindsL 0+1=(kdO w).getD 0:=by
 unfold kindsL kdO
 simp only [ixN,eq_comm (b:=w)]
 repeat' split
 all_goals rfl
theorem ix_bounds (w:List UInt8) (l:List (List UInt8)):-1≤ixN w l 0∧ixN w l 0 < (l.length:Int):=by
 have h1:=ixN_lt w l 0
 rw [Nat.zero_add] at h1
 rcases ixN_ge w l 0 with h | h<;>omega
theorem c_kindOf (w:List UInt8):R K (.call 173 [.str w] [])=some (I ((kdO w).getD 0),[]):=by
 have hf:=p_kinds
 have hi:=c_ixS w kindsL (by decide)
 have hb:=ix_bounds w kindsL
 have hl:kindsL.length=4:=rfl
 have e:=ix_kinds w
 generalize ixN w kindsL 0=x at *
 have hw:wrapI .i64 (x+1)=x+1:=wrap_id (by omega) (by omega)
 rw [←e]
 rw [call_173]
 simp -implicitDefEqProofs only [go_sem,simprocAttr,Tryz.f173,hf,hi,hw]
theorem room_s {k:Nat} (h:k≤1000000000000):(k≤strMax)=True:=eq_true (by unfold strMax;omega)
theorem c_columnText (c:Col) (hn:c.nm.length≤200000000000) (hk:1≤c.kd∧c.kd≤4):R K (.call 61 [colA c] [])=some (.str (lnS (.column c)),[]):=by
 have h1:=c_kindWord hk
 have h2:=c_Show c.df.k c.df.n c.df.s
 have h3:=show_len c.df
 have h4:(kdT c.kd).length≤6:=by
  unfold kdT
  repeat' split
  all_goals decide
 have e:lnS (.column c)=[99,111,108,117,109,110,32]++c.nm++[32]++kdT c.kd++(if c.nl=true then [32,110,117,108,108] else [])++(if c.df.k=0 then [] else [32,100,101,102,97,117,108,116,32]++showS c.df):=by
  show jnW (colW::colT showS c)=_
  unfold colT dfW
  split<;>split<;>simp [jnW]
 rw [e]
 rw [Val.eta] at h2
 have s1:(7+c.nm.length≤strMax)=True:=room_s (by omega)
 have s2:(c.nm.length+1+1+1+1+1+1+1+1≤strMax)=True:=room_s (by omega)
 have s3:(c.nm.length+1+1+1+1+1+1+1+1+(kdT c.kd).length≤strMax)=True:=room_s (by omega)
 have s4:(c.nm.length+1+(kdT c.kd).length+1+1+1+1+1+1+1+5≤strMax)=True:=room_s (by omega)
 have s5:(9+(showS c.df).length≤strMax)=True:=room_s (by omega)
 have s6:(c.nm.length+1+(kdT c.kd).length+1+1+1+1+1+1+1+((showS c.df).length+1+1+1+1+1+1+1+1+1)≤strMax)=True:=room_s (by omega)
 have s7:(c.nm.length+1+(kdT c.kd).length+5+1+1+1+1+1+1+1+((showS c.df).length+1+1+1+1+1+1+1+1+1)≤strMax)=True:=room_s (by omega)
 cases hnl:c.nl
 ·by_cases h0:c.df.k=0
  ·have b0:(c.df.k==0)=true:=by simpa using h0
   rw [call_61]
   simp -implicitDefEqProofs only [go_sem,simprocAttr,Tryz.f61,colC,hnl,h1,s1,s2,s3,s4,s5,s6,s7,bne,b0]
   simp [h0]
  ·have b0:(c.df.k==0)=false:=by simpa using h0
   rw [call_61]
   simp -implicitDefEqProofs only [go_sem,simprocAttr,Tryz.f61,colC,hnl,h1,h2,s1,s2,s3,s4,s5,s6,s7,bne,b0]
   simp [h0]
 ·by_cases h0:c.df.k=0
  ·have b0:(c.df.k==0)=true:=by simpa using h0
   rw [call_61]
   simp -implicitDefEqProofs only [go_sem,simprocAttr,Tryz.f61,colC,hnl,h1,s1,s2,s3,s4,s5,s6,s7,bne,b0]
   simp [h0]
  ·have b0:(c.df.k==0)=false:=by simpa using h0
   rw [call_61]
   simp -implicitDefEqProofs only [go_sem,simprocAttr,Tryz.f61,colC,hnl,h1,h2,s1,s2,s3,s4,s5,s6,s7,bne,b0]
   simp [h0]
theorem p_JoinB (l:List (List UInt8)) (sep:List UInt8) (h1:l.length≤1000000000000) (h2:(Lib.join l sep).length≤1000000000000):R K (.call 118 [.rows (SLs l),.str sep] [])=some (.str (Lib.join l sep),[]):=R_prim (by
 show pJoin [.rows (SLs l),.str sep]=_
 simp only [pJoin]
 rw [strsOf_SL]
 simp only
 rw [if_pos (by simp only [Bool.and_eq_true,decide_eq_true_eq];omega)])
theorem c_joined (l more:List (List UInt8)) (hl:l.length≤200000000000) (hm:more.length≤10) (h0:more≠[]) (hj:(jnW (more++l)).length≤1000000000000):R K (.call 62 [.rows (SLs l),.lit (SLs more)] [])=some (.str (jnW (more++l)),[]):=by
 have hp:=p_JoinB (more++l) [32] (by simp;omega) (by rw [join_jn];exact hj)
 rw [join_jn] at hp
 have ea:SLs more++SLs l=SLs (more++l):=by simp [SLs]
 have rm:((more.length+l.length)*17≤roomMax)=True:=eq_true (by unfold roomMax;omega)
 cases l with
 | nil =>
  simp only [SLs,List.map_nil,List.append_nil] at hp ⊢
  rw [call_62]
  simp -implicitDefEqProofs only [go_sem,simprocAttr,Tryz.f62,hp]
 | cons a l =>
  generalize hb:a::l=b at *
  have pb:((0:Nat) < b.length)=True:=eq_true (by rw [←hb];simp)
  rw [call_62]
  simp -implicitDefEqProofs only [go_sem,simprocAttr,Tryz.f62,SLs_len,allLen_SLs,locsR_SLs,pb,rm,ea,hp]
theorem l_sxC (x:List Tbl) (i:Int) (t:Tbl)  (hF:(∀ c∈t.cols,c.nm.length≤200000000000∧(1≤c.kd∧c.kd≤4))) (hl:t.cols.length≤10000000) (ks:List It):∀ (q j:Nat) (acc acc':List (List UInt8)) (Bo:Code) (jj:Int),Loop Tryz.f17 2 Bo→jj=(j:Int)→t.cols.length=j+q→acc.length+q≤10000000→acc'=acc++(t.cols.drop j).map (fun c=>lnS (.column c)) →
  RL K (.run 17 0 (.code Bo::.lp Bo (some ([3,5,14,15,16,27,28,29],[])) 3::.blk 2 3::ks) [(3,.own 1 acc.length),(5,.ptr 2 0),(14,.rows (x.map tblC)),(15,I (x.length:Int)),(16,I i),(27,.rows (t.cols.map colC)),(28,I (t.cols.length:Int)),(29,I jj)] [.cells [.rows (x.map tblC)],.rows 1 (SLs acc) false,.cells (tblC t)]) =
  R K (.run 17 0 ks [(3,.own 1 acc'.length),(5,.ptr 2 0),(14,.rows (x.map tblC)),(15,I (x.length:Int)),(16,I i)] [.cells [.rows (x.map tblC)],.rows 1 (SLs acc') false,.cells (tblC t)])
 | 0,j,acc,acc',Bo,jj,hB,hj,hq,ha,he=>by
  subst hj
  have d:¬(j:Int) < (t.cols.length:Int):=by omega
  rw [List.drop_of_length_le (by omega),List.map_nil,List.append_nil] at he
  subst he
  unfold Loop at hB
  simp -implicitDefEqProofs only [go_sem,simprocAttr,Tryz.f17,loopOf] at hB
  subst hB
  rw [RL_eq]
  simp -implicitDefEqProofs only [go_sem,simprocAttr,d,tblC,locsR_SLs]
 | q+1,j,acc,acc',Bo,jj,hB,hj,hq,ha,he=>by
  subst hj
  have hB':=hB
  have d:(j:Int) < (t.cols.length:Int):=by omega
  have h7:=next_id (i:=j) (n:=t.cols.length) (by omega) (by omega)
  obtain ⟨c,hc⟩:=some_at (l:=t.cols) (i:=j) (by omega)
  have gc:=col_get hc
  obtain ⟨f1,f2⟩:=hF c (List.mem_of_getElem? hc)
  rw [drop_get hc,List.map_cons] at he
  have h1:=c_columnText c f1 f2
  have sa:=SLs_app acc (lnS (.column c))
  have rm:((acc.length+1)*17≤roomMax)=True:=eq_true (by unfold roomMax;omega)
  have ih:=l_sxC x i t hF hl ks q (j+1) (acc++[lnS (.column c)]) acc' Bo _ hB' rfl (by omega) (by simp;omega) (by rw [he];simp)
  have sl:(acc++[lnS (.column c)]).length=acc.length+1:=by simp
  rw [sl] at ih
  simp only [colA,colC,tblC] at gc h1 ih ⊢
  generalize lnS (.column c)=w at *
  unfold Loop at hB
  simp -implicitDefEqProofs only [go_sem,simprocAttr,Tryz.f17,loopOf] at hB
  subst hB
  rw [RL_eq]
  simp -implicitDefEqProofs only [go_sem,simprocAttr,d,h7,gc,h1,sa,rm,SLs_len,locsR_SLs]
  exact ih
theorem l_sxF (x:List Tbl) (i:Int) (t:Tbl)  (hF:(∀ c∈t.fgn,c.cols.length≤200000000000∧(lnS (.foreign c)).length≤1000000000000)) (hl:t.fgn.length≤10000000) (ks:List It):∀ (q j:Nat) (acc acc':List (List UInt8)) (Bo:Code) (jj:Int),Loop Tryz.f17 4 Bo→jj=(j:Int)→t.fgn.length=j+q→acc.length+q≤10000000→acc'=acc++(t.fgn.drop j).map (fun c=>lnS (.foreign c)) →
  RL K (.run 17 0 (.code Bo::.lp Bo (some ([3,5,14,15,16,47,48,49],[])) 3::.blk 4 3::ks) [(3,.own 1 acc.length),(5,.ptr 2 0),(14,.rows (x.map tblC)),(15,I (x.length:Int)),(16,I i),(47,.rows (t.fgn.map fgnC)),(48,I (t.fgn.length:Int)),(49,I jj)] [.cells [.rows (x.map tblC)],.rows 1 (SLs acc) false,.cells (tblC t)]) =
  R K (.run 17 0 ks [(3,.own 1 acc'.length),(5,.ptr 2 0),(14,.rows (x.map tblC)),(15,I (x.length:Int)),(16,I i)] [.cells [.rows (x.map tblC)],.rows 1 (SLs acc') false,.cells (tblC t)])
 | 0,j,acc,acc',Bo,jj,hB,hj,hq,ha,he=>by
  subst hj
  have d:¬(j:Int) < (t.fgn.length:Int):=by omega
  rw [List.drop_of_length_le (by omega),List.map_nil,List.append_nil] at he
  subst he
  unfold Loop at hB
  simp -implicitDefEqProofs only [go_sem,simprocAttr,Tryz.f17,loopOf] at hB
  subst hB
  rw [RL_eq]
  simp -implicitDefEqProofs only [go_sem,simprocAttr,d,tblC,locsR_SLs]
 | q+1,j,acc,acc',Bo,jj,hB,hj,hq,ha,he=>by
  subst hj
  have hB':=hB
  have d:(j:Int) < (t.fgn.length:Int):=by omega
  have h7:=next_id (i:=j) (n:=t.fgn.length) (by omega) (by omega)
  obtain ⟨c,hc⟩:=some_at (l:=t.fgn) (i:=j) (by omega)
  have gc:=fgn_get hc
  obtain ⟨f1,f2⟩:=hF c (List.mem_of_getElem? hc)
  rw [drop_get hc,List.map_cons] at he
  have h1:=c_joined c.cols [forW,c.nm,c.tb] f1 (by simp) (by simp) f2
  have e1:jnW ([forW,c.nm,c.tb]++c.cols)=lnS (.foreign c):=rfl
  rw [e1] at h1
  have sa:=SLs_app acc (lnS (.foreign c))
  have rm:((acc.length+1)*17≤roomMax)=True:=eq_true (by unfold roomMax;omega)
  have ih:=l_sxF x i t hF hl ks q (j+1) (acc++[lnS (.foreign c)]) acc' Bo _ hB' rfl (by omega) (by simp;omega) (by rw [he];simp)
  have sl:(acc++[lnS (.foreign c)]).length=acc.length+1:=by simp
  rw [sl] at ih
  simp only [SLs,List.map_cons,List.map_nil] at h1
  simp only [colA,fgnC,tblC] at gc h1 ih ⊢
  generalize lnS (.foreign c)=w at *
  unfold Loop at hB
  simp -implicitDefEqProofs only [go_sem,simprocAttr,Tryz.f17,loopOf] at hB
  subst hB
  rw [RL_eq]
  simp -implicitDefEqProofs only [go_sem,simprocAttr,d,h7,gc,h1,sa,rm,SLs_len,locsR_SLs]
  exact ih
theorem l_sxI (x:List Tbl) (i:Int) (t:Tbl)  (hF:(∀ c∈t.idx,c.cols.length≤200000000000∧(lnS (.index c)).length≤1000000000000)) (hl:t.idx.length≤10000000) (ks:List It):∀ (q j:Nat) (acc acc':List (List UInt8)) (Bo:Code) (jj:Int),Loop Tryz.f17 6 Bo→jj=(j:Int)→t.idx.length=j+q→acc.length+q≤10000000→acc'=acc++(t.idx.drop j).map (fun c=>lnS (.index c)) →
  RL K (.run 17 0 (.code Bo::.lp Bo (some ([3,14,15,16,66,67,68],[])) 3::.blk 6 3::ks) [(3,.own 1 acc.length),(14,.rows (x.map tblC)),(15,I (x.length:Int)),(16,I i),(66,.rows (t.idx.map idxC)),(67,I (t.idx.length:Int)),(68,I jj)] [.cells [.rows (x.map tblC)],.rows 1 (SLs acc) false,.cells (tblC t)]) =
  R K (.run 17 0 ks [(3,.own 1 acc'.length),(14,.rows (x.map tblC)),(15,I (x.length:Int)),(16,I i)] [.cells [.rows (x.map tblC)],.rows 1 (SLs acc') false,.cells (tblC t)])
 | 0,j,acc,acc',Bo,jj,hB,hj,hq,ha,he=>by
  subst hj
  have d:¬(j:Int) < (t.idx.length:Int):=by omega
  rw [List.drop_of_length_le (by omega),List.map_nil,List.append_nil] at he
  subst he
  unfold Loop at hB
  simp -implicitDefEqProofs only [go_sem,simprocAttr,Tryz.f17,loopOf] at hB
  subst hB
  rw [RL_eq]
  simp -implicitDefEqProofs only [go_sem,simprocAttr,d,tblC,locsR_SLs]
 | q+1,j,acc,acc',Bo,jj,hB,hj,hq,ha,he=>by
  subst hj
  have hB':=hB
  have d:(j:Int) < (t.idx.length:Int):=by omega
  have h7:=next_id (i:=j) (n:=t.idx.length) (by omega) (by omega)
  obtain ⟨c,hc⟩:=some_at (l:=t.idx) (i:=j) (by omega)
  have gc:=idx_get hc
  obtain ⟨f1,f2⟩:=hF c (List.mem_of_getElem? hc)
  rw [drop_get hc,List.map_cons] at he
  have h1:=fun w hw=>c_joined c.cols [w,c.nm] f1 (by simp) (by simp) hw
  have sa:=SLs_app acc (lnS (.index c))
  have rm:((acc.length+1)*17≤roomMax)=True:=eq_true (by unfold roomMax;omega)
  have ih:=l_sxI x i t hF hl ks q (j+1) (acc++[lnS (.index c)]) acc' Bo _ hB' rfl (by omega) (by simp;omega) (by rw [he];simp)
  have sl:(acc++[lnS (.index c)]).length=acc.length+1:=by simp
  rw [sl] at ih
  simp only [SLs,List.map_cons,List.map_nil] at h1
  simp only [idxC,tblC] at gc ih ⊢
  cases hu:c.uq
  ·have e1:jnW ([indW,c.nm]++c.cols)=lnS (.index c):=by show _=jnW ((if c.uq=true then uniW else indW)::c.nm::c.cols);rw [hu];rfl
   have h1:=h1 indW (by rw [e1];exact f2)
   rw [e1] at h1
   rw [hu] at gc
   generalize lnS (.index c)=w at *
   unfold Loop at hB
   simp -implicitDefEqProofs only [go_sem,simprocAttr,Tryz.f17,loopOf] at hB
   subst hB
   rw [RL_eq]
   simp -implicitDefEqProofs only [go_sem,simprocAttr,d,h7,gc,h1,sa,rm,SLs_len,locsR_SLs]
   exact ih
  ·have e1:jnW ([uniW,c.nm]++c.cols)=lnS (.index c):=by show _=jnW ((if c.uq=true then uniW else indW)::c.nm::c.cols);rw [hu];rfl
   have h1:=h1 uniW (by rw [e1];exact f2)
   rw [e1] at h1
   rw [hu] at gc
   generalize lnS (.index c)=w at *
   unfold Loop at hB
   simp -implicitDefEqProofs only [go_sem,simprocAttr,Tryz.f17,loopOf] at hB
   subst hB
   rw [RL_eq]
   simp -implicitDefEqProofs only [go_sem,simprocAttr,d,h7,gc,h1,sa,rm,SLs_len,locsR_SLs]
   exact ih
theorem nm_eq (s:List UInt8):(s.all (chB [95])&&!(s==[]))=nmB s:=by
 cases s<;>simp [nmB]
abbrev rB (b:Bool):Blk:=.cells [.bool b]
theorem c_part (b:Bool) (s:List UInt8) (hs:s.length≤100000000):R K (.call 79 [.ptr 0 0,.str s,.str [95]] [rB b])=some (.str s,[rB (b||!nmB s)]):=by
 have h1:=c_consists s [95] hs
 rw [nm_eq] at h1
 cases b
 ·rw [call_79]
  simp -implicitDefEqProofs only [go_sem,simprocAttr,Tryz.f79,h1]
 ·rw [call_79]
  simp -implicitDefEqProofs only [go_sem,simprocAttr,Tryz.f79,h1]
theorem c_done (b:Bool) (ws:List (List UInt8)):R K (.call 81 [.ptr 0 0,.rows (SLs ws)] [rB b])=some (.tup [],[rB (b||decide (ws≠[]))]):=by
 cases ws with
 | nil =>
  cases b
  ·rw [call_81]
   simp -implicitDefEqProofs only [go_sem,simprocAttr,Tryz.f81,SLs,List.map_nil]
   all_goals rfl
  ·rw [call_81]
   simp -implicitDefEqProofs only [go_sem,simprocAttr,Tryz.f81,SLs,List.map_nil]
   all_goals rfl
 | cons w r =>
  have d:decide ((0:Int) < ((r.length+1:Nat):Int))=true:=decide_eq_true (by omega)
  have e:decide ((w::r)≠[])=true:=by simp
  cases b
  ·rw [call_81]
   simp -implicitDefEqProofs only [go_sem,simprocAttr,Tryz.f81,SLs,List.map_cons,List.length_map,d,e]
  ·rw [call_81]
   simp -implicitDefEqProofs only [go_sem,simprocAttr,Tryz.f81,SLs,List.map_cons,List.length_map,d,e]
theorem tail_rows (r:List (List UInt8)):(SLs r).take r.length=SLs r:=List.take_of_length_le (by simp [SLs])
theorem c_take0 (b:Bool):R K (.call 80 [.ptr 0 0,.ptr 1 0] [rB b,.cells [.rows []]])=some (.str [],[rB true,.cells [.rows []]]):=by
 rw [call_80]
 simp -implicitDefEqProofs only [go_sem,simprocAttr,Tryz.f80,beq_self_eq_true]
theorem c_takeN (b:Bool):R K (.call 80 [.ptr 0 0,.ptr 1 0] [rB b,.cells [.nils]])=some (.str [],[rB true,.cells [.nils]]):=by
 rw [call_80]
 simp -implicitDefEqProofs only [go_sem,simprocAttr,Tryz.f80,beq_self_eq_true]
theorem c_take (b:Bool) (w:List UInt8) (r:List (List UInt8)):R K (.call 80 [.ptr 0 0,.ptr 1 0] [rB b,.cells [.rows (SLs (w::r))]])=some (.str w,[rB b,.cells [.rows (SLs r)]]):=by
 have d:(((r.length+1:Nat):Int)==0)=false:=by simp;omega
 have g9:((1:Int)≤((r.length+1:Nat):Int))=True:=eq_true (by omega)
 have g7:(1:Int).toNat=1:=rfl
 have t:=tail_rows r
 have al:=allLen_SLs r
 simp only [SLs] at t al
 rw [call_80]
 simp -implicitDefEqProofs only [go_sem,simprocAttr,Tryz.f80,SLs,List.map_cons,List.length_map,d,at_zero,g9,g7,Nat.add_sub_cancel,t,al,allLen]
theorem c_next0 (w:List UInt8):R K (.call 174 [.ptr 0 0,.str w] [.cells [.rows []]])=some (.bool false,[.cells [.rows []]]):=by
 rw [call_174]
 simp -implicitDefEqProofs only [go_sem,simprocAttr,Tryz.f174,beq_self_eq_true]
theorem c_next (w v:List UInt8) (r:List (List UInt8)):R K (.call 174 [.ptr 0 0,.str w] [.cells [.rows (SLs (v::r))]])=some (.bool (v==w),[.cells [.rows (SLs (if v=w then r else v::r))]]):=by
 have d:(((r.length+1:Nat):Int)==0)=false:=by simp;omega
 have g9:((1:Int)≤((r.length+1:Nat):Int))=True:=eq_true (by omega)
 have g7:(1:Int).toNat=1:=rfl
 have t:=tail_rows r
 have al:=allLen_SLs r
 simp only [SLs] at t al
 by_cases h:v=w
 ·have hb:(v==w)=true:=by simpa using h
  rw [if_pos h,hb]
  rw [call_174]
  simp -implicitDefEqProofs only [go_sem,simprocAttr,Tryz.f174,SLs,List.map_cons,List.length_map,d,at_zero,g9,g7,Nat.add_sub_cancel,t,al,allLen,hb]
 ·have hb:(v==w)=false:=by simpa using h
  rw [if_neg h,hb]
  rw [call_174]
  simp -implicitDefEqProofs only [go_sem,simprocAttr,Tryz.f174,SLs,List.map_cons,List.length_map,d,at_zero,hb]
noncomputable def badV (s:List UInt8):Bool:=!decide ((readS s).2=0)||decide ((readS s).1.k=0)
theorem c_value (b:Bool) (s:List UInt8) (hs:s.length≤10000000):R K (.call 175 [.ptr 0 0,.str s] [rB b])=some (enc (readS s).1,[rB (b||badV s)]):=by
 have h1:=c_Read s hs
 unfold badV
 generalize (readS s).1=v at *
 generalize (readS s).2=e at *
 cases b
 ·by_cases h0:e=0
  ·have b0:(e==0)=true:=by simpa using h0
   by_cases h2:v.k=0
   ·have b2:(v.k==0)=true:=by simpa using h2
    rw [call_175]
    simp -implicitDefEqProofs only [go_sem,simprocAttr,Tryz.f175,h1,bne,b0,b2]
    simp [h0,h2]
   ·have b2:(v.k==0)=false:=by simpa using h2
    rw [call_175]
    simp -implicitDefEqProofs only [go_sem,simprocAttr,Tryz.f175,h1,bne,b0,b2]
    simp [h0,h2]
  ·have b0:(e==0)=false:=by simpa using h0
   rw [call_175]
   simp -implicitDefEqProofs only [go_sem,simprocAttr,Tryz.f175,h1,bne,b0]
   simp [h0]
 ·rw [call_175]
  simp -implicitDefEqProofs only [go_sem,simprocAttr,Tryz.f175,h1]
  all_goals simp
theorem l_talls (ws:List (List UInt8)) (hl:ws.length≤1000000) (hw:∀ w∈ws,w.length≤100000000) (ks:List It):∀ (q j:Nat) (b:Bool) (Bo:Code) (i:Int),Loop Tryz.f83 0 Bo→i=(j:Int)→ws.length=j+q →
  RL K (.run 83 1 (.code Bo::.lp Bo (some ([0,1,7,8,9],[])) 1::.blk 0 1::ks) [(0,.ptr 0 0),(1,.rows (SLs ws)),(7,.rows (SLs ws)),(8,I (ws.length:Int)),(9,I i)] [rB b]) =
  R K (.run 83 1 ks [(1,.rows (SLs ws))] [rB (b||!((ws.drop j).all nmB))])
 | 0,j,b,Bo,i,hB,hi,hq=>by
  subst hi
  have d:¬(j:Int) < (ws.length:Int):=by omega
  rw [List.drop_of_length_le (by omega),List.all_nil,Bool.not_true,Bool.or_false]
  unfold Loop at hB
  simp -implicitDefEqProofs only [go_sem,simprocAttr,Tryz.f83,loopOf] at hB
  subst hB
  rw [RL_eq]
  simp -implicitDefEqProofs only [go_sem,simprocAttr,d]
 | q+1,j,b,Bo,i,hB,hi,hq=>by
  subst hi
  have hB':=hB
  have d:(j:Int) < (ws.length:Int):=by omega
  have h7:=next_id (i:=j) (n:=ws.length) (by omega) (by omega)
  obtain ⟨c,hc⟩:=some_at (l:=ws) (i:=j) (by omega)
  have gc:=str_get hc
  have h1:=c_part b c (hw c (List.mem_of_getElem? hc))
  have ih:=l_talls ws hl hw ks q (j+1) (b||!nmB c) Bo _ hB' rfl (by omega)
  rw [drop_get hc,List.all_cons]
  have e:(b||!(nmB c&&(ws.drop (j+1)).all nmB))=(b||!nmB c||!((ws.drop (j+1)).all nmB)):=by
   cases b<;>cases nmB c<;>simp
  rw [e]
  unfold Loop at hB
  simp -implicitDefEqProofs only [go_sem,simprocAttr,Tryz.f83,loopOf] at hB
  subst hB
  rw [RL_eq]
  simp -implicitDefEqProofs only [go_sem,simprocAttr,d,h7,gc,h1]
  exact ih
theorem c_talls (b:Bool) (ws:List (List UInt8)) (hl:ws.length≤1000000) (hw:∀ w∈ws,w.length≤100000000):R K (.call 83 [.ptr 0 0,.rows (SLs ws)] [rB b])=some (.rows (SLs ws),[rB (b||!(ws.all nmB))]):=by
 have lk:=fun ks B hB=>l_talls ws hl hw ks ws.length 0 b B 0 hB rfl (by omega)
 simp only [List.drop_zero] at lk
 rw [call_83]
 simp -implicitDefEqProofs only [go_sem,simprocAttr,Tryz.f83,SLs_len]
 rw [lk _ _ ?_]
 ·simp -implicitDefEqProofs only [go_sem,simprocAttr]
 ·rfl
def preQ (cur:List UInt8):List (List UInt8)→List (List UInt8)
 | h::t=>(cur++h)::t
 | []=>[cur]
theorem qSp_ne (b:Bool) (l:List UInt8):qSp b l≠[]:=by
 cases l with
 | nil=>simp [qSp]
 | cons c r =>
  have hc:∀ L,consH c L≠[]:=fun L=>by cases L<;>simp [consH]
  simp only [qSp]
  split
  ·exact hc _
  ·split
   ·simp
   ·exact hc _
theorem pre_cons (cur:List UInt8) (c:UInt8) (L:List (List UInt8)):preQ cur (consH c L)=preQ (cur++[c]) L:=by
 cases L<;>simp [consH,preQ]
theorem pre_nil {L:List (List UInt8)} (h:L≠[]):preQ [] L=L:=by
 cases L with
 | nil=>exact absurd rfl h
 | cons a r=>rfl
theorem cur_next {s:List UInt8} {f j:Nat} {x:UInt8} (hx:s[j]? = some x) (hf:f≤j):(s.drop f).take (j+1 - f)=(s.drop f).take (j - f)++[x]:=by
 rw [show j+1 - f=(j - f)+1 by omega,List.take_add_one,List.getElem?_drop,show f+(j - f)=j by omega,hx]
 rfl
theorem u8_32 (c:UInt8):(((c.toNat:Nat):Int)==32)=(c==32):=u8_lit c 32 (by omega)
theorem l_words (s:List UInt8) (hs:s.length≤10000000):∀ (m j:Nat) (q:Bool) (f:Nat) (acc:List (List UInt8)),s.length=j+m→f≤j→acc.length≤j →
  ∃ (acc':List (List UInt8)) (f':Nat),acc'++[s.drop f']=acc++preQ ((s.drop f).take (j - f)) (qSp q (s.drop j))∧f'≤s.length∧acc'.length≤s.length∧∀ (ks:List It) (Bo:Code) (i:Int),Loop Tryz.f172 0 Bo→i=(j:Int) →
  RL K (.run 172 0 (.code Bo::.lp Bo (some ([0,3,4,5,8,9],[])) 1::.blk 0 1::ks) [(0,.str s),(3,.own 0 acc.length),(4,.bool q),(5,I (f:Int)),(8,I (s.length:Int)),(9,I i)] [.rows 1 (SLs acc) false]) =
  R K (.run 172 0 ks [(0,.str s),(3,.own 0 acc'.length),(5,I (f':Int))] [.rows 1 (SLs acc') false])
 | 0,j,q,f,acc,hj,hf,ha=>by
  have h1:¬(j:Int) < (s.length:Int):=by omega
  refine ⟨acc,f,?_,by omega,by omega,fun ks Bo i hB hi=>?_⟩
  ·have ej:s.drop j=[]:=List.drop_of_length_le (by omega)
   rw [ej,show qSp q []=[[]] from rfl]
   simp only [preQ,List.append_nil]
   rw [List.take_of_length_le (by simp;omega)]
  ·subst hi
   unfold Loop at hB
   simp -implicitDefEqProofs only [go_sem,simprocAttr,Tryz.f172,loopOf] at hB
   subst hB
   rw [RL_eq]
   simp -implicitDefEqProofs only [go_sem,simprocAttr,h1,locsR_SLs]
 | m+1,j,q,f,acc,hj,hf,ha=>by
  have h1:(j:Int) < (s.length:Int):=by omega
  have h7:=next_id (i:=j) (n:=s.length) (by omega) (by omega)
  obtain ⟨c,hc⟩:=some_at (l:=s) (i:=j) (by omega)
  have hg:=byte_get hc
  have cn:=cur_next hc hf
  by_cases h39:c=39
  ·obtain ⟨acc',f',p1,p2,p3,ih⟩:=l_words s hs m (j+1) (!q) f acc (by omega) (by omega) (by omega)
   refine ⟨acc',f',?_,p2,p3,fun ks Bo i hB hi=>?_⟩
   ·rw [p1,drop_get hc,cn]
    simp only [qSp]
    rw [if_pos h39,pre_cons]
   ·subst hi
    have ih:=ih ks Bo _ hB rfl
    have b1:(c==39)=true:=by simpa using h39
    have b2:(((c.toNat:Nat):Int)==39)=true:=by rw [h39];rfl
    unfold Loop at hB
    simp -implicitDefEqProofs only [go_sem,simprocAttr,Tryz.f172,loopOf] at hB
    subst hB
    rw [RL_eq]
    simp -implicitDefEqProofs only [go_sem,simprocAttr,h1,h7,hg,b1,b2,locsR_SLs]
    exact ih
  ·have b2:(((c.toNat:Nat):Int)==39)=false:=by
    rw [u8_39];simpa using h39
   by_cases h32:c=32∧q=false
   ·obtain ⟨hc32,hq⟩:=h32
    obtain ⟨acc',f',p1,p2,p3,ih⟩:=l_words s hs m (j+1) false (j+1) (acc++[(s.drop f).take (j - f)]) (by omega) (by omega) (by simp;omega)
    refine ⟨acc',f',?_,p2,p3,fun ks Bo i hB hi=>?_⟩
    ·rw [p1,drop_get hc]
     simp only [qSp]
     rw [if_neg h39,if_pos ⟨hc32,hq⟩,Nat.sub_self,List.take_zero,pre_nil (qSp_ne _ _)]
     simp [preQ]
    ·subst hi
     have ih:=ih ks Bo _ hB rfl
     have b3:(((c.toNat:Nat):Int)==32)=true:=by rw [hc32];rfl
     have g1:((0:Int)≤(f:Int))=True:=eq_true (by omega)
     have g2:((f:Int)≤(j:Int))=True:=eq_true (by omega)
     have g3:((0:Int)≤(j:Int))=True:=eq_true (by omega)
     have g4:((j:Int)≤(s.length:Int))=True:=eq_true (by omega)
     have g5:((f:Int)≤(s.length:Int))=True:=eq_true (by omega)
     have sa:=SLs_app acc ((s.drop f).take (j - f))
     have rm:((acc.length+1)*17≤roomMax)=True:=eq_true (by unfold roomMax;omega)
     rw [List.length_append,List.length_singleton] at ih
     subst hq
     unfold Loop at hB
     simp -implicitDefEqProofs only [go_sem,simprocAttr,Tryz.f172,loopOf] at hB
     subst hB
     rw [RL_eq]
     simp -implicitDefEqProofs only [go_sem,simprocAttr,h1,h7,hg,b2,b3,g1,g2,g3,g4,g5,Int.toNat_natCast,sa,rm,SLs_len,locsR_SLs]
     exact ih
   ·obtain ⟨acc',f',p1,p2,p3,ih⟩:=l_words s hs m (j+1) q f acc (by omega) (by omega) (by omega)
    refine ⟨acc',f',?_,p2,p3,fun ks Bo i hB hi=>?_⟩
    ·rw [p1,drop_get hc,cn]
     simp only [qSp]
     rw [if_neg h39,if_neg h32,pre_cons]
    ·subst hi
     have ih:=ih ks Bo _ hB rfl
     by_cases hc32:c=32
     ·have hq:q=true:=by
       cases q
       ·exact absurd ⟨hc32,rfl⟩ h32
       ·rfl
      subst hq
      have b3:(((c.toNat:Nat):Int)==32)=true:=by rw [hc32];rfl
      unfold Loop at hB
      simp -implicitDefEqProofs only [go_sem,simprocAttr,Tryz.f172,loopOf] at hB
      subst hB
      rw [RL_eq]
      simp -implicitDefEqProofs only [go_sem,simprocAttr,h1,h7,hg,b2,b3,locsR_SLs]
      exact ih
     ·have b3:(((c.toNat:Nat):Int)==32)=false:=by
       rw [u8_32];simpa using hc32
      unfold Loop at hB
      simp -implicitDefEqProofs only [go_sem,simprocAttr,Tryz.f172,loopOf] at hB
      subst hB
      rw [RL_eq]
      simp -implicitDefEqProofs only [go_sem,simprocAttr,h1,h7,hg,b2,b3,locsR_SLs]
      exact ih
theorem c_words (s:List UInt8) (hs:s.length≤10000000):R K (.call 172 [.str s] [])=some (.rows (SLs (qSp false s)),[]):=by
 obtain ⟨acc,f,p1,p2,p3,lk⟩:=l_words s hs s.length 0 false 0 [] (by omega) (by omega) (by simp)
 simp only [List.drop_zero,Nat.sub_self,List.take_zero,List.nil_append] at p1
 rw [pre_nil (qSp_ne _ _)] at p1
 have g1:((0:Int)≤(f:Int))=True:=eq_true (by omega)
 have g2:((f:Int)≤(s.length:Int))=True:=eq_true (by omega)
 have e2:(s.drop f).take (s.length - f)=s.drop f:=List.take_of_length_le (by simp)
 have sa:=SLs_app acc (s.drop f)
 rw [p1] at sa
 have rm:((acc.length+1)*17≤roomMax)=True:=eq_true (by unfold roomMax;omega)
 have ln:acc.length+1=(qSp false s).length:=by rw [←p1];simp
 rw [ln] at rm
 have en:SLs []=([]:List (List AV)):=rfl
 simp only [en,List.length_nil,Int.natCast_zero] at lk
 rw [call_172]
 simp -implicitDefEqProofs only [go_sem,simprocAttr,Tryz.f172,en]
 rw [lk _ _ 0 ?_ rfl]
 ·simp -implicitDefEqProofs only [go_sem,simprocAttr,g1,g2,Int.toNat_natCast,e2,sa,rm,ln,SLs_len,locsR_SLs,List.length_append,List.length_singleton,or_true]
 ·rfl
theorem c_kind0:R K (.call 173 [.str []] [])=some (I 0,[]):=by
 have h:=c_kindOf []
 exact h
theorem bad_rd (w:List UInt8):badV w=match rdS w with
  | some v=>decide (v.k=0)
  | none=>true:=by
 unfold badV rdS
 by_cases h:(readS w).2=0
 ·rw [if_pos h];simp [h]
 ·rw [if_neg h];simp [h]
theorem rd_val {w:List UInt8} (h:badV w=false):rdS w=some (readS w).1∧(readS w).1.k≠0:=by
 unfold badV at h
 simp only [Bool.or_eq_false_iff,Bool.not_eq_false',decide_eq_true_eq,decide_eq_false_iff_not] at h
 exact ⟨by unfold rdS;rw [if_pos h.1],h.2⟩
theorem c_done0 (b:Bool):R K (.call 81 [.ptr 0 0,.rows []] [rB b])=some (.tup [],[rB b]):=by
 have h:=c_done b []
 rw [show (b||decide (([]:List (List UInt8))≠[]))=b by simp] at h
 exact h
theorem c_done1 (b:Bool) (w:List UInt8) (r:List (List UInt8)):R K (.call 81 [.ptr 0 0,.rows (SLs (w::r))] [rB b])=some (.tup [],[rB true]):=by
 have h:=c_done b (w::r)
 rw [show (b||decide ((w::r:List (List UInt8))≠[]))=true by simp] at h
 exact h
section
variable {nz:Bool} {line n k v:List UInt8} {ws:List (List UInt8)} {kd:Int}
theorem pc_one (h:qSp false line=[n]):pCol rdS nz line=none:=by
 unfold pCol
 rw [h]
theorem pc_kind (h:qSp false line=n::k::ws) (hk:kdO k=none):pCol rdS nz line=none:=by
 unfold pCol
 rw [h]
 simp only [hk]
 split<;>rfl
theorem pc_nil (h:qSp false line=[n,k]) (hk:kdO k=some kd):pCol rdS nz line=if nmB n=true then some (.column ⟨n,kd,false,⟨0,0,[]⟩⟩) else none:=by
 unfold pCol
 rw [h]
 simp only [hk]
theorem pc_null (h:qSp false line=n::k::nulW::ws) (hk:kdO k=some kd):pCol rdS nz line=if nmB n=true then (pDf rdS nz ws).map (fun v=>.column ⟨n,kd,true,v⟩) else none:=by
 unfold pCol
 rw [h]
 simp only [hk,if_true]
theorem pc_not (h:qSp false line=n::k::v::ws) (hv:¬v=nulW) (hk:kdO k=some kd):pCol rdS nz line=if nmB n=true then (pDf rdS nz (v::ws)).map (fun v=>.column ⟨n,kd,false,v⟩) else none:=by
 unfold pCol
 rw [h]
 simp only [hk,if_neg hv]
end
theorem end_case (b:Bool) (w0 w:List UInt8) (r:List (List UInt8)) (f:Val→Ln) :
  ((if nmB w0=true then (pDf rdS true (defW::w::r)).map f else none)=some (f (readS w).1)∧(b||!nmB w0||badV w||decide (r≠[]))=b)∨((if nmB w0=true then (pDf rdS true (defW::w::r)).map f else none)=none∧(b||!nmB w0||badV w||decide (r≠[]))=true):=by
 cases hn:nmB w0
 ·exact .inr ⟨by simp,by simp⟩
 ·cases r with
  | cons y z=>exact .inr ⟨by simp [pDf],by simp⟩
  | nil =>
   cases hb:badV w
   ·obtain ⟨q1,q2⟩:=rd_val hb
    exact .inl ⟨by simp [pDf,q1,q2],by simp⟩
   ·have hb':=hb
    rw [bad_rd] at hb'
    refine .inr ⟨?_,by simp⟩
    cases e:rdS w with
    | none=>simp [pDf,e]
    | some v =>
     rw [e] at hb'
     simp only [decide_eq_true_eq] at hb'
     simp [pDf,e,hb']
set_option maxHeartbeats 4000000 in
theorem c_column (b:Bool) (line:List UInt8) (hl:line.length≤1000000):∃ (c:Col) (b':Bool),R K (.call 82 [.ptr 0 0,.str line] [rB b])=some (colA c,[rB b'])∧((pCol rdS true line=some (.column c)∧b'=b)∨(pCol rdS true line=none∧b'=true)):=by
 have hW:=c_words line (by omega)
 have hlen:=qSp_len line false
 have hne:=qSp_ne false line
 generalize hQ:qSp false line=W at *
 cases W with
 | nil=>exact absurd rfl hne
 | cons w0 W =>
  have t1:=c_take b w0 W
  have p1:=c_part b w0 (by have:=hlen w0 (by simp);omega)
  cases W with
  | nil =>
   have t2:=c_take0 (b||!nmB w0)
   have k0:=c_kind0
   refine ⟨⟨w0,0,false,⟨0,0,[]⟩⟩,true,?_,.inr ⟨pc_one hQ,rfl⟩⟩
   simp only [SLs,List.map_cons,List.map_nil] at t1 hW
   rw [call_82]
   simp -implicitDefEqProofs only [go_sem,simprocAttr,Tryz.f82,hW,t1,p1,t2,k0,colC,beq_self_eq_true]
   all_goals rfl
  | cons k ws =>
   have t2:=c_take (b||!nmB w0) k ws
   have k0:=c_kindOf k
   simp only [SLs,List.map_cons] at t1 t2 hW
   cases hk:kdO k with
   | none =>
    rw [hk,Option.getD_none] at k0
    refine ⟨⟨w0,0,false,⟨0,0,[]⟩⟩,true,?_,.inr ⟨pc_kind hQ hk,rfl⟩⟩
    rw [call_82]
    simp -implicitDefEqProofs only [go_sem,simprocAttr,Tryz.f82,hW,t1,p1,t2,k0,colC,beq_self_eq_true]
    all_goals rfl
   | some kd =>
    have hkd:=kdO_some hk
    have d0:(kd==0)=false:=by simp;omega
    rw [hk,Option.getD_some] at k0
    cases ws with
    | nil =>
     have n1:=c_next0 nulW
     have n2:=c_next0 defW
     have dn:=c_done0 (b||!nmB w0)
     simp only [List.map_nil] at t2 hW t1
     refine ⟨⟨w0,kd,false,⟨0,0,[]⟩⟩,b||!nmB w0,?_,?_⟩
     ·rw [call_82]
      simp -implicitDefEqProofs only [go_sem,simprocAttr,Tryz.f82,hW,t1,p1,t2,k0,d0,n1,n2,dn,colC]
      all_goals rfl
     ·rw [pc_nil hQ hk]
      cases nmB w0<;>simp
    | cons v r =>
     by_cases hv:v=nulW
     ·subst hv
      have n1:=c_next nulW nulW r
      rw [if_pos rfl,beq_self_eq_true] at n1
      rw [pc_null hQ hk]
      cases r with
      | nil =>
       have n2:=c_next0 defW
       have dn:=c_done0 (b||!nmB w0)
       simp only [SLs,List.map_cons,List.map_nil] at hW t1 t2 n1
       refine ⟨⟨w0,kd,true,⟨0,0,[]⟩⟩,b||!nmB w0,?_,?_⟩
       ·rw [call_82]
        simp -implicitDefEqProofs only [go_sem,simprocAttr,Tryz.f82,hW,t1,p1,t2,k0,d0,n1,n2,dn,colC]
        all_goals rfl
       ·cases nmB w0<;>simp [pDf]
      | cons d r' =>
       have n2:=c_next defW d r'
       by_cases hd:d=defW
       ·subst hd
        rw [if_pos rfl,beq_self_eq_true] at n2
        cases r' with
        | nil =>
         have t3:=c_take0 (b||!nmB w0)
         have v1:=c_value true [] (by simp)
         have dn:=c_done0 true
         simp only [SLs,List.map_cons,List.map_nil] at hW t1 t2 n1 n2
         refine ⟨⟨w0,kd,true,(readS []).1⟩,true,?_,.inr ⟨by cases nmB w0<;>simp [pDf],rfl⟩⟩
         rw [call_82]
         simp -implicitDefEqProofs only [go_sem,simprocAttr,Tryz.f82,hW,t1,p1,t2,k0,d0,n1,n2,t3,v1,dn,colC]
         all_goals rfl
        | cons w r'' =>
         have hwl:w.length≤1000000:=by have:=hlen w (by simp);omega
         have t3:=c_take (b||!nmB w0) w r''
         have v1:=c_value (b||!nmB w0) w (by omega)
         have dn:=c_done (b||!nmB w0||badV w) r''
         simp only [SLs,List.map_cons] at hW t1 t2 n1 n2 t3 dn
         refine ⟨⟨w0,kd,true,(readS w).1⟩,b||!nmB w0||badV w||decide (r''≠[]),?_,end_case b w0 w r'' _⟩
         rw [call_82]
         simp -implicitDefEqProofs only [go_sem,simprocAttr,Tryz.f82,hW,t1,p1,t2,k0,d0,n1,n2,t3,v1,dn,colC]
         all_goals rfl
       ·have bd:(d==defW)=false:=by simpa using hd
        rw [if_neg hd,bd] at n2
        have dn:=c_done1 (b||!nmB w0) d r'
        simp only [SLs,List.map_cons] at hW t1 t2 n1 n2 dn
        refine ⟨⟨w0,kd,true,⟨0,0,[]⟩⟩,true,?_,.inr ⟨?_,rfl⟩⟩
        ·rw [call_82]
         simp -implicitDefEqProofs only [go_sem,simprocAttr,Tryz.f82,hW,t1,p1,t2,k0,d0,n1,n2,dn,colC]
         all_goals rfl
        ·cases r' with
         | nil=>cases nmB w0<;>simp [pDf]
         | cons w r''=>cases r''<;>cases nmB w0<;>simp [pDf,hd]
     ·have n1:=c_next nulW v r
      have bv:(v==nulW)=false:=by simpa using hv
      rw [if_neg hv,bv] at n1
      rw [pc_not hQ hv hk]
      have n2:=c_next defW v r
      by_cases hd:v=defW
      ·subst hd
       rw [if_pos rfl,beq_self_eq_true] at n2
       cases r with
       | nil =>
        have t3:=c_take0 (b||!nmB w0)
        have v1:=c_value true [] (by simp)
        have dn:=c_done0 true
        simp only [SLs,List.map_cons,List.map_nil] at hW t1 t2 n1 n2
        refine ⟨⟨w0,kd,false,(readS []).1⟩,true,?_,.inr ⟨by cases nmB w0<;>simp [pDf],rfl⟩⟩
        rw [call_82]
        simp -implicitDefEqProofs only [go_sem,simprocAttr,Tryz.f82,hW,t1,p1,t2,k0,d0,n1,n2,t3,v1,dn,colC]
        all_goals rfl
       | cons w r'' =>
        have hwl:w.length≤1000000:=by have:=hlen w (by simp);omega
        have t3:=c_take (b||!nmB w0) w r''
        have v1:=c_value (b||!nmB w0) w (by omega)
        have dn:=c_done (b||!nmB w0||badV w) r''
        simp only [SLs,List.map_cons] at hW t1 t2 n1 n2 t3 dn
        refine ⟨⟨w0,kd,false,(readS w).1⟩,b||!nmB w0||badV w||decide (r''≠[]),?_,end_case b w0 w r'' _⟩
        rw [call_82]
        simp -implicitDefEqProofs only [go_sem,simprocAttr,Tryz.f82,hW,t1,p1,t2,k0,d0,n1,n2,t3,v1,dn,colC]
        all_goals rfl
      ·have bd:(v==defW)=false:=by simpa using hd
       rw [if_neg hd,bd] at n2
       have dn:=c_done1 (b||!nmB w0) v r
       simp only [SLs,List.map_cons] at hW t1 t2 n1 n2 dn
       refine ⟨⟨w0,kd,false,⟨0,0,[]⟩⟩,true,?_,.inr ⟨?_,rfl⟩⟩
       ·rw [call_82]
        simp -implicitDefEqProofs only [go_sem,simprocAttr,Tryz.f82,hW,t1,p1,t2,k0,d0,n1,n2,dn,colC]
        all_goals rfl
       ·cases r with
        | nil=>cases nmB w0<;>simp [pDf]
        | cons w r''=>cases r''<;>cases nmB w0<;>simp [pDf,hd]
theorem locsR_app:∀ a b:List (List AV),locsR (a++b)=locsR a++locsR b
 | [],b=>rfl
 | r::a,b=>by simp only [List.cons_append,locsR];rw [locsR_app a b,List.append_assoc]
theorem tl_get (x:List Tbl) (r:List AV) (s:List (List AV)):(x.map tblC++r::s)[x.length]? = some r:=by
 rw [List.getElem?_append_right (by simp)]
 simp
theorem tl_at (x:List Tbl) (r:List AV) (s:List (List AV)):at? (x.map tblC++r::s) (x.length:Int)=some r:=at_get (tl_get x r s)
theorem tl_set (x:List Tbl) (r r':List AV) (s:List (List AV)):(x.map tblC++r::s).set x.length r'=x.map tblC++r'::s:=by
 rw [List.set_append_right _ _ (by simp)]
 simp
abbrev rowT (t:Tbl) (kv:AV):List AV:=[.str t.nm,.own 4 t.cols.length,kv,.own 5 t.fgn.length,.own 6 t.idx.length]
abbrev HB (b:Bool) (x:List Tbl) (t:Tbl) (kv:AV) (k:Bool):Heap:=[rB b,.cells [.own 3 (x.length+1)],.cells [.bool k],.rows 5 (x.map tblC++[rowT t kv]) true,.rows 6 (t.cols.map colC) true,.rows 3 (t.fgn.map fgnC) true,.rows 3 (t.idx.map idxC) true]
def KvOk (t:Tbl) (kv:AV):Prop:=(kv=.nils∧t.key=[])∨kv=.rows (SLs t.key)
theorem kv_locs {t:Tbl} {kv:AV} (h:KvOk t kv):locs kv=[]:=by
 rcases h with ⟨rfl,_⟩ | rfl<;>rfl
theorem line_cut (l:List UInt8):(∃ w r,Lib.cut l [32]=(w,r,true)∧splitC 32 l=w::splitC 32 r∧l=w++32::r∧(w==l)=false)∨(Lib.cut l [32]=(l,[],false)∧splitC 32 l=[l]):=by
 rcases cut_split 32 l with ⟨a,r,h1,e⟩ | h1
 ·refine .inl ⟨a,r,by rw [e];exact cut_app a r h1,by rw [e];exact splitC_app 32 a r h1,e,?_⟩
  rw [beq_eq_false_iff_ne]
  intro h
  have:=congrArg List.length (h.trans e)
  simp at this
 ·exact .inr ⟨cut_out l h1,splitC_one 32 l h1⟩
theorem sub_one (x:List Tbl) (hx:x.length≤1000000):wrapI .i64 (((x.length+1:Nat):Int) - 1)=(x.length:Int):=by rw [wrap_id (by omega) (by omega)];omega
section
variable (x:List Tbl) (hx:x.length≤1000000) (t:Tbl) (kv:AV) (k:Bool)
include hx
theorem s_key (hk:KvOk t kv) (l:List UInt8) (hl:l.length≤1000000) (ws:List (List UInt8)) (h:splitC 32 l=keyW::ws) :
  R K (.call 26 [.ptr 0 0,.ptr 1 0,.str l,.ptr 2 0] (HB false x t kv k))=some (.tup [],HB (k||!(ws.all nmB)) x (putL t (.key ws)) (.rows (SLs ws)) true):=by
 have hc:=p_Cut l (by omega)
 have hv:=kv_locs hk
 obtain ⟨z1,z2⟩:=splitC_len 32 l
 rw [h] at z1 z2
 have dl:(((x.length+1:Nat):Int)==0)=false:=by simp;omega
 have wi:=sub_one x hx
 have tg:=tl_get x (rowT t kv) []
 have ta:=tl_at x (rowT t kv) []
 have ts:=fun r'=>tl_set x (rowT t kv) r' []
 have q_table:(([107,101,121]:List UInt8)==[116,97,98,108,101])=false:=rfl
 have q_column:(([107,101,121]:List UInt8)==[99,111,108,117,109,110])=false:=rfl
 have h1:=c_talls k ws (by simp only [List.length_cons] at z1;omega) (fun w hw=>by have:=z2 w (by simp [hw]);omega)
 rcases line_cut l with ⟨w,r,e1,e2,e3,e4⟩ | ⟨e1,e2⟩
 ·rw [h] at e2
  obtain ⟨rfl,rfl⟩:=List.cons.inj e2
  rw [e1] at hc
  simp only at hc
  have hs:=p_Split r 32 (by have:=congrArg List.length e3;simp at this;omega)
  simp only [rowT,keyW] at tg ta ts e4 hc
  cases k
  ·rw [call_26]
   simp -implicitDefEqProofs only [go_sem,simprocAttr,Tryz.f26,e4,hs,HB,rB,rowT,hc,dl,wi,ta,tg,ts,hv,beq_self_eq_true,bne,Int.toNat_natCast,List.length_append,List.length_map,SLs_len,locsR_SLs,locsR_app,locsR_tbls,locsR_cols,locsR_fgns,locsR_idx,or_true,ne_eq,not_false_eq_true,false_or,reduceCtorEq,q_table,q_column,keyW,h1]
   all_goals rfl
  ·rw [call_26]
   simp -implicitDefEqProofs only [go_sem,simprocAttr,Tryz.f26,e4,hs,HB,rB,rowT,hc,dl,wi,ta,tg,ts,hv,beq_self_eq_true,bne,Int.toNat_natCast,List.length_append,List.length_map,SLs_len,locsR_SLs,locsR_app,locsR_tbls,locsR_cols,locsR_fgns,locsR_idx,or_true,ne_eq,not_false_eq_true,false_or,reduceCtorEq,q_table,q_column,keyW,h1]
   all_goals rfl
 ·rw [h] at e2
  obtain ⟨rfl,rfl⟩:=List.cons.inj e2
  rw [e1] at hc
  simp only at hc
  simp only [rowT,keyW] at tg ta ts hc
  simp only [SLs,List.map_nil] at h1
  cases k
  ·rw [call_26]
   simp -implicitDefEqProofs only [go_sem,simprocAttr,Tryz.f26,HB,rB,rowT,hc,dl,wi,ta,tg,ts,hv,beq_self_eq_true,bne,Int.toNat_natCast,List.length_append,List.length_map,SLs_len,locsR_SLs,locsR_app,locsR_tbls,locsR_cols,locsR_fgns,locsR_idx,or_true,ne_eq,not_false_eq_true,false_or,reduceCtorEq,q_table,q_column,keyW,h1]
   all_goals rfl
  ·rw [call_26]
   simp -implicitDefEqProofs only [go_sem,simprocAttr,Tryz.f26,HB,rB,rowT,hc,dl,wi,ta,tg,ts,hv,beq_self_eq_true,bne,Int.toNat_natCast,List.length_append,List.length_map,SLs_len,locsR_SLs,locsR_app,locsR_tbls,locsR_cols,locsR_fgns,locsR_idx,or_true,ne_eq,not_false_eq_true,false_or,reduceCtorEq,q_table,q_column,keyW,h1]
   all_goals rfl
theorem s_col (hk:KvOk t kv) (hC:t.cols.length≤1000000) (l:List UInt8) (hl:l.length≤1000000) (ws:List (List UInt8)) (h:splitC 32 l=colW::ws) :
  ∃ (c:Col) (b':Bool),R K (.call 26 [.ptr 0 0,.ptr 1 0,.str l,.ptr 2 0] (HB false x t kv k))=some (.tup [],HB b' x (putL t (.column c)) kv k)∧((pCol rdS true (l.drop 7)=some (.column c)∧b'=false)∨(pCol rdS true (l.drop 7)=none∧b'=true)):=by
 have hc:=p_Cut l (by omega)
 have hv:=kv_locs hk
 obtain ⟨z1,z2⟩:=splitC_len 32 l
 rw [h] at z1 z2
 have dl:(((x.length+1:Nat):Int)==0)=false:=by simp;omega
 have wi:=sub_one x hx
 have tg:=tl_get x (rowT t kv) []
 have ta:=tl_at x (rowT t kv) []
 have ts:=fun r'=>tl_set x (rowT t kv) r' []
 have q_table:(([99,111,108,117,109,110]:List UInt8)==[116,97,98,108,101])=false:=rfl
 rcases line_cut l with ⟨w,r,e1,e2,e3,e4⟩ | ⟨e1,e2⟩
 ·rw [h] at e2
  obtain ⟨rfl,rfl⟩:=List.cons.inj e2
  rw [e1] at hc
  simp only at hc
  have hs:=p_Split r 32 (by have:=congrArg List.length e3;simp at this;omega)
  simp only [rowT,colW] at tg ta ts e4 hc
  have ed:l.drop 7=r:=by rw [e3];rfl
  rw [ed]
  obtain ⟨c,b',h1,hs1⟩:=c_column false r (by first | (simp;done) | (have:=congrArg List.length e3;simp at this;omega))
  refine ⟨c,b',?_,hs1⟩
  have ca:=cols_app t.cols c
  have rm:((t.cols.length+1)*65≤roomMax)=True:=eq_true (by unfold roomMax;omega)
  simp only [colA,colC] at h1 ca
  rw [call_26]
  simp -implicitDefEqProofs only [go_sem,simprocAttr,Tryz.f26,e4,hs,HB,rB,rowT,hc,dl,wi,ta,tg,ts,hv,beq_self_eq_true,bne,Int.toNat_natCast,List.length_append,List.length_map,SLs_len,locsR_SLs,locsR_app,locsR_tbls,locsR_cols,locsR_fgns,locsR_idx,or_true,ne_eq,not_false_eq_true,false_or,reduceCtorEq,q_table,colW,h1,ca,rm,putL]
  all_goals rfl
 ·rw [h] at e2
  obtain ⟨rfl,rfl⟩:=List.cons.inj e2
  rw [e1] at hc
  simp only at hc
  simp only [rowT,colW] at tg ta ts hc
  have ed:colW.drop 7=[]:=rfl
  rw [ed]
  obtain ⟨c,b',h1,hs1⟩:=c_column false [] (by first | (simp;done) | (have:=congrArg List.length e3;simp at this;omega))
  refine ⟨c,b',?_,hs1⟩
  have ca:=cols_app t.cols c
  have rm:((t.cols.length+1)*65≤roomMax)=True:=eq_true (by unfold roomMax;omega)
  simp only [colA,colC] at h1 ca
  rw [call_26]
  simp -implicitDefEqProofs only [go_sem,simprocAttr,Tryz.f26,HB,rB,rowT,hc,dl,wi,ta,tg,ts,hv,beq_self_eq_true,bne,Int.toNat_natCast,List.length_append,List.length_map,SLs_len,locsR_SLs,locsR_app,locsR_tbls,locsR_cols,locsR_fgns,locsR_idx,or_true,ne_eq,not_false_eq_true,false_or,reduceCtorEq,q_table,colW,h1,ca,rm,putL]
  all_goals rfl
end
end Go.Ab
