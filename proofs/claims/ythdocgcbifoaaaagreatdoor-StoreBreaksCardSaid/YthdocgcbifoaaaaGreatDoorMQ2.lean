/- What is proved: contracts of the program's and the reference's functions in the evaluator, and plain laws on them. Conditions: as each states. -/
import Derived.Test.YthdocgcbifoaaaaGreatDoorMQ1
set_option linter.unusedSimpArgs false
set_option linter.unusedSectionVars false
set_option linter.unusedVariables false
set_option maxRecDepth 100000
namespace Go.Ab
open Go Go.Proofs
section
variable {L:List Int}
theorem l_tb4 (nm inm:List UInt8) (uq:Bool) (cols:List Col) (key:List (List UInt8)) (cv kv:AV) (g:Heap) (hs:TbS cols key cv kv g) (a:Int) (is:List Idx) (r i:Int) (ps:List Int) (hp:∀ x∈ps,0≤x∧x < (cols.length:Int)) (hpl:ps.length≤2):∀ (q j:Nat) (ns:List (List UInt8)),ps.length=j+q→ns.length≤j→(∀ n∈ns,n∈cols.map (·.nm)) →
  ∃ ns':List (List UInt8),(ns'.length≤2∧∀ n∈ns',n∈cols.map (·.nm))∧∀ (ks:List It) (Bo:Code) (jj:Int),Loop Tryz.f12 4 Bo→jj=(j:Int) →
  RL K (.run 12 1 (.code Bo::.lp Bo (some ([0,4,5,8,51,52,74,75,76],[])) (6+g.length)::.blk 4 (6+g.length)::ks) [(0,.ptr 0 0),(4,.ptr 1 0),(5,.ptr 2 0),(8,.ptr (4+g.length) 0),(51,I r),(52,I i),(74,.rows (ints ps)),(75,I (ps.length:Int)),(76,I jj)] (.cells [LR L,I a]::ret5::.cells [.str nm,cv,kv,.nils,.own (3+g.length) is.length]::(g++[.rows 3 (is.map idxC) false,.cells [.str inm,.own (5+g.length) ns.length,.bool uq],.rows 1 (SLs ns) false]))) =
  R K (.run 12 1 ks [(0,.ptr 0 0),(4,.ptr 1 0),(5,.ptr 2 0),(8,.ptr (4+g.length) 0),(51,I r),(52,I i)] (.cells [LR L,I a]::ret5::.cells [.str nm,cv,kv,.nils,.own (3+g.length) is.length]::(g++[.rows 3 (is.map idxC) false,.cells [.str inm,.own (5+g.length) ns'.length,.bool uq],.rows 1 (SLs ns') false])))
 | 0,j,ns,hq,hl,hN=>by
  have d:¬(j:Int) < (ps.length:Int):=by omega
  refine ⟨ns,⟨by omega,hN⟩,fun ks Bo jj hB hj=>?_⟩
  subst hj
  rcases hs with ⟨rfl,rfl,rfl⟩ | ⟨rfl,rfl,rfl⟩ | ⟨rfl,rfl,rfl⟩
  all_goals
   simp only [List.length_cons,List.length_nil,Nat.zero_add,Nat.add_zero,Nat.reduceAdd,List.cons_append,List.nil_append]
   unfold Loop at hB
   simp -implicitDefEqProofs only [go_sem,simprocAttr,Tryz.f12,loopOf] at hB
   subst hB
   rw [RL_eq]
   simp -implicitDefEqProofs only [go_sem,simprocAttr,d,locsR_cols,locsR_SLs,locsR_idx]
 | q+1,j,ns,hq,hl,hN=>by
  have d:(j:Int) < (ps.length:Int):=by omega
  have h7:=next_id (i:=j) (n:=ps.length) (by omega) (by omega)
  obtain ⟨x,hx⟩:=some_at (l:=ps) (i:=j) (by omega)
  have hxb:=hp x (List.mem_of_getElem? hx)
  have gx:=at_get (ints_at hx)
  obtain ⟨c,hc⟩:=some_at (l:=cols) (i:=x.toNat) (by omega)
  have gc:=col_get hc
  rw [Int.toNat_of_nonneg hxb.1] at gc
  obtain ⟨ns',p1,ih⟩:=l_tb4 nm inm uq cols key cv kv g hs a is r i ps hp hpl q (j+1) (ns++[c.nm]) (by omega) (by simp;omega) (fun n hn=>(List.mem_append.1 hn).elim (hN n) fun h=>by rw [List.mem_singleton] at h;rw [h];exact List.mem_map.2 ⟨c,List.mem_of_getElem? hc,rfl⟩)
  refine ⟨ns',p1,fun ks Bo jj hB hj=>?_⟩
  subst hj
  have ih:=ih ks Bo _ hB rfl
  have sa:=SLs_app ns c.nm
  have rm:((ns.length+1)*17≤roomMax)=True:=eq_true (by unfold roomMax;omega)
  simp only [colC] at gc
  rcases hs with ⟨rfl,rfl,rfl⟩ | ⟨rfl,rfl,rfl⟩ | ⟨rfl,rfl,rfl⟩
  all_goals
   simp only [List.length_cons,List.length_nil,List.length_append,Nat.zero_add,Nat.add_zero,Nat.reduceAdd,List.cons_append,List.nil_append] at ih ⊢
   unfold Loop at hB
   simp -implicitDefEqProofs only [go_sem,simprocAttr,Tryz.f12,loopOf] at hB
   subst hB
   rw [RL_eq]
   simp -implicitDefEqProofs only [go_sem,simprocAttr,d,h7,gx,gc,sa,rm,SLs_len,locsR_cols,locsR_SLs,locsR_idx]
   exact ih
end
def IdxOk (is:List Idx) (m:Nat):Prop:=is.length≤m∧∀ x∈is,x.nm.length≤100∧x.cols.length≤2
def IdxIn (cols:List Col) (is:List Idx):Prop:=∀ x∈is,∀ n∈x.cols,n∈cols.map (·.nm)
section
variable {L:List Int}
theorem l_tb2 (nm:List UInt8) (cols:List Col) (hc:ColsOk cols 6) (key:List (List UInt8)) (cv kv:AV) (g:Heap) (hs:TbS cols key cv kv g) (r:Nat) (hr:r≤2):∀ (q i:Nat) (is:List Idx) (a B:Int),r=i+q→Gd L a B→(30*q:Int)≤B→IdxOk is i→IdxIn cols is →
  ∃ (is':List Idx) (a':Int),a≤a'∧a'≤a+30*q∧(IdxOk is' 2∧IdxIn cols is')∧∀ (ks:List It) (Bo:Code) (ii:Int),Loop Tryz.f12 2 Bo→ii=(i:Int) →
  RL K (.run 12 1 (.code Bo::.lp Bo (some ([0,4,5,51,52],[])) (4+g.length)::.blk 2 (4+g.length)::ks) [(0,.ptr 0 0),(4,.ptr 1 0),(5,.ptr 2 0),(51,I (r:Int)),(52,I ii)] (.cells [LR L,I a]::ret5::.cells [.str nm,cv,kv,.nils,.own (3+g.length) is.length]::(g++[.rows 3 (is.map idxC) false]))) =
  R K (.run 12 1 ks [(4,.ptr 1 0),(5,.ptr 2 0)] (.cells [LR L,I a']::ret5::.cells [.str nm,cv,kv,.nils,.own (3+g.length) is'.length]::(g++[.rows 3 (is'.map idxC) false])))
 | 0,i,is,a,B,hq,hG,hB',hi,hI=>by
  have d:¬(i:Int) < (r:Int):=by omega
  refine ⟨is,a,by omega,by omega,⟨⟨by have:=hi.1;omega,hi.2⟩,hI⟩,fun ks Bo ii hB hii=>?_⟩
  subst hii
  rcases hs with ⟨rfl,rfl,rfl⟩ | ⟨rfl,rfl,rfl⟩ | ⟨rfl,rfl,rfl⟩
  all_goals
   simp only [List.length_cons,List.length_nil,Nat.zero_add,Nat.add_zero,Nat.reduceAdd,List.cons_append,List.nil_append]
   unfold Loop at hB
   simp -implicitDefEqProofs only [go_sem,simprocAttr,Tryz.f12,loopOf] at hB
   subst hB
   rw [RL_eq]
   simp -implicitDefEqProofs only [go_sem,simprocAttr,d,locsR_cols,locsR_SLs,locsR_idx]
 | q+1,i,is,a,B,hq,hG,hB',hi,hI=>by
  have d:(i:Int) < (r:Int):=by omega
  have h7:=next_id (i:=i) (n:=r) (by omega) (by omega)
  obtain ⟨s,es,hsl⟩:=letter i (by omega)
  have w1:wrapI .i64 (97+(i:Int))=97+(i:Int):=wrap_id (by omega) (by omega)
  have hc1:=hc.pos
  have hc6:=hc.len
  have x1:=g_Flip hG (by omega) 2
  have G1:=hG.step (a+1) (B - 1) (by omega) (by omega)
  generalize (nextS L a 2==0)=uq at *
  obtain ⟨o,a1,p1,p2,p3,x2⟩:=g_Order G1 cols.length hc1 (by omega) (by omega)
  have G2:=G1.step a1 (B - 21) (by omega) (by omega)
  obtain ⟨b,hb1,hb2,hb3,hb4⟩:∃ b:Int,1≤b∧b≤2∧b≤(cols.length:Int)∧(if (cols.length:Int) < 2 then (cols.length:Int) else 2)=b:=by
   refine ⟨_,?_,?_,?_,rfl⟩<;>split<;>omega
  have x3:=g_Range G2 (by omega) 1 b (by omega) (by omega) (by omega)
  have b3:=range_bounds L a1 1 b (by omega) (by omega)
  obtain ⟨kk,hkk⟩:∃ k:Nat,rngS L a1 1 b=(k:Int):=⟨(rngS L a1 1 b).toNat,by omega⟩
  rw [hkk] at x3 b3
  have G3:=G2.step (a1+1) (B - 22) (by omega) (by omega)
  have hol:=p1.1
  obtain ⟨ns',n1,e4⟩:=l_tb4 (L:=L) nm (105::s) uq cols key cv kv g hs (a1+1) is (r:Int) (i:Int) (o.take kk) (fun x hx=>p1.2 x (List.mem_of_mem_take hx)) (by rw [List.length_take];omega) (o.take kk).length 0 [] (by omega) (by simp) (by simp)
  have hlt:(o.take kk).length=kk:=by rw [List.length_take];omega
  rw [hlt] at e4
  have hadd:IdxOk (is++[⟨105::s,ns',uq⟩]) (i+1):=by
   refine ⟨by rw [List.length_append];have:=hi.1;simp;omega,fun x hx=>?_⟩
   rcases List.mem_append.1 hx with h | h
   ·exact hi.2 x h
   ·rw [List.mem_singleton] at h;subst h;exact ⟨by simp;omega,n1.1⟩
  obtain ⟨is',a',q1,q2,q3,ih⟩:=l_tb2 nm cols hc key cv kv g hs r hr q (i+1) (is++[⟨105::s,ns',uq⟩]) (a1+1) (B - 30) (by omega) (G3.step _ _ (by omega) (by omega)) (by omega) hadd (fun x hx n hn=>(List.mem_append.1 hx).elim (fun h=>hI x h n hn) fun h=>by rw [List.mem_singleton] at h;subst h;exact n1.2 n hn)
  refine ⟨is',a',by omega,by omega,q3,fun ks Bo ii hB hii=>?_⟩
  subst hii
  have ih:=ih ks Bo _ hB rfl
  have hil:=hi.1
  have ia:=idx_app is ⟨105::s,ns',uq⟩
  have rm:((is.length+1)*49≤roomMax)=True:=eq_true (by unfold roomMax;omega)
  have st:(1+s.length≤strMax)=True:=eq_true (by unfold strMax;omega)
  have g1:((kk:Int)≤(o.length:Int))=True:=eq_true (by omega)
  have g2:((0:Int)≤(kk:Int))=True:=eq_true (by omega)
  simp only [idxC] at ia
  rcases hs with ⟨rfl,rfl,rfl⟩ | ⟨rfl,rfl,rfl⟩ | ⟨rfl,rfl,rfl⟩
  all_goals
   simp only [List.length_cons,List.length_nil,List.length_append,Nat.zero_add,Nat.add_zero,Nat.reduceAdd,List.cons_append,List.nil_append,SLs_nil] at ih e4 ⊢
   unfold Loop at hB
   simp -implicitDefEqProofs only [go_sem,simprocAttr,Tryz.f12,loopOf] at hB
   subst hB
   rw [RL_eq]
   simp -implicitDefEqProofs only [go_sem,simprocAttr,d,h7,w1,es,st,x1,x2,x3,hb4,g1,g2,ints_take,allLen_ints,intsL,hlt,Int.toNat_natCast,Nat.sub_zero,List.length_map,locsR_cols,locsR_SLs,locsR_idx]
   rw [e4 _ _ 0 ?_ rfl]
   ·simp -implicitDefEqProofs only [go_sem,simprocAttr,h7,ia,rm,idxC,SLs_len,List.length_map,locsR_cols,locsR_SLs,locsR_idx]
    exact ih
   ·rfl
end
structure GenT (t:Tbl):Prop where
 nm:t.nm.length≤100
 cols:ColsOk t.cols 6
 key:t.key.length≤2
 keyIn:∀ n∈t.key,n∈t.cols.map (·.nm)
 fgn:t.fgn=[]
 idx:IdxOk t.idx 2
 idxIn:IdxIn t.cols t.idx
theorem cols_id:ColsOk [idCol] 1:=⟨by simp,by simp,by simp,by simp⟩
theorem idx_nil:IdxOk [] 0:=⟨by simp,by simp⟩
section
variable {L:List Int} {a B:Int}
theorem g_table (h:Gd L a B) (hB:200≤B) (nm:List UInt8) (hn:nm.length≤100):∃ (t:Tbl) (a':Int),R K (.call 12 [.ptr 0 0,.str nm] (St L a))=some (tblA t,St L a')∧a≤a'∧a'≤a+200∧GenT t∧t.nm=nm:=by
 have x0:=g_Flip h (by omega) 4
 have h1:=h.step (a+1) (B - 1) (by omega) (by omega)
 cases e0:nextS L a 4==0 with
 | false =>
  rw [e0] at x0
  have x1:=g_Range h1 (by omega) 0 4 (by omega) (by omega) (by omega)
  have b1:=range_bounds L (a+1) 0 4 (by omega) (by omega)
  have h2:=h1.step (a+1+1) (B - 2) (by omega) (by omega)
  obtain ⟨r,hr⟩:∃ k:Nat,rngS L (a+1) 0 4=(k:Int):=⟨(rngS L (a+1) 0 4).toNat,by omega⟩
  rw [hr] at x1 b1
  cases r with
  | zero =>
   have x2:=g_Next h2 (by omega) 3
   have b2:=next_bounds L (a+1+1) 3 (by omega) (by omega)
   obtain ⟨u,hu⟩:∃ k:Nat,nextS L (a+1+1) 3=(k:Int):=⟨(nextS L (a+1+1) 3).toNat,by omega⟩
   rw [hu] at x2 b2
   have h3:=h2.step (a+1+1+1) (B - 3) (by omega) (by omega)
   obtain ⟨is,a',q1,q2,q3,e2⟩:=l_tb2 (L:=L) nm [idCol] ⟨by simp,by simp,by simp,by simp⟩ [idB] _ _ _ (.inl ⟨rfl,rfl,rfl⟩) u (by omega) u 0 [] _ _ (by omega) h3 (by omega) idx_nil (fun x hx=>absurd hx (by simp))
   refine ⟨⟨nm,[idCol],[idB],[],is⟩,a',?_,by omega,by omega,⟨hn,⟨by simp,by simp,by simp,by simp⟩,by simp,by simp,rfl,q3.1,q3.2⟩,rfl⟩
   simp only [SLs,List.length_nil,Nat.add_zero,List.nil_append,List.map_nil,List.map_cons,colC] at e2
   rw [call_12]
   simp -implicitDefEqProofs only [go_sem,simprocAttr,Tryz.f12,x0,x1]
   rw [RL_eq]
   simp -implicitDefEqProofs only [go_sem,simprocAttr,x2]
   rw [e2 _ _ 0 ?_ rfl]
   ·simp -implicitDefEqProofs only [go_sem,simprocAttr,tblC,locsR_idx,List.length_map,or_self]
    rfl
   ·rfl
  | succ r =>
   obtain ⟨s,es,hsl⟩:=letter 0 (by omega)
   rw [show (97+((0:Nat):Int))=97 from rfl] at es
   obtain ⟨c,a1,y1,q1,q2,q3⟩:=g_column h2 (by omega) (99::s)
   have h3:=h2.step a1 (B - 30) (by omega) (by omega)
   obtain ⟨cols,a2,p1,p2,p3,p4,e0⟩:=l_tb0 (L:=L) nm (r+1) (by omega) _ _ 3 (.inl ⟨rfl,rfl,rfl⟩) r 1 [idCol,c] a1 (B - 30) 2 (by omega) (by omega) h3 (by omega) (cols_id.add c (by rw [q3];simp;omega))
   have h4:=h3.step a2 (B - 130) (by omega) (by omega)
   have x2:=g_Next h4 (by omega) 3
   have b2:=next_bounds L a2 3 (by omega) (by omega)
   obtain ⟨u,hu⟩:∃ k:Nat,nextS L a2 3=(k:Int):=⟨(nextS L a2 3).toNat,by omega⟩
   rw [hu] at x2 b2
   have h5:=h4.step (a2+1) (B - 131) (by omega) (by omega)
   have hc6:ColsOk cols 6:=⟨by have:=p3.len;omega,p3.pos,p3.nm,p3.id⟩
   obtain ⟨is,a',w1,w2,w3,e2⟩:=l_tb2 (L:=L) nm cols hc6 [idB] _ _ _ (.inr (.inl ⟨rfl,rfl,rfl⟩)) u (by omega) u 0 [] _ _ (by omega) h5 (by omega) idx_nil (fun x hx=>absurd hx (by simp))
   refine ⟨⟨nm,cols,[idB],[],is⟩,a',?_,by omega,by omega,⟨hn,hc6,by simp,fun n hn=>by rw [List.mem_singleton] at hn;rw [hn];exact hc6.id,rfl,w3.1,w3.2⟩,rfl⟩
   have st:(1+s.length≤strMax)=True:=eq_true (by unfold strMax;omega)
   have rm:(130≤roomMax)=True:=eq_true (by unfold roomMax;omega)
   have d:((0:Int) < (r:Int)+1)=True:=eq_true (by omega)
   have c1:(((r+1:Nat)):Int)=(r:Int)+1:=by omega
   simp only [List.length_nil,List.length_cons,Nat.zero_add,Nat.reduceAdd,Nat.add_zero,List.nil_append,List.cons_append,SLs,List.map_nil,List.map_cons,colC] at e2 e0 y1
   rw [c1] at x1
   simp only [c1] at e0
   rw [call_12]
   simp -implicitDefEqProofs only [go_sem,simprocAttr,Tryz.f12,x0,x1]
   rw [RL_eq]
   simp -implicitDefEqProofs only [go_sem,simprocAttr,d,es,st,rm,y1,colC,locsR_cols]
   rw [e0 _ _ 1 ?_ rfl]
   ·simp -implicitDefEqProofs only [go_sem,simprocAttr,x2,locsR_cols,List.length_map]
    rw [e2 _ _ 0 ?_ rfl]
    ·simp -implicitDefEqProofs only [go_sem,simprocAttr,tblC,locsR_idx,List.length_map,or_self]
     rfl
    ·rfl
   ·rfl
 | true =>
  rw [e0] at x0
  obtain ⟨x,hx,y0⟩:=g_Pick h1 (by omega) [2,3,1] (by decide) (by decide)
  have h1':=h1.step (a+1+1) (B - 2) (by omega) (by omega)
  have x1:=g_Range h1' (by omega) 0 4 (by omega) (by omega) (by omega)
  have b1:=range_bounds L (a+1+1) 0 4 (by omega) (by omega)
  have h2:=h1'.step (a+1+1+1) (B - 3) (by omega) (by omega)
  obtain ⟨r,hr⟩:∃ k:Nat,rngS L (a+1+1) 0 4=(k:Int):=⟨(rngS L (a+1+1) 0 4).toNat,by omega⟩
  rw [hr] at x1 b1
  obtain ⟨cols,a2,p1,p2,p3,p4,e0⟩:=l_tb0 (L:=L) nm r (by omega) _ _ 5 (.inr ⟨rfl,rfl,rfl⟩) r 0 [idCol,⟨kB,x,false,⟨0,0,[]⟩⟩] _ (B - 3) 2 (by omega) (by omega) h2 (by omega) (cols_id.add _ (by simp))
  have h4:=h2.step a2 (B - 130) (by omega) (by omega)
  have x2:=g_Next h4 (by omega) 3
  have b2:=next_bounds L a2 3 (by omega) (by omega)
  obtain ⟨u,hu⟩:∃ k:Nat,nextS L a2 3=(k:Int):=⟨(nextS L a2 3).toNat,by omega⟩
  rw [hu] at x2 b2
  have h5:=h4.step (a2+1) (B - 131) (by omega) (by omega)
  have hc6:ColsOk cols 6:=⟨by have:=p3.len;omega,p3.pos,p3.nm,p3.id⟩
  obtain ⟨is,a',w1,w2,w3,e2⟩:=l_tb2 (L:=L) nm cols hc6 [idB,kB] _ _ _ (.inr (.inr ⟨rfl,rfl,rfl⟩)) u (by omega) u 0 [] _ _ (by omega) h5 (by omega) idx_nil (fun x hx=>absurd hx (by simp))
  refine ⟨⟨nm,cols,[idB,kB],[],is⟩,a',?_,by omega,by omega,⟨hn,hc6,by simp,fun n hn=>p4 n (by simpa using hn),rfl,w3.1,w3.2⟩,rfl⟩
  have rm:(130≤roomMax)=True:=eq_true (by unfold roomMax;omega)
  have rm2:(34≤roomMax)=True:=eq_true (by unfold roomMax;omega)
  simp only [List.length_nil,List.length_cons,Nat.zero_add,Nat.reduceAdd,Nat.add_zero,List.nil_append,List.cons_append,SLs,List.map_nil,List.map_cons,colC] at e2 e0 y0
  rw [call_12]
  simp -implicitDefEqProofs only [go_sem,simprocAttr,Tryz.f12,x0,y0,x1,rm,rm2]
  rw [e0 _ _ 0 ?_ rfl]
  ·simp -implicitDefEqProofs only [go_sem,simprocAttr,x2,locsR_cols,List.length_map]
   rw [e2 _ _ 0 ?_ rfl]
   ·simp -implicitDefEqProofs only [go_sem,simprocAttr,tblC,locsR_idx,List.length_map,or_self]
    rfl
   ·rfl
  ·rfl
end
theorem locsR_tbls:∀ l:List Tbl,locsR (l.map tblC)=[]
 | []=>rfl
 | x::l=>by simpa [tblC,locsR,locsL,locs] using locsR_tbls l
theorem locsR_fgns:∀ l:List Fgn,locsR (l.map fgnC)=[]
 | []=>rfl
 | x::l=>by simpa [fgnC,locsR,locsL,locs] using locsR_fgns l
theorem allLen_tbls:∀ l:List Tbl,allLen 5 (l.map tblC)=true
 | []=>rfl
 | c::l=>by simpa [allLen,tblC] using allLen_tbls l
theorem allLen_fgns:∀ l:List Fgn,allLen 3 (l.map fgnC)=true
 | []=>rfl
 | c::l=>by simpa [allLen,fgnC] using allLen_fgns l
theorem tbls_app (l:List Tbl) (c:Tbl):l.map tblC++[tblC c]=(l++[c]).map tblC:=by simp
theorem fgns_app (l:List Fgn) (c:Fgn):l.map fgnC++[fgnC c]=(l++[c]).map fgnC:=by simp
theorem empty_map {α:Type} {f:α→List AV} {l:List α} (h:1≤l.length):(l.map f).isEmpty=false:=by
 cases l with
 | nil=>simp at h
 | cons a l=>rfl
theorem c_cloneT (x:List Tbl) (h:1≤x.length) (hl:x.length≤1000000):R K (.call 18 [.rows (x.map tblC)] [])=some (.own 0 x.length,[.rows 5 (x.map tblC) true]):=by
 have e:=empty_map (f:=tblC) h
 have rm:(x.length*113≤roomMax)=True:=eq_true (by unfold roomMax;omega)
 have d:(0 < x.length)=True:=eq_true (by omega)
 have hp:K.prim 18 [.rows (x.map tblC)]=none:=by
  cases x with
  | nil=>simp at h
  | cons a x=>rfl
 rw [call_18 hp]
 simp -implicitDefEqProofs only [go_sem,simprocAttr,Tryz.f18,e,rm,d,allLen_tbls,locsR_tbls,List.length_map,List.length_nil,Nat.zero_add,List.nil_append]
theorem c_cloneF (x:List Fgn) (h:1≤x.length) (hl:x.length≤1000000):R K (.call 20 [.rows (x.map fgnC)] [])=some (.own 0 x.length,[.rows 3 (x.map fgnC) false]):=by
 have e:=empty_map (f:=fgnC) h
 have rm:(x.length*57≤roomMax)=True:=eq_true (by unfold roomMax;omega)
 have d:(0 < x.length)=True:=eq_true (by omega)
 have hp:K.prim 20 [.rows (x.map fgnC)]=none:=by
  cases x with
  | nil=>simp at h
  | cons a x=>rfl
 rw [call_20 hp]
 simp -implicitDefEqProofs only [go_sem,simprocAttr,Tryz.f20,e,rm,d,allLen_fgns,locsR_fgns,List.length_map,List.length_nil,Nat.zero_add,List.nil_append]
theorem c_cloneF0:R K (.call 20 [.rows []] [])=some (.lit [],[]):=R_prim rfl
def Tbls (m:Nat) (x:List Tbl):Prop:=x.length=m∧(∀ t∈x,GenT t)∧∀ (i:Nat) (t:Tbl),x[i]? = some t→t.nm=116::(Utf8.encode (wrapI .i32 (97+(i:Int)))).data.toList
section
variable {L:List Int}
theorem l_sc0 (n:Nat) (hn:n≤3):∀ (q j:Nat) (x:List Tbl) (a B:Int),n=j+q→Gd L a B→(200*q:Int)≤B→Tbls j x →
  ∃ (x':List Tbl) (a':Int),a≤a'∧a'≤a+200*q∧Tbls n x'∧∀ (ks:List It) (Bo:Code) (jj:Int),Loop Tryz.f4 0 Bo→jj=(j:Int) →
  RL K (.run 4 1 (.code Bo::.lp Bo (some ([0,2,3,16,17],[])) 4::.blk 0 4::ks) [(0,.ptr 0 0),(2,.ptr 1 0),(3,.ptr 2 0),(16,I (n:Int)),(17,I jj)] [.cells [LR L,I a],.cells [.nils],.cells [.own 3 x.length],.rows 5 (x.map tblC) false]) =
  R K (.run 4 1 ks [(0,.ptr 0 0),(2,.ptr 1 0),(3,.ptr 2 0)] [.cells [LR L,I a'],.cells [.nils],.cells [.own 3 x'.length],.rows 5 (x'.map tblC) false])
 | 0,j,x,a,B,hq,hG,hB',hx=>by
  have d:¬(j:Int) < (n:Int):=by omega
  refine ⟨x,a,by omega,by omega,⟨by have:=hx.1;omega,hx.2.1,hx.2.2⟩,fun ks Bo jj hB hj=>?_⟩
  subst hj
  unfold Loop at hB
  simp -implicitDefEqProofs only [go_sem,simprocAttr,Tryz.f4,loopOf] at hB
  subst hB
  rw [RL_eq]
  simp -implicitDefEqProofs only [go_sem,simprocAttr,d,locsR_tbls]
 | q+1,j,x,a,B,hq,hG,hB',hx=>by
  have d:(j:Int) < (n:Int):=by omega
  have h7:=next_id (i:=j) (n:=n) (by omega) (by omega)
  obtain ⟨s,es,hsl⟩:=letter j (by omega)
  have w1:wrapI .i64 (97+(j:Int))=97+(j:Int):=wrap_id (by omega) (by omega)
  obtain ⟨t,a1,x1,q1,q2,q3,q4⟩:=g_table hG (by omega) (116::s) (by simp;omega)
  have hxn:∀ (i:Nat) (u:Tbl),(x++[t])[i]? = some u→u.nm=116::(Utf8.encode (wrapI .i32 (97+(i:Int)))).data.toList:=by
   intro i u hu
   by_cases hi:i < x.length
   ·rw [List.getElem?_append_left hi] at hu
    exact hx.2.2 i u hu
   ·rw [List.getElem?_append_right (by omega)] at hu
    obtain ⟨k,hk⟩:∃ k,i=x.length+k:=⟨i - x.length,by omega⟩
    subst hk
    cases k with
    | zero =>
     have hjl:=hx.1
     simp only [Nat.add_zero,Nat.sub_self,List.getElem?_cons_zero,Option.some.injEq] at hu
     rw [←hu,q4,Nat.add_zero,hjl,es]
    | succ k=>simp at hu
  obtain ⟨x',a',p1,p2,p3,ih⟩:=l_sc0 n hn q (j+1) (x++[t]) a1 (B - 200) (by omega) (hG.step _ _ (by omega) (by omega)) (by omega) ⟨by rw [List.length_append];have:=hx.1;simp;omega,fun u hu=>by
   rcases List.mem_append.1 hu with h | h
   ·exact hx.2.1 u h
   ·rw [List.mem_singleton] at h;rw [h];exact q3,hxn⟩
  refine ⟨x',a',by omega,by omega,p3,fun ks Bo jj hB hj=>?_⟩
  subst hj
  have ih:=ih ks Bo _ hB rfl
  have hxl:=hx.1
  have ta:=tbls_app x t
  have rm:((x.length+1)*113≤roomMax)=True:=eq_true (by unfold roomMax;omega)
  have st:(1+s.length≤strMax)=True:=eq_true (by unfold strMax;omega)
  simp only [List.length_append,List.length_cons,List.length_nil,Nat.zero_add,tblC] at ih x1 ta
  unfold Loop at hB
  simp -implicitDefEqProofs only [go_sem,simprocAttr,Tryz.f4,loopOf] at hB
  subst hB
  rw [RL_eq]
  simp -implicitDefEqProofs only [go_sem,simprocAttr,d,h7,w1,es,st,x1,ta,rm,tblC,locsR_tbls,allLen_tbls,List.length_map]
  exact ih
end
theorem k_43 (n:List UInt8) (c:Col):R K (.call 15 [colA c,.ptr 0 0] (nmH n))=some (.bool (c.nm==n),nmH n):=by
 rw [call_15]
 simp -implicitDefEqProofs only [go_sem,simprocAttr,Tryz.f15,colC]
theorem v_43 (n:List UInt8) (c:Col):callV nlA (R K) (nmH n) [colA c] (.fn 15 [.ptr 0 0])=some (.bool (c.nm==n),nmH n):=by
 have hk:=k_43 n c
 simp only [colA,colC] at hk ⊢
 simp -implicitDefEqProofs only [go_sem,simprocAttr,hk]
abbrev scH (L:List Int) (a:Int) (x:List Tbl) (u:Tbl) (fnm:List UInt8) (ns:List (List UInt8)):Heap:=[.cells [LR L,I a],.cells [.nils],.cells [.rows (x.map tblC)],.hole,.cells (tblC u),.cells [.str fnm,.own 6 ns.length,.str u.nm],.rows 1 (SLs ns) false]
section
variable {L:List Int}
theorem l_sc6 (x:List Tbl) (t u:Tbl) (fnm k:List UInt8) (kd r p w:Int) (htl:t.cols.length≤1000) (c0:Nat) (hc0:c0≤1000) (ns:List (List UInt8)) (hns:ns.length≤c0):∀ (q j:Nat) (a B:Int),t.cols.length=j+q→Gd L a B→(q:Int)≤B →
  ∃ (ns':List (List UInt8)) (a':Int),a≤a'∧a'≤a+q∧ns'.length≤c0+1∧∀ (ks:List It) (Bo:Code) (jj:Int),Loop Tryz.f4 6 Bo→jj=(j:Int) →
  RL K (.run 4 1 (.code Bo::.lp Bo (some ([0,2,3,5,6,7,10,34,35,67,68,69,85,86,87],[])) 8::.blk 6 8::ks) [(0,.ptr 0 0),(2,.ptr 1 0),(3,.ptr 2 0),(5,.rptr (tblC t) 0),(6,.ptr 4 0),(7,.ptr 5 0),(10,I kd),(34,I r),(35,I p),(67,.rows (SLs u.key)),(68,I (u.key.length:Int)),(69,I w),(85,.rows (t.cols.map colC)),(86,I (t.cols.length:Int)),(87,I jj)] (scH L a x u fnm ns++[.cells [.str k]])) =
  R K (.run 4 1 ks [(0,.ptr 0 0),(2,.ptr 1 0),(3,.ptr 2 0),(5,.rptr (tblC t) 0),(6,.ptr 4 0),(7,.ptr 5 0),(34,I r),(35,I p),(67,.rows (SLs u.key)),(68,I (u.key.length:Int)),(69,I w)] (scH L a' x u fnm ns'++[.cells [.str k]]))
 | 0,j,a,B,hq,hG,hB'=>by
  have d:¬(j:Int) < (t.cols.length:Int):=by omega
  refine ⟨ns,a,by omega,by omega,by omega,fun ks Bo jj hB hj=>?_⟩
  subst hj
  unfold Loop at hB
  simp -implicitDefEqProofs only [go_sem,simprocAttr,Tryz.f4,loopOf] at hB
  subst hB
  rw [RL_eq]
  simp -implicitDefEqProofs only [go_sem,simprocAttr,d,locsR_SLs,scH,tblC]
 | q+1,j,a,B,hq,hG,hB'=>by
  have d:(j:Int) < (t.cols.length:Int):=by omega
  have h7:=next_id (i:=j) (n:=t.cols.length) (by omega) (by omega)
  obtain ⟨c,hc⟩:=some_at (l:=t.cols) (i:=j) (by omega)
  have gc:=col_get hc
  have hcn:=c_contains c.nm ns (by omega)
  have rm:((ns.length+1)*17≤roomMax)=True:=eq_true (by unfold roomMax;omega)
  have sa:=SLs_app ns c.nm
  simp only [colC] at gc
  cases e1:(c.kd==kd) with
  | false =>
   obtain ⟨ns',a',p1,p2,p3,ih⟩:=l_sc6 x t u fnm k kd r p w htl c0 hc0 ns hns q (j+1) a B (by omega) hG (by omega)
   refine ⟨ns',a',p1,by omega,p3,fun ks Bo jj hB hj=>?_⟩
   subst hj
   have ih:=ih ks Bo _ hB rfl
   simp only [scH,tblC,List.cons_append,List.nil_append] at ih ⊢
   unfold Loop at hB
   simp -implicitDefEqProofs only [go_sem,simprocAttr,Tryz.f4,loopOf] at hB
   subst hB
   rw [RL_eq]
   simp -implicitDefEqProofs only [go_sem,simprocAttr,d,h7,gc,e1,colC,tblC,locsR_SLs]
   exact ih
  | true =>
   cases e2:ns.contains c.nm with
   | true =>
    rw [e2] at hcn
    obtain ⟨ns',a',p1,p2,p3,ih⟩:=l_sc6 x t u fnm k kd r p w htl c0 hc0 ns hns q (j+1) a B (by omega) hG (by omega)
    refine ⟨ns',a',p1,by omega,p3,fun ks Bo jj hB hj=>?_⟩
    subst hj
    have ih:=ih ks Bo _ hB rfl
    simp only [scH,tblC,List.cons_append,List.nil_append] at ih ⊢
    unfold Loop at hB
    simp -implicitDefEqProofs only [go_sem,simprocAttr,Tryz.f4,loopOf] at hB
    subst hB
    rw [RL_eq]
    simp -implicitDefEqProofs only [go_sem,simprocAttr,d,h7,gc,e1,hcn,SLs_len,colC,tblC,locsR_SLs]
    exact ih
   | false =>
    rw [e2] at hcn
    cases e3:(c.nm==[105,100]) with
    | false =>
     refine ⟨ns++[c.nm],a,by omega,by omega,by simp;omega,fun ks Bo jj hB hj=>?_⟩
     subst hj
     simp only [scH,tblC,List.cons_append,List.nil_append,List.length_append,List.length_cons,List.length_nil,Nat.zero_add]
     unfold Loop at hB
     simp -implicitDefEqProofs only [go_sem,simprocAttr,Tryz.f4,loopOf] at hB
     subst hB
     rw [RL_eq]
     simp -implicitDefEqProofs only [go_sem,simprocAttr,d,h7,gc,e1,e3,hcn,rm,sa,bne,SLs_len,colC,tblC,locsR_SLs]
    | true =>
     have x0:=g_Flip hG (by omega) 6
     cases e4:nextS L a 6==0 with
     | true =>
      rw [e4] at x0
      refine ⟨ns++[c.nm],a+1,by omega,by omega,by simp;omega,fun ks Bo jj hB hj=>?_⟩
      subst hj
      simp only [scH,tblC,List.cons_append,List.nil_append,List.length_append,List.length_cons,List.length_nil,Nat.zero_add]
      unfold Loop at hB
      simp -implicitDefEqProofs only [go_sem,simprocAttr,Tryz.f4,loopOf] at hB
      subst hB
      rw [RL_eq]
      simp -implicitDefEqProofs only [go_sem,simprocAttr,d,h7,gc,e1,e3,x0,hcn,rm,sa,bne,SLs_len,colC,tblC,locsR_SLs]
     | false =>
      rw [e4] at x0
      obtain ⟨ns',a',p1,p2,p3,ih⟩:=l_sc6 x t u fnm k kd r p w htl c0 hc0 ns hns q (j+1) (a+1) (B - 1) (by omega) (hG.step _ _ (by omega) (by omega)) (by omega)
      refine ⟨ns',a',by omega,by omega,p3,fun ks Bo jj hB hj=>?_⟩
      subst hj
      have ih:=ih ks Bo _ hB rfl
      simp only [scH,tblC,List.cons_append,List.nil_append] at ih ⊢
      unfold Loop at hB
      simp -implicitDefEqProofs only [go_sem,simprocAttr,Tryz.f4,loopOf] at hB
      subst hB
      rw [RL_eq]
      simp -implicitDefEqProofs only [go_sem,simprocAttr,d,h7,gc,e1,e3,x0,hcn,bne,SLs_len,colC,tblC,locsR_SLs]
      exact ih
theorem l_sc4 (x:List Tbl) (t u:Tbl) (fnm:List UInt8) (r p:Int) (htl:t.cols.length≤1000) (hul:u.cols.length≤1000) (hul2:u.key.length≤100) (hK:∀ n∈u.key,n∈u.cols.map (·.nm)):∀ (q j:Nat) (ns:List (List UInt8)) (a B:Int),u.key.length=j+q→Gd L a B→(1000*q:Int)≤B→ns.length≤j →
  ∃ (ns':List (List UInt8)) (a':Int),a≤a'∧a'≤a+1000*q∧ns'.length≤u.key.length∧∀ (ks:List It) (Bo:Code) (jj:Int),Loop Tryz.f4 4 Bo→jj=(j:Int) →
  RL K (.run 4 1 (.code Bo::.lp Bo (some ([0,2,3,5,6,7,34,35,67,68,69],[])) 7::.blk 4 7::ks) [(0,.ptr 0 0),(2,.ptr 1 0),(3,.ptr 2 0),(5,.rptr (tblC t) 0),(6,.ptr 4 0),(7,.ptr 5 0),(34,I r),(35,I p),(67,.rows (SLs u.key)),(68,I (u.key.length:Int)),(69,I jj)] (scH L a x u fnm ns)) =
  R K (.run 4 1 ks [(0,.ptr 0 0),(2,.ptr 1 0),(3,.ptr 2 0),(5,.rptr (tblC t) 0),(7,.ptr 5 0),(34,I r),(35,I p)] (scH L a' x u fnm ns'))
 | 0,j,ns,a,B,hq,hG,hB',hn=>by
  have d:¬(j:Int) < (u.key.length:Int):=by omega
  refine ⟨ns,a,by omega,by omega,by omega,fun ks Bo jj hB hj=>?_⟩
  subst hj
  unfold Loop at hB
  simp -implicitDefEqProofs only [go_sem,simprocAttr,Tryz.f4,loopOf] at hB
  subst hB
  rw [RL_eq]
  simp -implicitDefEqProofs only [go_sem,simprocAttr,d,locsR_SLs,scH,tblC]
 | q+1,j,ns,a,B,hq,hG,hB',hn=>by
  have d:(j:Int) < (u.key.length:Int):=by omega
  have h7:=next_id (i:=j) (n:=u.key.length) (by omega) (by omega)
  obtain ⟨k,hk⟩:=some_at (l:=u.key) (i:=j) (by omega)
  have gk:=str_get hk
  have hm:=hK k (List.mem_of_getElem? hk)
  have hnot:¬ixN k (u.cols.map (·.nm)) 0 < 0:=by
   intro h
   rcases ixN_ge k (u.cols.map (·.nm)) 0 with h1 | h1
   ·exact (ixN_mem k (u.cols.map (·.nm)) 0).1 h1 hm
   ·omega
  obtain ⟨b,cc,hb,hcc⟩:=ixN_col (t:=u) hnot
  have gc:=col_get hcc
  have hi:=c_ixCol (.fn 15 [.ptr 0 0]) (nmH k) k (nmH_fits k) u.cols (by omega) (v_43 k)
  rw [hb] at hi
  obtain ⟨ns1,a1,p1,p2,p3,e6⟩:=l_sc6 (L:=L) x t u fnm k cc.kd r p (j:Int) htl j (by omega) ns hn t.cols.length 0 a B (by omega) hG (by omega)
  obtain ⟨ns',a',q1,q2,q3,ih⟩:=l_sc4 x t u fnm r p htl hul hul2 hK q (j+1) ns1 a1 (B - 1000) (by omega) (hG.step _ _ (by omega) (by omega)) (by omega) p3
  refine ⟨ns',a',by omega,by omega,q3,fun ks Bo jj hB hj=>?_⟩
  subst hj
  have ih:=ih ks Bo _ hB rfl
  simp only [nmH] at hi
  simp only [colC] at gc
  simp only [scH,tblC,List.cons_append,List.nil_append] at ih e6 ⊢
  unfold Loop at hB
  simp -implicitDefEqProofs only [go_sem,simprocAttr,Tryz.f4,loopOf] at hB
  subst hB
  rw [RL_eq]
  simp -implicitDefEqProofs only [go_sem,simprocAttr,d,h7,gk,gc,hi,colC,tblC,locsR_SLs,List.length_map]
  rw [e6 _ _ 0 ?_ rfl]
  ·simp -implicitDefEqProofs only [go_sem,simprocAttr,h7,locsR_SLs]
   exact ih
  ·rfl
end
structure SzT (t:Tbl) (m:Nat):Prop where
 nm:t.nm.length≤100
 c1:1≤t.cols.length
 cl:t.cols.length≤6
 cn:∀ c∈t.cols,c.nm.length≤100
 key:t.key.length≤2
 fl:t.fgn.length≤m
 fg:∀ f∈t.fgn,f.nm.length≤100∧f.cols.length≤2
 il:t.idx.length≤m+2
 ix:∀ f∈t.idx,f.nm.length≤100∧f.cols.length≤2
theorem SzT.more {t:Tbl} {m m':Nat} (h:SzT t m) (e:m≤m'):SzT t m':=⟨h.nm,h.c1,h.cl,h.cn,h.key,by have:=h.fl;omega,h.fg,by have:=h.il;omega,h.ix⟩
structure SzX (x:List Tbl) (m:Nat):Prop where
 l1:1≤x.length
 l3:x.length≤3
 tbl:∀ t∈x,SzT t m
theorem SzX.fit {x:List Tbl} {m:Nat} (h:SzX x m) (hm:m≤1000):FitX x:=by
 refine ⟨by have:=h.l3;omega,fun t ht=>?_⟩
 have s:=h.tbl t ht
 exact ⟨by have:=s.nm;omega,by have:=s.cl;omega,by have:=s.key;omega,by have:=s.fl;omega,by have:=s.il;omega,
  fun c hc=>by have:=s.cn c hc;omega,fun f hf=>by have:=s.fg f hf;exact ⟨by omega,by omega⟩,fun f hf=>by have:=s.ix f hf;exact ⟨by omega,by omega⟩⟩
theorem SzX.set {x:List Tbl} {m:Nat} (h:SzX x m) (i:Nat) {t:Tbl} (ht:SzT t m):SzX (x.set i t) m:=by
 refine ⟨by rw [List.length_set];exact h.l1,by rw [List.length_set];exact h.l3,fun u hu=>?_⟩
 rcases List.mem_or_eq_of_mem_set hu with h1 | h1
 ·exact h.tbl u h1
 ·rw [h1];exact ht
theorem SzX.more {x:List Tbl} {m m':Nat} (h:SzX x m) (e:m≤m'):SzX x m':=⟨h.l1,h.l3,fun t ht=>(h.tbl t ht).more e⟩
def KeysIn (x:List Tbl):Prop:=∀ t∈x,∀ n∈t.key,n∈t.cols.map (·.nm)
theorem gen_sz {t:Tbl} (h:GenT t):SzT t 0:=⟨h.nm,h.cols.pos,h.cols.len,h.cols.nm,h.key,by rw [h.fgn];simp,by rw [h.fgn];simp,by have:=h.idx.1;omega,h.idx.2⟩
theorem set_tbl (x:List Tbl) (b:Nat) (nm:List UInt8) (cols:List Col) (key:List (List UInt8)) (fgn:List Fgn) (idx:List Idx) :
  (x.map tblC).set b [.str nm,.rows (cols.map colC),.rows (SLs key),.rows (fgn.map fgnC),.rows (idx.map idxC)]=(x.set b ⟨nm,cols,key,fgn,idx⟩).map tblC:=by
 rw [List.map_set]
 rfl
def IdxX (x:List Tbl):Prop:=∀ t∈x,IdxIn t.cols t.idx
structure MadeX (x:List Tbl):Prop where
 sz:SzX x 3
 right:RightX x
 idx:IdxX x
theorem letters_inj:∀ i j:Fin 3,(Utf8.encode (wrapI .i32 (97+(i.val:Int)))).data.toList=(Utf8.encode (wrapI .i32 (97+(j.val:Int)))).data.toList→i=j:=by decide
theorem made_right {n:Nat} {x:List Tbl} (hn:n≤3) (h:Tbls n x):RightX x:=by
 have e:∀ i,i < x.length→nmA (x.map (·.nm)) i=116::(Utf8.encode (wrapI .i32 (97+(i:Int)))).data.toList:=fun i hi=>by
  have:=h.2.2 i x[i] (List.getElem?_eq_getElem hi)
  simpa [nmA,hi] using this
 refine ⟨fun i j hi hj hij=>?_,fun t ht=>⟨fun n hn=>?_,fun f hf=>?_⟩,fun t ht f hf=>?_⟩
 ·rw [e i hi,e j hj] at hij
  have hl:=h.1
  have:=letters_inj ⟨i,by omega⟩ ⟨j,by omega⟩ (by simpa using hij)
  simpa using this
 ·intro hlt
  rcases ixN_ge n (t.cols.map (·.nm)) 0 with h1 | h1
  ·exact (ixN_mem n (t.cols.map (·.nm)) 0).1 h1 ((h.2.1 t ht).keyIn n hn)
  ·omega
 ·rw [(h.2.1 t ht).fgn] at hf
  simp at hf
 ·rw [(h.2.1 t ht).fgn] at hf
  simp at hf
section
variable {L:List Int}
theorem l_sc2 (r:Nat) (hr:r≤3):∀ (q j:Nat) (x:List Tbl) (a B:Int),r=j+q→Gd L a B→(10000*q:Int)≤B→SzX x j→KeysIn x→RightX x→IdxX x →
  ∃ (x':List Tbl) (a':Int),a≤a'∧a'≤a+10000*q∧MadeX x'∧∀ (ks:List It) (Bo:Code) (jj:Int),Loop Tryz.f4 2 Bo→jj=(j:Int) →
  RL K (.run 4 1 (.code Bo::.lp Bo (some ([0,2,3,34,35],[])) 4::.blk 2 4::ks) [(0,.ptr 0 0),(2,.ptr 1 0),(3,.ptr 2 0),(34,I (r:Int)),(35,I jj)] [.cells [LR L,I a],.cells [.nils],.cells [.rows (x.map tblC)],.hole]) =
  R K (.run 4 1 ks [(2,.ptr 1 0),(3,.ptr 2 0)] [.cells [LR L,I a'],.cells [.nils],.cells [.rows (x'.map tblC)],.hole])
 | 0,j,x,a,B,hq,hG,hB',hx,hK,hR,hI=>by
  have d:¬(j:Int) < (r:Int):=by omega
  refine ⟨x,a,by omega,by omega,⟨hx.more (by omega),hR,hI⟩,fun ks Bo jj hB hj=>?_⟩
  subst hj
  unfold Loop at hB
  simp -implicitDefEqProofs only [go_sem,simprocAttr,Tryz.f4,loopOf] at hB
  subst hB
  rw [RL_eq]
  simp -implicitDefEqProofs only [go_sem,simprocAttr,d]
 | q+1,j,x,a,B,hq,hG,hB',hx,hK,hR,hI=>by
  have d:(j:Int) < (r:Int):=by omega
  have h7:=next_id (i:=j) (n:=r) (by omega) (by omega)
  have hl1:=hx.l1
  have hl3:=hx.l3
  have x0:=g_Next hG (by omega) (x.length:Int)
  have b0:=next_bounds L a (x.length:Int) (by omega) (by omega)
  obtain ⟨i,hi⟩:∃ k:Nat,nextS L a (x.length:Int)=(k:Int):=⟨(nextS L a (x.length:Int)).toNat,by omega⟩
  rw [hi] at x0 b0
  have G1:=hG.step (a+1) (B - 1) (by omega) (by omega)
  have x1:=g_Next G1 (by omega) (x.length:Int)
  have b1:=next_bounds L (a+1) (x.length:Int) (by omega) (by omega)
  obtain ⟨k,hk⟩:∃ k:Nat,nextS L (a+1) (x.length:Int)=(k:Int):=⟨(nextS L (a+1) (x.length:Int)).toNat,by omega⟩
  rw [hk] at x1 b1
  have G2:=G1.step (a+1+1) (B - 2) (by omega) (by omega)
  obtain ⟨t,ht⟩:=some_at (l:=x) (i:=i) (by omega)
  obtain ⟨u,hu⟩:=some_at (l:=x) (i:=k) (by omega)
  have gt:=tbl_get ht
  have gu:=tbl_get hu
  have mt:=List.mem_of_getElem? ht
  have mu:=List.mem_of_getElem? hu
  have st:=hx.tbl t mt
  have su:=hx.tbl u mu
  have tfl:=st.fl
  have tcl:=st.cl
  have ucl:=su.cl
  have uk:=su.key
  obtain ⟨s,es,hsl⟩:=letter t.fgn.length (by omega)
  have w1:wrapI .i64 (97+(t.fgn.length:Int))=97+(t.fgn.length:Int):=wrap_id (by omega) (by omega)
  have sm:(1+s.length≤strMax)=True:=eq_true (by unfold strMax;omega)
  obtain ⟨ns,a1,p1,p2,p3,e4⟩:=l_sc4 (L:=L) x t u (102::s) (r:Int) (j:Int) (by omega) (by omega) (by omega) (hK u mu) u.key.length 0 [] (a+1+1) (B - 2) (by omega) G2 (by omega) (by simp)
  have G3:=G2.step a1 (B - 5000) (by omega) (by omega)
  have hnot:¬ixN t.nm (x.map (·.nm)) 0 < 0:=by
   intro h
   rcases ixN_ge t.nm (x.map (·.nm)) 0 with h1 | h1
   ·exact (ixN_mem t.nm (x.map (·.nm)) 0).1 h1 (List.mem_map.2 ⟨t,mt,rfl⟩)
   ·omega
  obtain ⟨b,v,hb,hv⟩:=ixN_tbl hnot
  have xt:=r_TableAt x t.nm (by omega)
  rw [hb] at xt
  have mv:=List.mem_of_getElem? hv
  have sv:=hx.tbl v mv
  have gv:=tbl_get hv
  have gv2:(x.map tblC)[b]? = some (tblC v):=by simp [hv]
  have cT:=c_cloneT x hl1 (by omega)
  have hN:SzX (x.set b ⟨v.nm,v.cols,v.key,t.fgn++[⟨102::s,ns,u.nm⟩],v.idx⟩) (j+1):=by
   refine (hx.more (by omega)).set b ⟨sv.nm,sv.c1,sv.cl,sv.cn,sv.key,by simp;omega,fun f hf=>?_,by have:=sv.il;show v.idx.length≤_;omega,sv.ix⟩
   rcases List.mem_append.1 hf with h | h
   ·exact st.fg f h
   ·rw [List.mem_singleton] at h;subst h;exact ⟨by simp;omega,by show ns.length≤2;omega⟩
  have hKN:KeysIn (x.set b ⟨v.nm,v.cols,v.key,t.fgn++[⟨102::s,ns,u.nm⟩],v.idx⟩):=by
   intro y hy
   rcases List.mem_or_eq_of_mem_set hy with h1 | h1
   ·exact hK y h1
   ·rw [h1];exact hK v mv
  have hIN:IdxX (x.set b ⟨v.nm,v.cols,v.key,t.fgn++[⟨102::s,ns,u.nm⟩],v.idx⟩):=by
   intro y hy
   rcases List.mem_or_eq_of_mem_set hy with h1 | h1
   ·exact hI y h1
   ·rw [h1];exact hI v mv
  have xF:=r_SchemaFault _ (hN.fit (by omega))
  have fa:=fgns_app t.fgn ⟨102::s,ns,u.nm⟩
  have se:=set_tbl x b v.nm v.cols v.key (t.fgn++[⟨102::s,ns,u.nm⟩]) v.idx
  have rm:((t.fgn.length+1)*57≤roomMax)=True:=eq_true (by unfold roomMax;omega)
  have rm1:(57≤roomMax)=True:=eq_true (by unfold roomMax;omega)
  have tb:((b:Int).toNat)=b:=Int.toNat_natCast b
  have c1:t.fgn=[]∨1≤t.fgn.length:=by
   cases t.fgn with
   | nil=>exact .inl rfl
   | cons a b=>exact .inr (by simp)
  simp only [tblC,fgnC] at gt gu gv gv2 fa
  simp only [scH,tblC,SLs_nil,List.length_nil] at e4
  have yl:(x.set b ⟨v.nm,v.cols,v.key,t.fgn++[⟨102::s,ns,u.nm⟩],v.idx⟩).length=x.length:=List.length_set
  generalize (x.set b ⟨v.nm,v.cols,v.key,t.fgn++[⟨102::s,ns,u.nm⟩],v.idx⟩)=y at *
  obtain ⟨x',a',q1,q2,q3,ih⟩:∃ (x':List Tbl) (a':Int),a1≤a'∧a'≤a1+10000*q∧MadeX x'∧∀ (ks:List It) (Bo:Code) (jj:Int),Loop Tryz.f4 2 Bo→jj=((j+1:Nat):Int) →
    RL K (.run 4 1 (.code Bo::.lp Bo (some ([0,2,3,34,35],[])) 4::.blk 2 4::ks) [(0,.ptr 0 0),(2,.ptr 1 0),(3,.ptr 2 0),(34,I (r:Int)),(35,I jj)] [.cells [LR L,I a1],.cells [.nils],.cells [.rows ((if chkE y=0 then y else x).map tblC)],.hole]) =
    R K (.run 4 1 ks [(2,.ptr 1 0),(3,.ptr 2 0)] [.cells [LR L,I a'],.cells [.nils],.cells [.rows (x'.map tblC)],.hole]):=by
   split
   ·rename_i h0
    exact l_sc2 r hr q (j+1) y a1 (B - 10000) (by omega) (G3.step _ _ (by omega) (by omega)) (by omega) hN hKN (chk_right h0) hIN
   ·exact l_sc2 r hr q (j+1) x a1 (B - 10000) (by omega) (G3.step _ _ (by omega) (by omega)) (by omega) (hx.more (by omega)) hK hR hI
  refine ⟨x',a',by omega,by omega,q3,fun ks Bo jj hB hj=>?_⟩
  subst hj
  have ih:=ih ks Bo _ hB rfl
  have e0:(chkE y==0)=decide (chkE y=0):=rfl
  rcases c1 with c1 | c1
  ·have es0:=es
   rw [c1] at es0 se
   rw [show (97+(([]:List Fgn).length:Int))=97 from rfl] at es0
   simp only [List.nil_append,List.map_cons,List.map_nil,fgnC] at se
   simp only [c1,List.map_nil] at e4 gt
   by_cases h0:chkE y=0
   ·rw [if_pos h0] at ih
    have d0:(chkE y==0)=true:=by simpa using h0
    unfold Loop at hB
    simp -implicitDefEqProofs only [go_sem,simprocAttr,Tryz.f4,loopOf] at hB
    subst hB
    rw [RL_eq]
    simp -implicitDefEqProofs only [go_sem,simprocAttr,d,h7,x0,x1,gt,gu,es0,sm,c1,List.length_nil,List.map_nil,tblC,fgnC,List.length_map,locsR_tbls]
    rw [e4 _ _ 0 ?_ rfl]
    ·simp -implicitDefEqProofs only [go_sem,simprocAttr,h7,tblC,fgnC,cT,xt,c_cloneF0,c1,List.length_nil,List.map_nil,gv,gv2,se,rm1,d0,xF,tb,yl,SLs_len,List.length_map,allLen_tbls,allLen_fgns,locsR_tbls,locsR_fgns,locsR_SLs,Nat.zero_add,Nat.one_mul,List.nil_append]
     exact ih
    ·rfl
   ·rw [if_neg h0] at ih
    have d0:(chkE y==0)=false:=by simpa using h0
    unfold Loop at hB
    simp -implicitDefEqProofs only [go_sem,simprocAttr,Tryz.f4,loopOf] at hB
    subst hB
    rw [RL_eq]
    simp -implicitDefEqProofs only [go_sem,simprocAttr,d,h7,x0,x1,gt,gu,es0,sm,c1,List.length_nil,List.map_nil,tblC,fgnC,List.length_map,locsR_tbls]
    rw [e4 _ _ 0 ?_ rfl]
    ·simp -implicitDefEqProofs only [go_sem,simprocAttr,h7,tblC,fgnC,cT,xt,c_cloneF0,c1,List.length_nil,List.map_nil,gv,gv2,se,rm1,d0,xF,tb,yl,SLs_len,List.length_map,allLen_tbls,allLen_fgns,locsR_tbls,locsR_fgns,locsR_SLs,Nat.zero_add,Nat.one_mul,List.nil_append]
     exact ih
    ·rfl
  ·have cF:=c_cloneF t.fgn c1 (by omega)
   by_cases h0:chkE y=0
   ·rw [if_pos h0] at ih
    have d0:(chkE y==0)=true:=by simpa using h0
    unfold Loop at hB
    simp -implicitDefEqProofs only [go_sem,simprocAttr,Tryz.f4,loopOf] at hB
    subst hB
    rw [RL_eq]
    simp -implicitDefEqProofs only [go_sem,simprocAttr,d,h7,x0,x1,gt,gu,es,w1,sm,tblC,fgnC,List.length_map,locsR_tbls]
    rw [e4 _ _ 0 ?_ rfl]
    ·simp -implicitDefEqProofs only [go_sem,simprocAttr,h7,tblC,fgnC,cT,xt,cF,gv,gv2,fa,se,rm,d0,xF,tb,yl,SLs_len,List.length_map,allLen_tbls,allLen_fgns,locsR_tbls,locsR_fgns,locsR_SLs]
     exact ih
    ·rfl
   ·rw [if_neg h0] at ih
    have d0:(chkE y==0)=false:=by simpa using h0
    unfold Loop at hB
    simp -implicitDefEqProofs only [go_sem,simprocAttr,Tryz.f4,loopOf] at hB
    subst hB
    rw [RL_eq]
    simp -implicitDefEqProofs only [go_sem,simprocAttr,d,h7,x0,x1,gt,gu,es,w1,sm,tblC,fgnC,List.length_map,locsR_tbls]
    rw [e4 _ _ 0 ?_ rfl]
    ·simp -implicitDefEqProofs only [go_sem,simprocAttr,h7,tblC,fgnC,cT,xt,cF,gv,gv2,fa,se,rm,d0,xF,tb,yl,SLs_len,List.length_map,allLen_tbls,allLen_fgns,locsR_tbls,locsR_fgns,locsR_SLs]
     exact ih
    ·rfl
theorem g_Schema {a B:Int} (h:Gd L a B) (hB:50000≤B):∃ (x:List Tbl) (a':Int),R K (.call 4 [.ptr 0 0] (St L a))=some (schC x,St L a')∧a≤a'∧a'≤a+50000∧MadeX x:=by
 have x0:=g_Range h (by omega) 1 3 (by omega) (by omega) (by omega)
 have b0:=range_bounds L a 1 3 (by omega) (by omega)
 obtain ⟨n,hn⟩:∃ k:Nat,rngS L a 1 3=(k:Int):=⟨(rngS L a 1 3).toNat,by omega⟩
 rw [hn] at x0 b0
 have h1:=h.step (a+1) (B - 1) (by omega) (by omega)
 obtain ⟨x,a1,p1,p2,p3,e0⟩:=l_sc0 (L:=L) n (by omega) n 0 [] (a+1) (B - 1) (by omega) h1 (by omega) ⟨rfl,by simp,by simp⟩
 have h2:=h1.step a1 (B - 1000) (by omega) (by omega)
 have x1:=g_Next h2 (by omega) 4
 have b1:=next_bounds L a1 4 (by omega) (by omega)
 obtain ⟨r,hr⟩:∃ k:Nat,nextS L a1 4=(k:Int):=⟨(nextS L a1 4).toNat,by omega⟩
 rw [hr] at x1 b1
 have h3:=h2.step (a1+1) (B - 1001) (by omega) (by omega)
 have hxl:=p3.1
 obtain ⟨x',a',q1,q2,q3,e2⟩:=l_sc2 (L:=L) r (by omega) r 0 x (a1+1) (B - 1001) (by omega) h3 (by omega) ⟨by omega,by omega,fun t ht=>gen_sz (p3.2.1 t ht)⟩ (fun t ht=>(p3.2.1 t ht).keyIn) (made_right (by omega) p3) (fun t ht=>(p3.2.1 t ht).idxIn)
 refine ⟨x',a',?_,by omega,by omega,q3⟩
 simp only [List.length_nil,List.map_nil] at e0
 rw [call_4]
 simp -implicitDefEqProofs only [go_sem,simprocAttr,Tryz.f4,x0]
 rw [e0 _ _ 0 ?_ rfl]
 ·simp -implicitDefEqProofs only [go_sem,simprocAttr,x1,locsR_tbls,List.length_map]
  rw [e2 _ _ 0 ?_ rfl]
  ·simp -implicitDefEqProofs only [go_sem,simprocAttr]
  ·rfl
 ·rfl
end
def rightS (v:Val):Bool:=formS v&&(decide (v.s.length≤100)&&rangeS v)
theorem c_right (k n:Int) (s:List UInt8):R K (.call 275 [V k n s] [])=some (.bool (rightS ⟨k,n,s⟩),[]):=by
 by_cases hs:s.length≤100
 ·have hs':(s.length:Int)≤100:=by omega
  rw [call_275]
  simp -implicitDefEqProofs only [go_sem,simprocAttr,Tryz.f275,c_form,c_range k n s hs,hs']
  repeat' ((first | apply split_cond | apply split_yes | apply split_no)<;>intro hc<;>simp -implicitDefEqProofs only [hc,go_sem,simprocAttr,c_form,c_range k n s hs,hs'])
  all_goals simp_all [rightS]<;>omega
 ·have hs':¬(s.length:Int)≤100:=by omega
  rw [call_275]
  simp -implicitDefEqProofs only [go_sem,simprocAttr,Tryz.f275,c_form,hs']
  repeat' ((first | apply split_cond | apply split_yes | apply split_no)<;>intro hc<;>simp -implicitDefEqProofs only [hc,go_sem,simprocAttr,c_form,hs'])
  all_goals simp_all [rightS]<;>omega
def plainV (v:Val):Val:=if rightS v=true then v else null
theorem c_plain (k n:Int) (s:List UInt8):R K (.call 238 [V k n s] [])=some (enc (plainV ⟨k,n,s⟩),[]):=by
 rw [call_238]
 simp -implicitDefEqProofs only [go_sem,simprocAttr,Tryz.f238,c_right]
 repeat' ((first | apply split_cond | apply split_yes | apply split_no)<;>intro hc<;>simp -implicitDefEqProofs only [hc,go_sem,simprocAttr,c_right])
 all_goals simp_all [plainV,null]
def faultS (v:Val):Int :=
 if !(within v.k 0 4)||(v.k != 3&&v.s != [])||((v.k==3||v.k==0)&&v.n != 0) then 3
 else if 100 < v.s.length then 2
 else if !(ok7 v.s)||(v.k==1&&!(within v.n 0 1))||(v.k==2&&!(within v.n (-999999999999999) 999999999999999))||(v.k==4&&!(within v.n 0 253402300799)) then 1
 else 0
theorem fault0 (v:Val):faultK 0 v=faultS v:=by simp [faultK,faultS]
theorem fault_right (v:Val):(faultS v=0)↔rightS v=true:=by
 obtain ⟨k,n,s⟩:=v
 by_cases h0:k=0
 ·subst h0
  by_cases h1:n=0<;>by_cases h2:s=[]<;>simp [faultS,rightS,formS,rangeS,within,ok7,h1,h2]
 ·by_cases h3:k=3
  ·subst h3
   by_cases h1:n=0<;>by_cases h2:s.length≤100<;>simp [faultS,rightS,formS,rangeS,within,h1,h2,Nat.not_lt.2,Nat.not_le.1]<;>(try omega)<;>(cases ok7 s<;>simp<;>omega)
  ·by_cases h4:within k 0 4=true
   ·have h5:within k 1 4=true:=by simp [within] at h4 ⊢;omega
    by_cases h2:s=[]
    ·subst h2
     by_cases k1:k=1
     ·subst k1;simp [faultS,rightS,formS,rangeS,h4,h5,ok7]
     ·by_cases k2:k=2
      ·subst k2;simp [faultS,rightS,formS,rangeS,h4,h5,ok7]
      ·by_cases k4:k=4
       ·subst k4;simp [faultS,rightS,formS,rangeS,h4,h5,ok7]
       ·simp [within] at h4;omega
    ·simp [faultS,rightS,formS,h0,h3,h2]
   ·have h5:within k 1 4=false:=by simp [within] at h4 ⊢;omega
    simp [faultS,rightS,formS,h0,h3,h4,h5]
theorem r_AnyFault (k n:Int) (s:List UInt8):R K (.call 208 [V k n s] [])=some (.int .i64 (faultS ⟨k,n,s⟩),[]):=by
 have h:=r_fault 0 k n s
 rw [fault0] at h
 rw [call_208]
 simp -implicitDefEqProofs only [go_sem,simprocAttr,Tryz.f208,h]
theorem r_right (k n:Int) (s:List UInt8):R K (.call 149 [V k n s] [])=some (enc (plainV ⟨k,n,s⟩),[]):=by
 have h:=fault_right ⟨k,n,s⟩
 rw [call_149]
 simp -implicitDefEqProofs only [go_sem,simprocAttr,Tryz.f149,r_AnyFault]
 repeat' ((first | apply split_cond | apply split_yes | apply split_no)<;>intro hc<;>simp -implicitDefEqProofs only [hc,go_sem,simprocAttr,r_AnyFault])
 all_goals simp_all [plainV,null]
abbrev vC (v:Val):List AV:=[.int .i64 v.k,.int .i64 v.n,.str v.s]
structure Dat where
 nm:List UInt8
 rows:List (List Val)
abbrev vsA (r:List Val):AV:=.rows (r.map vC)
def rowC (r:List Val):List AV:=[.rows (r.map vC)]
def datC (d:Dat):List AV:=[.str d.nm,.rows (d.rows.map rowC)]
abbrev datS (ds:List Dat):AV:=.agg [.rows (ds.map datC)]
structure Brk where
 kd:Int
 tb:List UInt8
 rw:Nat
 nm:List UInt8
def brkC (b:Brk):List AV:=[I b.kd,.str b.tb,I (b.rw:Int),.str b.nm]
theorem v_get {l:List Val} {i:Nat} {v:Val} (h:l[i]? = some v):at? (l.map vC) (i:Int)=some (vC v):=at_get (by simp [h])
theorem row_at {l:List (List Val)} {i:Nat} {v:List Val} (h:l[i]? = some v):at? (l.map rowC) (i:Int)=some (rowC v):=at_get (by simp [h])
theorem dat_at {l:List Dat} {i:Nat} {v:Dat} (h:l[i]? = some v):at? (l.map datC) (i:Int)=some (datC v):=at_get (by simp [h])
theorem locsR_vs:∀ l:List Val,locsR (l.map vC)=[]
 | []=>rfl
 | x::l=>by simpa [locsR,locsL,locs] using locsR_vs l
theorem locsR_rows:∀ l:List (List Val),locsR (l.map rowC)=[]
 | []=>rfl
 | x::l=>by simpa [rowC,locsR,locsL,locs] using locsR_rows l
theorem locsR_dats:∀ l:List Dat,locsR (l.map datC)=[]
 | []=>rfl
 | x::l=>by simpa [datC,locsR,locsL,locs] using locsR_dats l
theorem locsR_brks:∀ l:List Brk,locsR (l.map brkC)=[]
 | []=>rfl
 | x::l=>by simpa [brkC,locsR,locsL,locs] using locsR_brks l
theorem allLen_vs:∀ l:List Val,allLen 3 (l.map vC)=true
 | []=>rfl
 | x::l=>by simpa [allLen] using allLen_vs l
theorem allLen_rows:∀ l:List (List Val),allLen 1 (l.map rowC)=true
 | []=>rfl
 | x::l=>by simpa [allLen,rowC] using allLen_rows l
theorem allLen_dats:∀ l:List Dat,allLen 2 (l.map datC)=true
 | []=>rfl
 | x::l=>by simpa [allLen,datC] using allLen_dats l
theorem vs_app (l:List Val) (c:Val):l.map vC++[vC c]=(l++[c]).map vC:=by simp
theorem rows_app (l:List (List Val)) (c:List Val):l.map rowC++[rowC c]=(l++[c]).map rowC:=by simp
theorem brks_app (l:List Brk) (c:Brk):l.map brkC++[brkC c]=(l++[c]).map brkC:=by simp
structure SetM (es:List (AV×AV)) (S:List (List UInt8)):Prop where
 key:∀ p∈es,∃ s,p=(.str s,.bool true)
 mem:∀ s,(AV.str s,AV.bool true)∈es↔s∈S
theorem SetM.nil:SetM [] []:=⟨by simp,by simp⟩
theorem find_set {k:List UInt8}:∀ (es:List (AV×AV)) (i:Nat),(∀ p∈es,∃ s,p=(.str s,.bool true)) →
  ((AV.str k,AV.bool true)∈es→∃ j,findA .str (.str k) es i=some (some (i+j,.bool true))∧es[j]? = some (.str k,.bool true))∧((AV.str k,AV.bool true)∉es→findA .str (.str k) es i=some none)
 | [],i,_=>⟨by simp,fun _=>rfl⟩
 | p::es,i,h=>by
  obtain ⟨s,rfl⟩:=h p (by simp)
  obtain ⟨h1,h2⟩:=find_set (k:=k) es (i+1) fun q hq=>h q (by simp [hq])
  by_cases e:k=s
  ·subst e
   refine ⟨fun _=>⟨0,by simp [findA,keyEq],rfl⟩,fun hn=>absurd (by simp) hn⟩
  ·have hb:(k==s)=false:=by simpa using e
   constructor
   ·intro hm
    have hm':(AV.str k,AV.bool true)∈es:=by
     rcases List.mem_cons.1 hm with h3 | h3
     ·simp only [Prod.mk.injEq,AV.str.injEq,and_true] at h3;exact absurd h3 e
     ·exact h3
    obtain ⟨j,h3,h4⟩:=h1 hm'
    refine ⟨j+1,?_,by simpa using h4⟩
    simp only [findA,keyEq,hb,h3]
    rw [show i+1+j=i+(j+1) by omega]
   ·intro hm
    have hm':(AV.str k,AV.bool true)∉es:=fun h3=>hm (List.mem_cons_of_mem _ h3)
    simp only [findA,keyEq,hb]
    exact h2 hm'
theorem mem_insA {k v:AV}:∀ (es:List (AV×AV)) (q:AV×AV),q∈insA k v es↔q=(k,v)∨q∈es
 | [],q=>by simp [insA]
 | p::es,q=>by
  unfold insA
  split
  ·simp
  ·simp only [List.mem_cons,mem_insA es q]
   constructor
   ·rintro (h | h | h)
    ·exact .inr (.inl h)
    ·exact .inl h
    ·exact .inr (.inr h)
   ·rintro (h | h | h)
    ·exact .inr (.inl h)
    ·exact .inl h
    ·exact .inr (.inr h)
theorem SetM.ask {es:List (AV×AV)} {S:List (List UInt8)} (h:SetM es S) (k:List UInt8):lookRes false (some (.bool false)) (findA .str (.str k) es 0)=some (.bool (decide (k∈S))):=by
 obtain ⟨h1,h2⟩:=find_set (k:=k) es 0 h.key
 by_cases hm:k∈S
 ·obtain ⟨j,h3,_⟩:=h1 ((h.mem k).2 hm)
  rw [h3]
  simp [lookRes,hm]
 ·rw [h2 fun h3=>hm ((h.mem k).1 h3)]
  simp [lookRes,hm]
theorem SetM.put {es:List (AV×AV)} {S:List (List UInt8)} (h:SetM es S) (k:List UInt8):∃ r,findA .str (.str k) es 0=some r∧SetM (mapPut es (.str k) (.bool true) r) (k::S):=by
 obtain ⟨h1,h2⟩:=find_set (k:=k) es 0 h.key
 by_cases hm:(AV.str k,AV.bool true)∈es
 ·obtain ⟨j,h3,h4⟩:=h1 hm
  refine ⟨_,h3,?_⟩
  have hj:=(List.getElem?_eq_some_iff.1 h4)
  have e:mapPut es (.str k) (.bool true) (some (0+j,.bool true))=es:=by
   simp only [mapPut,Nat.zero_add]
   apply List.ext_getElem?
   intro i
   rw [List.getElem?_modify]
   by_cases hi:j=i
   ·subst hi;rw [h4];simp
   ·simp [hi]
  rw [e]
  refine ⟨h.key,fun s=>?_⟩
  rw [h.mem s,List.mem_cons]
  constructor
  ·exact .inr
  ·rintro (rfl | h5)
   ·exact (h.mem _).1 hm
   ·exact h5
 ·refine ⟨none,h2 hm,?_⟩
  refine ⟨fun p hp=>?_,fun s=>?_⟩
  ·rcases (mem_insA es p).1 hp with rfl | h3
   ·exact ⟨k,rfl⟩
   ·exact h.key p h3
  ·show _∈insA _ _ es↔_
   rw [mem_insA,h.mem s]
   simp [Prod.mk.injEq]
def byteN (n:Int) (s:Nat):UInt8:=UInt8.ofNat (n.toNat / 2 ^ s)
def bD (n:Int):Nat→List UInt8
 | 0=>[]
 | i+1=>byteN n (8*i)::bD n i
theorem bD_len (n:Int):∀ i,(bD n i).length=i
 | 0=>rfl
 | i+1=>by simp [bD,bD_len n i]
def keyV (v:Val):List UInt8:=UInt8.ofNat v.k.toNat::(if v.k=0 then [] else if v.k=3 then v.s++[0] else bD (v.n+4611686018427387904) 8)
def keyB:List Val→List UInt8
 | []=>[]
 | v::r=>keyV (plainV v)++keyB r
theorem byteRows_app:∀ a b:List UInt8,byteRows (a++b)=byteRows a++byteRows b
 | [],_=>rfl
 | x::a,b=>by simp [byteRows,byteRows_app a b]
theorem bytesIn_rows:∀ l:List UInt8,bytesIn (byteRows l)=some l
 | []=>rfl
 | b::l=>by simp [byteRows,bytesIn,bytesIn_rows l]
theorem plain_kind (v:Val):within (plainV v).k 0 4=true:=by
 unfold plainV
 split
 ·rename_i h
  simp only [rightS,Bool.and_eq_true] at h
  have h1:=h.1
  unfold formS at h1
  split at h1
  ·rename_i h0;simp [within,h0]
  ·split at h1
   ·rename_i h3;simp [within,h3]
   ·simp only [Bool.and_eq_true,within,decide_eq_true_eq] at h1 ⊢;omega
 ·rfl
theorem plain_num (v:Val):-999999999999999≤(plainV v).n∧(plainV v).n≤999999999999999:=by
 unfold plainV
 split
 ·rename_i h
  simp only [rightS,Bool.and_eq_true,decide_eq_true_eq] at h
  obtain ⟨h1,_,h2⟩:=h
  unfold formS at h1
  unfold rangeS at h2
  by_cases k0:v.k=0
  ·simp only [k0,if_true,Bool.and_eq_true,beq_iff_eq] at h1;omega
  ·by_cases k3:v.k=3
   ·simp [k3] at h1;omega
   ·rw [if_neg k0,if_neg k3] at h1
    simp only [Bool.and_eq_true,within,decide_eq_true_eq] at h1 h2
    split at h2
    ·simp at h2;omega
    ·split at h2
     ·simp at h2;omega
     ·split at h2
      ·simp at h2;omega
      ·omega
 ·decide
theorem plain_len (v:Val):(plainV v).s.length≤100:=by
 unfold plainV
 split
 ·rename_i h
  simp only [rightS,Bool.and_eq_true,decide_eq_true_eq] at h
  exact h.2.1
 ·decide
theorem keyV_len (v:Val):(keyV (plainV v)).length≤102:=by
 have:=plain_len v
 unfold keyV
 split
 ·simp
 ·split
  ·simp;omega
  ·simp [bD_len]
theorem keyB_len:∀ l:List Val,(keyB l).length≤102*l.length
 | []=>by simp [keyB]
 | v::r=>by
  have:=keyB_len r
  have:=keyV_len v
  simp only [keyB,List.length_append,List.length_cons]
  omega
theorem byte_of {m:Int} (h:0≤m) (s:Nat) (hs:s≤56) (k:IntKind) (hk:k.bits=64):wrapI .u8 (shrI k m (s:Int))=((byteN m s).toNat:Int):=by
 have e:shrI k m (s:Int)=((m.toNat / 2 ^ s:Nat):Int):=by
  unfold shrI
  rw [Int.toNat_natCast,hk,Nat.min_eq_left (by omega)]
  obtain ⟨a,rfl⟩:∃ a:Nat,m=(a:Int):=⟨m.toNat,by omega⟩
  have hp:(2:Int) ^ s=((2 ^ s:Nat):Int):=by simp
  rw [Int.toNat_natCast,hp,Int.fdiv_eq_ediv_of_nonneg _ (Int.natCast_nonneg _)]
  exact (Int.natCast_ediv a (2 ^ s)).symm
 rw [e]
 unfold byteN wrapI
 rw [UInt8.toNat_ofNat',IntKind.wrap_u8]
 generalize m.toNat / 2 ^ s=x
 simp only [Nat.reducePow]
 omega
def cellE (t:Tbl) (r:List Val) (k:Nat):Int:=match t.cols[k]?,r[k]? with
 | some c,some v=>chkS c.kd v
 | _,_=>0
def rowE (t:Tbl) (r:List Val):Int:=if r.length=t.cols.length then evE (cellE t r) 0 t.cols.length else 3
def rowAtE (t:Tbl) (rs:List (List Val)) (n:Nat):Int:=match rs[n]? with
 | some r=>rowE t r
 | none=>0
def rowsE (t:Tbl) (rs:List (List Val)):Int:=if 5000 < rs.length then 2 else evE (rowAtE t rs) 0 rs.length
def datE (x:List Tbl) (ds:List Dat) (i:Nat):Int:=match x[i]?,ds[i]? with
 | some t,some d=>rowsE t d.rows
 | _,_=>0
def formE (x:List Tbl) (ds:List Dat):Int:=if x.map (·.nm)=ds.map (·.nm) then evE (datE x ds) 0 x.length else 3
def pickV (t:Tbl) (cs:List (List UInt8)) (r:List Val):List Val:=cs.map fun c=>(r[(ixN c (t.cols.map (·.nm)) 0).toNat]?).getD null
def nullV (l:List Val):Bool:=l.any fun v=>v.k==0
def keyT (t:Tbl) (cs:List (List UInt8)) (r:List Val):List UInt8:=keyB (pickV t cs r)
def keyO (full:Bool) (t:Tbl) (cs:List (List UInt8)) (r:List Val):Option (List UInt8):=if full&&nullV (pickV t cs r) then none else some (keyT t cs r)
def nullB (t:Tbl) (n:Nat) (r:List Val) (k:Nat):List Brk:=match t.cols[k]?,r[k]? with
 | some c,some v=>if v.k=0∧c.nl=false then [⟨1,t.nm,n,c.nm⟩] else []
 | _,_=>[]
def nullsB (t:Tbl) (n:Nat) (r:List Val):Nat→Nat→List Brk
 | _,0=>[]
 | k,m+1=>nullB t n r k++nullsB t n r (k+1) m
def rowsB (t:Tbl):Nat→List (List Val)→List Brk
 | _,[]=>[]
 | n,r::rs=>nullsB t n r 0 t.cols.length++rowsB t (n+1) rs
def againB (mk:Nat→Brk) (key:List Val→Option (List UInt8)):Nat→List (List UInt8)→List (List Val)→List Brk
 | _,_,[]=>[]
 | n,S,r::rs=>match key r with
  | none=>againB mk key (n+1) S rs
  | some k=>(if k∈S then [mk n] else [])++againB mk key (n+1) (k::S) rs
def refB (mk:Nat→Brk) (key:List Val→Option (List UInt8)) (S:List (List UInt8)):Nat→List (List Val)→List Brk
 | _,[]=>[]
 | n,r::rs=>(match key r with
  | none=>[]
  | some k=>if k∈S then [] else [mk n])++refB mk key S (n+1) rs
def idxB (t:Tbl) (rs:List (List Val)):List Idx→List Brk
 | []=>[]
 | y::l=>(if y.uq=true then againB (fun n=>⟨3,t.nm,n,y.nm⟩) (keyO true t y.cols) 0 [] rs else [])++idxB t rs l
def keysOf (x:List Tbl) (ds:List Dat) (n:List UInt8):List (List UInt8):=match x[(ixN n (x.map (·.nm)) 0).toNat]?,ds[(ixN n (x.map (·.nm)) 0).toNat]? with
 | some u,some d=>d.rows.map (keyT u u.key)
 | _,_=>[]
def fgnB (x:List Tbl) (ds:List Dat) (t:Tbl) (rs:List (List Val)):List Fgn→List Brk
 | []=>[]
 | f::l=>refB (fun n=>⟨4,t.nm,n,f.nm⟩) (keyO true t f.cols) (keysOf x ds f.tb) 0 rs++fgnB x ds t rs l
def tblB (x:List Tbl) (ds:List Dat) (t:Tbl) (rs:List (List Val)):List Brk :=
 rowsB t 0 rs++(againB (fun n=>⟨2,t.nm,n,[]⟩) (keyO false t t.key) 0 [] rs++(idxB t rs t.idx++fgnB x ds t rs t.fgn))
def tblAtB (x:List Tbl) (ds:List Dat) (i:Nat):List Brk:=match x[i]?,ds[i]? with
 | some t,some d=>tblB x ds t d.rows
 | _,_=>[]
def allB (x:List Tbl) (ds:List Dat):Nat→Nat→List Brk
 | _,0=>[]
 | i,m+1=>tblAtB x ds i++allB x ds (i+1) m
theorem nullsB_len (t:Tbl) (n:Nat) (r:List Val):∀ m k,(nullsB t n r k m).length≤m
 | 0,_=>Nat.le_refl _
 | m+1,k=>by
  have h1:=nullsB_len t n r m (k+1)
  have h2:(nullB t n r k).length≤1:=by
   unfold nullB
   split
   ·split<;>simp
   ·simp
  simp only [nullsB,List.length_append]
  omega
theorem rowsB_len (t:Tbl):∀ (rs:List (List Val)) n,(rowsB t n rs).length≤t.cols.length*rs.length
 | [],_=>Nat.zero_le _
 | r::rs,n=>by
  have h1:=rowsB_len t rs (n+1)
  have h2:=nullsB_len t n r t.cols.length 0
  simp only [rowsB,List.length_append,List.length_cons,Nat.mul_succ]
  omega
theorem againB_len (mk:Nat→Brk) (key:List Val→Option (List UInt8)):∀ (rs:List (List Val)) n S,(againB mk key n S rs).length≤rs.length
 | [],_,_=>Nat.zero_le _
 | r::rs,n,S=>by
  unfold againB
  split
  ·have:=againB_len mk key rs (n+1) S
   simp only [List.length_cons]
   omega
  ·rename_i k hk
   have:=againB_len mk key rs (n+1) (k::S)
   simp only [List.length_append,List.length_cons]
   split<;>simp<;>omega
theorem refB_len (mk:Nat→Brk) (key:List Val→Option (List UInt8)) (S:List (List UInt8)):∀ (rs:List (List Val)) n,(refB mk key S n rs).length≤rs.length
 | [],_=>Nat.zero_le _
 | r::rs,n=>by
  have h1:=refB_len mk key S rs (n+1)
  have h2:(match key r with
   | none=>([]:List Brk)
   | some k=>if k∈S then [] else [mk n]).length≤1:=by
   split
   ·simp
   ·split<;>simp
  simp only [refB,List.length_append,List.length_cons]
  omega
theorem idxB_len (t:Tbl) (rs:List (List Val)):∀ l:List Idx,(idxB t rs l).length≤rs.length*l.length
 | []=>Nat.zero_le _
 | y::l=>by
  have h1:=idxB_len t rs l
  have h2:=againB_len (fun n=>⟨3,t.nm,n,y.nm⟩) (keyO true t y.cols) rs 0 []
  simp only [idxB,List.length_append,List.length_cons,Nat.mul_succ]
  split
  ·omega
  ·simp;omega
theorem fgnB_len (x:List Tbl) (ds:List Dat) (t:Tbl) (rs:List (List Val)):∀ l:List Fgn,(fgnB x ds t rs l).length≤rs.length*l.length
 | []=>Nat.zero_le _
 | f::l=>by
  have h1:=fgnB_len x ds t rs l
  have h2:=refB_len (fun n=>⟨4,t.nm,n,f.nm⟩) (keyO true t f.cols) (keysOf x ds f.tb) rs 0
  simp only [fgnB,List.length_append,List.length_cons,Nat.mul_succ]
  omega
theorem tblB_len (x:List Tbl) (ds:List Dat) (t:Tbl) (rs:List (List Val)) (m:Nat) (hm:rs.length≤m):(tblB x ds t rs).length≤m*(t.cols.length+1+t.idx.length+t.fgn.length):=by
 have h1:=rowsB_len t rs 0
 have h2:=againB_len (fun n=>⟨2,t.nm,n,[]⟩) (keyO false t t.key) rs 0 []
 have h3:=idxB_len t rs t.idx
 have h4:=fgnB_len x ds t rs t.fgn
 have k1:t.cols.length*rs.length≤t.cols.length*m:=Nat.mul_le_mul_left _ hm
 have k3:rs.length*t.idx.length≤m*t.idx.length:=Nat.mul_le_mul_right _ hm
 have k4:rs.length*t.fgn.length≤m*t.fgn.length:=Nat.mul_le_mul_right _ hm
 simp only [tblB,List.length_append,Nat.mul_add,Nat.mul_one]
 rw [Nat.mul_comm m t.cols.length]
 omega
def RowsFit (t:Tbl) (rs:List (List Val)):Prop:=∀ r∈rs,r.length=t.cols.length
theorem rowE_len {t:Tbl} {r:List Val} (h:rowE t r=0):r.length=t.cols.length:=by
 unfold rowE at h
 split at h
 ·assumption
 ·simp at h
theorem rowsE_fit {t:Tbl} {rs:List (List Val)} (h:rowsE t rs=0):RowsFit t rs:=by
 unfold rowsE at h
 split at h
 ·simp at h
 ·intro r hr
  obtain ⟨i,hi,rfl⟩:=List.mem_iff_getElem.1 hr
  have:=evE_zero _ 0 h i (by omega) (by omega)
  unfold rowAtE at this
  rw [List.getElem?_eq_getElem hi] at this
  exact rowE_len this
structure DatOk (x:List Tbl) (ds:List Dat):Prop where
 nm:x.map (·.nm)=ds.map (·.nm)
 fit:∀ (i:Nat) (t:Tbl) (d:Dat),x[i]? = some t→ds[i]? = some d→RowsFit t d.rows
theorem DatOk.len {x:List Tbl} {ds:List Dat} (h:DatOk x ds):ds.length=x.length:=by
 have:=congrArg List.length h.nm
 simpa using this.symm
theorem formE_ok {x:List Tbl} {ds:List Dat} (h:formE x ds=0):DatOk x ds:=by
 unfold formE at h
 split at h
 ·rename_i hn
  refine ⟨hn,fun i t d ht hd=>?_⟩
  have hi:=(List.getElem?_eq_some_iff.1 ht).1
  have:=evE_zero _ 0 h i (by omega) (by omega)
  unfold datE at this
  rw [ht,hd] at this
  exact rowsE_fit this
 ·simp at h
theorem wrap_u64 (n:Int):wrapI .u64 n=n % 18446744073709551616:=by simp [wrapI,IntKind.wrap,IntKind.bits,IntKind.signed]
theorem byteRows_one (s:List UInt8) (b:UInt8):byteRows s++[[AV.int .u8 (b.toNat:Int)]]=byteRows (s++[b]):=by rw [byteRows_app];rfl
theorem locsR_bytes:∀ s:List UInt8,locsR (byteRows s)=[]
 | []=>rfl
 | b::s=>by simpa [byteRows,locsR,locsL,locs] using locsR_bytes s
theorem l_key3 (l:List Val) (v:List AV) (n j m:Int) (hm:0≤m) (ks:List It):∀ (i:Nat) (s:List UInt8) (ii:Int) (Bo:Code),Loop Tryz.f183 3 Bo→ii=(i:Int) - 1→i≤8→s.length≤1000000000 - i →
  RL K (.run 183 0 (.code Bo::.lp Bo (some ([3,6,7,8,9,10],[])) 2::.blk 3 2::ks) [(3,.own 0 s.length),(6,.int .u64 m),(7,I ii),(8,vsA l),(9,I n),(10,I j)] [.rows 1 (byteRows s) false,.cells v]) =
  R K (.run 183 0 ks [(3,.own 0 (s++bD m i).length),(8,vsA l),(9,I n),(10,I j)] [.rows 1 (byteRows (s++bD m i)) false,.cells v])
 | 0,s,ii,Bo,hB,hi,hi8,hs=>by
  subst hi
  unfold Loop at hB
  simp -implicitDefEqProofs only [go_sem,simprocAttr,Tryz.f183,loopOf] at hB
  subst hB
  rw [RL_eq]
  simp -implicitDefEqProofs only [go_sem,simprocAttr,bD,List.append_nil]
 | i+1,s,ii,Bo,hB,hi,hi8,hs=>by
  have hB':=hB
  have e:ii=(i:Int):=by omega
  subst e
  have h1:(0:Int)≤(i:Int):=by omega
  have w1:wrapI .i64 (8*(i:Int))=((8*i:Nat):Int):=by rw [wrap_id (by omega) (by omega)];omega
  have w2:wrapI .i64 ((i:Int) - 1)=(i:Int) - 1:=wrap_id (by omega) (by omega)
  have n1:¬(((8*i:Nat):Int) < 0):=by omega
  have bo:=byte_of hm (8*i) (by omega) .u64 rfl
  have ap:=byteRows_one s (byteN m (8*i))
  have rm:((s.length+1)*2≤roomMax)=True:=eq_true (by unfold roomMax;omega)
  have ih:=l_key3 l v n j m hm ks i (s++[byteN m (8*i)]) _ _ hB' rfl (by omega) (by rw [List.length_append];simp;omega)
  simp only [List.length_append,List.length_cons,List.length_nil,Nat.zero_add,List.append_assoc,List.cons_append,List.nil_append] at ih
  unfold Loop at hB
  simp -implicitDefEqProofs only [go_sem,simprocAttr,Tryz.f183,loopOf] at hB
  subst hB
  rw [RL_eq]
  simp -implicitDefEqProofs only [go_sem,simprocAttr,h1,w1,w2,n1,bo,ap,rm,byteRows_len,bD,List.length_append,List.length_cons]
  rw [ih]
theorem byte_kind {k:Int} (h:within k 0 4=true):wrapI .u8 k=((UInt8.ofNat k.toNat).toNat:Int):=by
 simp only [within,Bool.and_eq_true,decide_eq_true_eq] at h
 unfold wrapI
 rw [UInt8.toNat_ofNat',IntKind.wrap_u8]
 simp only [Nat.reducePow]
 omega
theorem l_key0 (l:List Val) (hl:l.length≤1000000) (ks:List It):∀ (q j:Nat) (s:List UInt8) (jj:Int) (Bo:Code),Loop Tryz.f183 0 Bo→jj=(j:Int)→l.length=j+q→s.length≤102*j →
  RL K (.run 183 0 (.code Bo::.lp Bo (some ([3,8,9,10],[])) 1::.blk 0 1::ks) [(3,.own 0 s.length),(8,vsA l),(9,I (l.length:Int)),(10,I jj)] [.rows 1 (byteRows s) false]) =
  R K (.run 183 0 ks [(3,.own 0 (s++keyB (l.drop j)).length)] [.rows 1 (byteRows (s++keyB (l.drop j))) false])
 | 0,j,s,jj,Bo,hB,hj,hq,hs=>by
  subst hj
  have d:¬(j:Int) < (l.length:Int):=by omega
  rw [List.drop_of_length_le (by omega)]
  unfold Loop at hB
  simp -implicitDefEqProofs only [go_sem,simprocAttr,Tryz.f183,loopOf] at hB
  subst hB
  rw [RL_eq]
  simp -implicitDefEqProofs only [go_sem,simprocAttr,d,keyB,List.append_nil]
 | q+1,j,s,jj,Bo,hB,hj,hq,hs=>by
  subst hj
  have hB':=hB
  have d:(j:Int) < (l.length:Int):=by omega
  have h7:=next_id (i:=j) (n:=l.length) (by omega) (by omega)
  obtain ⟨v,hv⟩:=some_at (l:=l) (i:=j) (by omega)
  have gv:=v_get hv
  have cp:=c_plain v.k v.n v.s
  have hk:=plain_kind v
  have hn:=plain_num v
  have hlen:=plain_len v
  have kl:=keyV_len v
  have ih:=l_key0 l hl ks q (j+1) (s++keyV (plainV v)) _ _ hB' rfl (by omega) (by rw [List.length_append];omega)
  rw [List.append_assoc] at ih
  have ed:keyB (l.drop j)=keyV (plainV v)++keyB (l.drop (j+1)):=by rw [drop_get hv];rfl
  rw [ed]
  have eta:(⟨v.k,v.n,v.s⟩:Val)=v:=rfl
  rw [eta] at cp
  generalize plainV v=p at *
  have bk:=byte_kind hk
  have a1:=byteRows_one s (UInt8.ofNat p.k.toNat)
  have rm:((s.length+1)*2≤roomMax)=True:=eq_true (by unfold roomMax;omega)
  generalize keyB (l.drop (j+1))=r at *
  by_cases k0:p.k=0
  ·have b1:(p.k==0)=true:=by simpa using k0
   have hS:s++keyV p=s++[UInt8.ofNat p.k.toNat]:=by simp [keyV,k0]
   rw [hS] at ih
   simp only [List.length_append,List.length_cons,List.length_nil,Nat.zero_add] at ih ⊢
   unfold Loop at hB
   simp -implicitDefEqProofs only [go_sem,simprocAttr,Tryz.f183,loopOf] at hB
   subst hB
   rw [RL_eq]
   simp -implicitDefEqProofs only [go_sem,simprocAttr,d,h7,gv,cp,b1,a1,bk,rm,byteRows_len,locsR_bytes,List.length_append,List.length_cons]
   exact ih
  ·have b0:(p.k==0)=false:=by simpa using k0
   by_cases k3:p.k=3
   ·have b1:(p.k==3)=true:=by simpa using k3
    have hS:s++keyV p=s++[UInt8.ofNat p.k.toNat]++p.s++[0]:=by simp [keyV,k3]
    have a2:byteRows (s++[UInt8.ofNat p.k.toNat])++byteRows p.s=byteRows (s++[UInt8.ofNat p.k.toNat]++p.s):=(byteRows_app _ _).symm
    have a3:=byteRows_one (s++[UInt8.ofNat p.k.toNat]++p.s) 0
    rw [show (((0:UInt8).toNat:Nat):Int)=0 from rfl] at a3
    have rm2:((s.length+1+p.s.length)*2≤roomMax)=True:=eq_true (by unfold roomMax;omega)
    have rm3:((s.length+1+p.s.length+1)*2≤roomMax)=True:=eq_true (by unfold roomMax;omega)
    rw [hS] at ih
    simp only [List.length_append,List.length_cons,List.length_nil,Nat.zero_add] at ih ⊢
    unfold Loop at hB
    simp -implicitDefEqProofs only [go_sem,simprocAttr,Tryz.f183,loopOf] at hB
    subst hB
    rw [RL_eq]
    simp -implicitDefEqProofs only [go_sem,simprocAttr,d,h7,gv,cp,b0,b1,a1,a2,a3,bk,rm,rm2,rm3,byteRows_len,locsR_bytes,List.length_append,List.length_cons]
    exact ih
   ·have b3:(p.k==3)=false:=by simpa using k3
    have hS:s++keyV p=s++[UInt8.ofNat p.k.toNat]++bD (p.n+4611686018427387904) 8:=by simp [keyV,k0,k3]
    have l3:=l_key3 l (vC p) (l.length:Int) (j:Int) (p.n+4611686018427387904) (by omega)
    have u1:wrapI .u64 (wrapI .u64 p.n+4611686018427387904)=p.n+4611686018427387904:=by
     rw [wrap_u64,wrap_u64]
     omega
    rw [hS] at ih
    simp only [List.length_append,List.length_cons,List.length_nil,Nat.zero_add,bD_len] at ih ⊢
    unfold Loop at hB
    simp -implicitDefEqProofs only [go_sem,simprocAttr,Tryz.f183,loopOf] at hB
    subst hB
    rw [RL_eq]
    simp -implicitDefEqProofs only [go_sem,simprocAttr,d,h7,gv,cp,b0,b3,a1,bk,rm,u1,byteRows_len,locsR_bytes,List.length_append,List.length_cons]
    rw [show s.length+1=(s++[UInt8.ofNat p.k.toNat]).length by simp,l3 _ 8 _ 7 _ ?_ rfl (by omega) (by rw [List.length_append];simp;omega)]
    ·simp -implicitDefEqProofs only [go_sem,simprocAttr,h7,locsR_bytes,List.length_append,bD_len,List.length_cons]
     exact ih
    ·rfl
theorem c_Key (l:List Val) (hl:l.length≤1000000):R K (.call 183 [vsA l] [])=some (.rows (byteRows (keyB l)),[]):=by
 have l0:=fun ks B hB=>l_key0 l hl ks l.length 0 [] 0 B hB rfl (by omega) (by simp)
 simp only [List.length_nil,List.nil_append,List.drop_zero] at l0
 rw [call_183]
 simp -implicitDefEqProofs only [go_sem,simprocAttr,Tryz.f183,List.length_map]
 rw [show byteRows []=[] from rfl] at l0
 rw [l0 _ _ ?_]
 ·simp -implicitDefEqProofs only [go_sem,simprocAttr,locsR_bytes,byteRows_len,or_self]
 ·rfl
theorem k_columnS (n:List UInt8) (c:Col):R K (.call 272 [colA c,.ptr 0 0] (nmH n))=some (.bool (c.nm==n),nmH n):=by
 rw [call_272]
 simp -implicitDefEqProofs only [go_sem,simprocAttr,Tryz.f272,colC]
theorem v_columnS (n:List UInt8) (c:Col):callV nlA (R K) (nmH n) [colA c] (.fn 272 [.ptr 0 0])=some (.bool (c.nm==n),nmH n):=by
 have hk:=k_columnS n c
 simp only [colA,colC] at hk ⊢
 simp -implicitDefEqProofs only [go_sem,simprocAttr,hk]
theorem s_columnAt (t:Tbl) (n:List UInt8) (hl:t.cols.length≤1000000):R K (.call 232 [tblA t,.str n] [])=some (I (ixN n (t.cols.map (·.nm)) 0),[]):=by
 have h:=c_ixCol (.fn 272 [.ptr 0 0]) (nmH n) n (nmH_fits n) t.cols hl (v_columnS n)
 rw [call_232]
 simp -implicitDefEqProofs only [go_sem,simprocAttr,Tryz.f232,h,tblC]
theorem k_tableS (n:List UInt8) (t:Tbl):R K (.call 205 [tblA t,.ptr 0 0] (nmH n))=some (.bool (t.nm==n),nmH n):=by
 rw [call_205]
 simp -implicitDefEqProofs only [go_sem,simprocAttr,Tryz.f205,tblC]
theorem v_tableS (n:List UInt8) (t:Tbl):callV nlA (R K) (nmH n) [tblA t] (.fn 205 [.ptr 0 0])=some (.bool (t.nm==n),nmH n):=by
 have hk:=k_tableS n t
 simp only [tblA,tblC] at hk ⊢
 simp -implicitDefEqProofs only [go_sem,simprocAttr,hk]
theorem s_tableAt (x:List Tbl) (n:List UInt8) (hl:x.length≤1000000):R K (.call 146 [schC x,.str n] [])=some (I (ixN n (x.map (·.nm)) 0),[]):=by
 have h:=c_ixTbl (.fn 205 [.ptr 0 0]) (nmH n) n (nmH_fits n) x hl (v_tableS n)
 rw [call_146]
 simp -implicitDefEqProofs only [go_sem,simprocAttr,Tryz.f146,h]
theorem val_at {t:Tbl} {r:List Val} {n:List UInt8} (hr:r.length=t.cols.length) (hn:¬ixN n (t.cols.map (·.nm)) 0 < 0):∃ (a:Nat) (v:Val),ixN n (t.cols.map (·.nm)) 0=(a:Int)∧r[a]? = some v∧(r[(ixN n (t.cols.map (·.nm)) 0).toNat]?).getD null=v:=by
 obtain ⟨a,c,h1,h2⟩:=ixN_col hn
 obtain ⟨v,hv⟩:=some_at (l:=r) (i:=a) (by have:=(List.getElem?_eq_some_iff.1 h2).1;omega)
 exact ⟨a,v,h1,hv,by rw [h1,Int.toNat_natCast,hv];rfl⟩
theorem l_vals (t:Tbl) (ht:t.cols.length≤1000000) (r:List Val) (hr:r.length=t.cols.length) (cs:List (List UInt8)) (hN:NamesIn t cs) (hc:cs.length≤1000000) (ks:List It):∀ (q j:Nat) (l:List Val) (b:Bool) (jj:Int) (Bo:Code),Loop Tryz.f179 0 Bo→jj=(j:Int)→cs.length=j+q→l.length≤j →
  RL K (.run 179 0 (.code Bo::.lp Bo (some ([2,3,6,7,11,12,13],[])) 2::.blk 0 2::ks) [(2,vsA r),(3,.ptr 0 0),(6,.own 1 l.length),(7,.bool b),(11,.rows (SLs cs)),(12,I (cs.length:Int)),(13,I jj)] [.cells (tblC t),.rows 3 (l.map vC) true]) =
  R K (.run 179 0 ks [(6,.own 1 (l++pickV t (cs.drop j) r).length),(7,.bool (b||nullV (pickV t (cs.drop j) r)))] [.cells (tblC t),.rows 3 ((l++pickV t (cs.drop j) r).map vC) true])
 | 0,j,l,b,jj,Bo,hB,hj,hq,hl=>by
  subst hj
  have d:¬(j:Int) < (cs.length:Int):=by omega
  rw [List.drop_of_length_le (by omega)]
  have e1:pickV t [] r=[]:=rfl
  have e2:nullV []=false:=rfl
  rw [e1,e2,List.append_nil,Bool.or_false]
  unfold Loop at hB
  simp -implicitDefEqProofs only [go_sem,simprocAttr,Tryz.f179,loopOf] at hB
  subst hB
  rw [RL_eq]
  simp -implicitDefEqProofs only [go_sem,simprocAttr,d,tblC,locsR_vs]
 | q+1,j,l,b,jj,Bo,hB,hj,hq,hl=>by
  subst hj
  have hB':=hB
  have d:(j:Int) < (cs.length:Int):=by omega
  have h7:=next_id (i:=j) (n:=cs.length) (by omega) (by omega)
  obtain ⟨n,hn⟩:=some_at (l:=cs) (i:=j) (by omega)
  have gn:=str_get hn
  obtain ⟨a,v,ha,hv,hd⟩:=val_at hr (hN n (List.mem_of_getElem? hn))
  have gv:=v_get hv
  have ca:=s_columnAt t n ht
  rw [ha] at ca
  have ap:=vs_app l v
  have rm:((l.length+1)*33≤roomMax)=True:=eq_true (by unfold roomMax;omega)
  have ed:pickV t (cs.drop j) r=v::pickV t (cs.drop (j+1)) r:=by
   rw [drop_get hn]
   simp only [pickV,List.map_cons,hd]
  have en:nullV (v::pickV t (cs.drop (j+1)) r)=((v.k==0)||nullV (pickV t (cs.drop (j+1)) r)):=rfl
  have ih:=fun b'=>l_vals t ht r hr cs hN hc ks q (j+1) (l++[v]) b' _ _ hB' rfl (by omega) (by rw [List.length_append];simp;omega)
  rw [ed,en]
  simp only [tblA,tblC,List.length_append,List.length_cons,List.length_nil,Nat.zero_add,List.append_assoc,List.cons_append,List.nil_append] at ih ca ap ⊢
  cases b with
  | true =>
   have ih:=ih true
   simp only [Bool.true_or] at ih ⊢
   unfold Loop at hB
   simp -implicitDefEqProofs only [go_sem,simprocAttr,Tryz.f179,loopOf] at hB
   subst hB
   rw [RL_eq]
   simp -implicitDefEqProofs only [go_sem,simprocAttr,d,h7,gn,gv,ca,ap,rm,tblC,locsR_vs,List.length_map,Int.toNat_natCast]
   exact ih
  | false =>
   have ih:=ih (v.k==0)
   simp only [Bool.false_or] at ih ⊢
   unfold Loop at hB
   simp -implicitDefEqProofs only [go_sem,simprocAttr,Tryz.f179,loopOf] at hB
   subst hB
   rw [RL_eq]
   simp -implicitDefEqProofs only [go_sem,simprocAttr,d,h7,gn,gv,ca,ap,rm,tblC,locsR_vs,List.length_map,Int.toNat_natCast]
   exact ih
theorem c_valuesOf (t:Tbl) (ht:t.cols.length≤1000000) (r:List Val) (hr:r.length=t.cols.length) (cs:List (List UInt8)) (hN:NamesIn t cs) (hc:cs.length≤1000000):R K (.call 179 [tblA t,.rows (SLs cs),vsA r] [])=some (.tup [vsA (pickV t cs r),.bool (nullV (pickV t cs r))],[]):=by
 have l0:=fun ks B hB=>l_vals t ht r hr cs hN hc ks cs.length 0 [] false 0 B hB rfl (by omega) (by simp)
 simp only [List.length_nil,List.map_nil,List.nil_append,List.drop_zero,Bool.false_or,tblC] at l0
 rw [call_179]
 simp -implicitDefEqProofs only [go_sem,simprocAttr,Tryz.f179,SLs_len,tblC]
 rw [l0 _ _ ?_]
 ·simp -implicitDefEqProofs only [go_sem,simprocAttr,locsR_vs,List.length_map,true_or]
 ·rfl
theorem l_picked (t:Tbl) (ht:t.cols.length≤1000000) (r:List Val) (hr:r.length=t.cols.length) (cs:List (List UInt8)) (hN:NamesIn t cs) (hc:cs.length≤1000000) (ks:List It):∀ (q j:Nat) (l:List Val) (b:Bool) (jj:Int) (Bo:Code),Loop Tryz.f41 0 Bo→jj=(j:Int)→cs.length=j+q→l.length≤j →
  RL K (.run 41 0 (.code Bo::.lp Bo (some ([1,3,8,9,13,14,15],[])) 2::.blk 0 2::ks) [(1,vsA r),(3,.ptr 0 0),(8,.own 1 l.length),(9,.bool b),(13,.rows (SLs cs)),(14,I (cs.length:Int)),(15,I jj)] [.cells (tblC t),.rows 3 (l.map vC) true]) =
  R K (.run 41 0 ks [(8,.own 1 (l++pickV t (cs.drop j) r).length),(9,.bool (b&&!nullV (pickV t (cs.drop j) r)))] [.cells (tblC t),.rows 3 ((l++pickV t (cs.drop j) r).map vC) true])
 | 0,j,l,b,jj,Bo,hB,hj,hq,hl=>by
  subst hj
  have d:¬(j:Int) < (cs.length:Int):=by omega
  rw [List.drop_of_length_le (by omega)]
  have e1:pickV t [] r=[]:=rfl
  have e2:nullV []=false:=rfl
  rw [e1,e2,List.append_nil,Bool.not_false,Bool.and_true]
  unfold Loop at hB
  simp -implicitDefEqProofs only [go_sem,simprocAttr,Tryz.f41,loopOf] at hB
  subst hB
  rw [RL_eq]
  simp -implicitDefEqProofs only [go_sem,simprocAttr,d,tblC,locsR_vs]
 | q+1,j,l,b,jj,Bo,hB,hj,hq,hl=>by
  subst hj
  have hB':=hB
  have d:(j:Int) < (cs.length:Int):=by omega
  have h7:=next_id (i:=j) (n:=cs.length) (by omega) (by omega)
  obtain ⟨n,hn⟩:=some_at (l:=cs) (i:=j) (by omega)
  have gn:=str_get hn
  obtain ⟨a,v,ha,hv,hd⟩:=val_at hr (hN n (List.mem_of_getElem? hn))
  have gv:=v_get hv
  have ca:=r_columnAt t n ht
  rw [ha] at ca
  have ap:=vs_app l v
  have rm:((l.length+1)*33≤roomMax)=True:=eq_true (by unfold roomMax;omega)
  have ed:pickV t (cs.drop j) r=v::pickV t (cs.drop (j+1)) r:=by
   rw [drop_get hn]
   simp only [pickV,List.map_cons,hd]
  have en:nullV (v::pickV t (cs.drop (j+1)) r)=((v.k==0)||nullV (pickV t (cs.drop (j+1)) r)):=rfl
  have ih:=fun b'=>l_picked t ht r hr cs hN hc ks q (j+1) (l++[v]) b' _ _ hB' rfl (by omega) (by rw [List.length_append];simp;omega)
  rw [ed,en]
  simp only [tblA,tblC,List.length_append,List.length_cons,List.length_nil,Nat.zero_add,List.append_assoc,List.cons_append,List.nil_append] at ih ca ap ⊢
  cases b with
  | false =>
   have ih:=ih false
   simp only [Bool.false_and] at ih ⊢
   unfold Loop at hB
   simp -implicitDefEqProofs only [go_sem,simprocAttr,Tryz.f41,loopOf] at hB
   subst hB
   rw [RL_eq]
   simp -implicitDefEqProofs only [go_sem,simprocAttr,d,h7,gn,gv,ca,ap,rm,tblC,locsR_vs,List.length_map,Int.toNat_natCast]
   exact ih
  | true =>
   have ih:=ih (!(v.k==0))
   simp only [Bool.true_and,Bool.not_or] at ih ⊢
   unfold Loop at hB
   simp -implicitDefEqProofs only [go_sem,simprocAttr,Tryz.f41,loopOf] at hB
   subst hB
   rw [RL_eq]
   simp -implicitDefEqProofs only [go_sem,simprocAttr,d,h7,gn,gv,ca,ap,rm,tblC,locsR_vs,List.length_map,Int.toNat_natCast,bne]
   exact ih
theorem r_picked (t:Tbl) (ht:t.cols.length≤1000000) (r:List Val) (hr:r.length=t.cols.length) (cs:List (List UInt8)) (hN:NamesIn t cs) (hc:cs.length≤1000000):R K (.call 41 [tblA t,vsA r,.rows (SLs cs)] [])=some (.tup [vsA (pickV t cs r),.bool (!nullV (pickV t cs r))],[]):=by
 have l0:=fun ks B hB=>l_picked t ht r hr cs hN hc ks cs.length 0 [] true 0 B hB rfl (by omega) (by simp)
 simp only [List.length_nil,List.map_nil,List.nil_append,List.drop_zero,Bool.true_and,tblC] at l0
 rw [call_41]
 simp -implicitDefEqProofs only [go_sem,simprocAttr,Tryz.f41,SLs_len,tblC]
 rw [l0 _ _ ?_]
 ·simp -implicitDefEqProofs only [go_sem,simprocAttr,locsR_vs,List.length_map,true_or]
 ·rfl
theorem pickV_len (t:Tbl) (cs:List (List UInt8)) (r:List Val):(pickV t cs r).length=cs.length:=by simp [pickV]
theorem c_keyOf (t:Tbl) (ht:t.cols.length≤1000000) (r:List Val) (hr:r.length=t.cols.length) (cs:List (List UInt8)) (hN:NamesIn t cs) (hc:cs.length≤1000000):R K (.call 145 [tblA t,.rows (SLs cs),vsA r] [])=some (.tup [.str (keyT t cs r),.bool (nullV (pickV t cs r))],[]):=by
 have h1:=c_valuesOf t ht r hr cs hN hc
 have h2:=c_Key (pickV t cs r) (by rw [pickV_len];exact hc)
 simp only [tblA,tblC] at h1 ⊢
 rw [call_145]
 simp -implicitDefEqProofs only [go_sem,simprocAttr,Tryz.f145,h1,h2,bytesIn_rows]
 rfl
theorem l_keyed3 (l:List Val) (p:Val) (n j:Int) (hp:-999999999999999≤p.n∧p.n≤999999999999999) (ks:List It):∀ (i:Nat) (s:List UInt8) (ii:Int) (Bo:Code),Loop Tryz.f91 3 Bo→ii=8*(i:Int) - 8→i≤8→s.length≤1000000000 - i →
  RL K (.run 91 0 (.code Bo::.lp Bo (some ([3,5,6,7,8,9],[])) 2::.blk 3 2::ks) [(3,.own 0 s.length),(5,.ptr 1 0),(6,I ii),(7,vsA l),(8,I n),(9,I j)] [.rows 1 (byteRows s) false,.cells (vC p)]) =
  R K (.run 91 0 ks [(3,.own 0 (s++bD (p.n+4611686018427387904) i).length),(7,vsA l),(8,I n),(9,I j)] [.rows 1 (byteRows (s++bD (p.n+4611686018427387904) i)) false,.cells (vC p)])
 | 0,s,ii,Bo,hB,hi,hi8,hs=>by
  subst hi
  unfold Loop at hB
  simp -implicitDefEqProofs only [go_sem,simprocAttr,Tryz.f91,loopOf] at hB
  subst hB
  rw [RL_eq]
  simp -implicitDefEqProofs only [go_sem,simprocAttr,bD,List.append_nil,locsR_bytes]
 | i+1,s,ii,Bo,hB,hi,hi8,hs=>by
  have hB':=hB
  have e:ii=((8*i:Nat):Int):=by omega
  subst e
  have h1:(0:Int)≤((8*i:Nat):Int):=by omega
  have w2:wrapI .i64 (((8*i:Nat):Int) - 8)=8*(i:Int) - 8:=by rw [wrap_id (by omega) (by omega)];omega
  have w3:wrapI .i64 (p.n+4611686018427387904)=p.n+4611686018427387904:=wrap_id (by omega) (by omega)
  have n1:¬(((8*i:Nat):Int) < 0):=by omega
  have bo:=byte_of (m:=p.n+4611686018427387904) (by omega) (8*i) (by omega) .i64 rfl
  have ap:=byteRows_one s (byteN (p.n+4611686018427387904) (8*i))
  have rm:((s.length+1)*2≤roomMax)=True:=eq_true (by unfold roomMax;omega)
  have ih:=l_keyed3 l p n j hp ks i (s++[byteN (p.n+4611686018427387904) (8*i)]) _ _ hB' rfl (by omega) (by rw [List.length_append];simp;omega)
  simp only [List.length_append,List.length_cons,List.length_nil,Nat.zero_add,List.append_assoc,List.cons_append,List.nil_append] at ih
  generalize ((8*i:Nat):Int)=ei at *
  unfold Loop at hB
  simp -implicitDefEqProofs only [go_sem,simprocAttr,Tryz.f91,loopOf] at hB
  subst hB
  rw [RL_eq]
  simp -implicitDefEqProofs only [go_sem,simprocAttr,h1,w2,w3,n1,bo,ap,rm,byteRows_len,locsR_bytes,bD,List.length_append,List.length_cons]
  rw [ih]
theorem l_keyed0 (l:List Val) (hl:l.length≤1000000) (ks:List It):∀ (q j:Nat) (s:List UInt8) (jj:Int) (Bo:Code),Loop Tryz.f91 0 Bo→jj=(j:Int)→l.length=j+q→s.length≤102*j →
  RL K (.run 91 0 (.code Bo::.lp Bo (some ([3,7,8,9],[])) 1::.blk 0 1::ks) [(3,.own 0 s.length),(7,vsA l),(8,I (l.length:Int)),(9,I jj)] [.rows 1 (byteRows s) false]) =
  R K (.run 91 0 ks [(3,.own 0 (s++keyB (l.drop j)).length)] [.rows 1 (byteRows (s++keyB (l.drop j))) false])
 | 0,j,s,jj,Bo,hB,hj,hq,hs=>by
  subst hj
  have d:¬(j:Int) < (l.length:Int):=by omega
  rw [List.drop_of_length_le (by omega)]
  unfold Loop at hB
  simp -implicitDefEqProofs only [go_sem,simprocAttr,Tryz.f91,loopOf] at hB
  subst hB
  rw [RL_eq]
  simp -implicitDefEqProofs only [go_sem,simprocAttr,d,keyB,List.append_nil]
 | q+1,j,s,jj,Bo,hB,hj,hq,hs=>by
  subst hj
  have hB':=hB
  have d:(j:Int) < (l.length:Int):=by omega
  have h7:=next_id (i:=j) (n:=l.length) (by omega) (by omega)
  obtain ⟨v,hv⟩:=some_at (l:=l) (i:=j) (by omega)
  have gv:=v_get hv
  have cp:=r_right v.k v.n v.s
  have hk:=plain_kind v
  have hn:=plain_num v
  have hlen:=plain_len v
  have kl:=keyV_len v
  have ih:=l_keyed0 l hl ks q (j+1) (s++keyV (plainV v)) _ _ hB' rfl (by omega) (by rw [List.length_append];omega)
  rw [List.append_assoc] at ih
  have ed:keyB (l.drop j)=keyV (plainV v)++keyB (l.drop (j+1)):=by rw [drop_get hv];rfl
  rw [ed]
  have eta:(⟨v.k,v.n,v.s⟩:Val)=v:=rfl
  rw [eta] at cp
  generalize plainV v=p at *
  have bk:=byte_kind hk
  have a1:=byteRows_one s (UInt8.ofNat p.k.toNat)
  have rm:((s.length+1)*2≤roomMax)=True:=eq_true (by unfold roomMax;omega)
  generalize keyB (l.drop (j+1))=r at *
  by_cases k0:p.k=0
  ·have b1:(p.k==0)=true:=by simpa using k0
   have hS:s++keyV p=s++[UInt8.ofNat p.k.toNat]:=by simp [keyV,k0]
   rw [hS] at ih
   simp only [List.length_append,List.length_cons,List.length_nil,Nat.zero_add] at ih ⊢
   unfold Loop at hB
   simp -implicitDefEqProofs only [go_sem,simprocAttr,Tryz.f91,loopOf] at hB
   subst hB
   rw [RL_eq]
   simp -implicitDefEqProofs only [go_sem,simprocAttr,d,h7,gv,cp,b1,a1,bk,rm,byteRows_len,locsR_bytes,List.length_append,List.length_cons]
   exact ih
  ·have b0:(p.k==0)=false:=by simpa using k0
   by_cases k3:p.k=3
   ·have b1:(p.k==3)=true:=by simpa using k3
    have hS:s++keyV p=s++[UInt8.ofNat p.k.toNat]++p.s++[0]:=by simp [keyV,k3]
    have a2:byteRows (s++[UInt8.ofNat p.k.toNat])++byteRows p.s=byteRows (s++[UInt8.ofNat p.k.toNat]++p.s):=(byteRows_app _ _).symm
    have a3:=byteRows_one (s++[UInt8.ofNat p.k.toNat]++p.s) 0
    rw [show (((0:UInt8).toNat:Nat):Int)=0 from rfl] at a3
    have rm2:((s.length+1+p.s.length)*2≤roomMax)=True:=eq_true (by unfold roomMax;omega)
    have rm3:((s.length+1+p.s.length+1)*2≤roomMax)=True:=eq_true (by unfold roomMax;omega)
    rw [hS] at ih
    simp only [List.length_append,List.length_cons,List.length_nil,Nat.zero_add] at ih ⊢
    unfold Loop at hB
    simp -implicitDefEqProofs only [go_sem,simprocAttr,Tryz.f91,loopOf] at hB
    subst hB
    rw [RL_eq]
    simp -implicitDefEqProofs only [go_sem,simprocAttr,d,h7,gv,cp,b0,b1,a1,a2,a3,bk,rm,rm2,rm3,byteRows_len,locsR_bytes,List.length_append,List.length_cons]
    exact ih
   ·have b3:(p.k==3)=false:=by simpa using k3
    have hS:s++keyV p=s++[UInt8.ofNat p.k.toNat]++bD (p.n+4611686018427387904) 8:=by simp [keyV,k0,k3]
    have l3:=l_keyed3 l p (l.length:Int) (j:Int) hn
    rw [hS] at ih
    simp only [List.length_append,List.length_cons,List.length_nil,Nat.zero_add,bD_len] at ih ⊢
    unfold Loop at hB
    simp -implicitDefEqProofs only [go_sem,simprocAttr,Tryz.f91,loopOf] at hB
    subst hB
    rw [RL_eq]
    simp -implicitDefEqProofs only [go_sem,simprocAttr,d,h7,gv,cp,b0,b3,a1,bk,rm,byteRows_len,locsR_bytes,List.length_append,List.length_cons]
    rw [show s.length+1=(s++[UInt8.ofNat p.k.toNat]).length by simp,l3 _ 8 _ 56 _ ?_ rfl (by omega) (by rw [List.length_append];simp;omega)]
    ·simp -implicitDefEqProofs only [go_sem,simprocAttr,h7,locsR_bytes,List.length_append,bD_len,List.length_cons]
     exact ih
    ·rfl
theorem r_Keyed (l:List Val) (hl:l.length≤1000000):R K (.call 91 [vsA l] [])=some (.rows (byteRows (keyB l)),[]):=by
 have l0:=fun ks B hB=>l_keyed0 l hl ks l.length 0 [] 0 B hB rfl (by omega) (by simp)
 simp only [List.length_nil,List.nil_append,List.drop_zero] at l0
 rw [call_91]
 simp -implicitDefEqProofs only [go_sem,simprocAttr,Tryz.f91,List.length_map]
 rw [show byteRows []=[] from rfl] at l0
 rw [l0 _ _ ?_]
 ·simp -implicitDefEqProofs only [go_sem,simprocAttr,locsR_bytes,byteRows_len,or_self]
 ·rfl
theorem r_keyText (l:List Val) (hl:l.length≤1000000):R K (.call 44 [vsA l] [])=some (.str (keyB l),[]):=by
 have h:=r_Keyed l hl
 rw [call_44]
 simp -implicitDefEqProofs only [go_sem,simprocAttr,Tryz.f44,h,bytesIn_rows]
structure FitD (ds:List Dat):Prop where
 len:ds.length≤1000000
 rows:∀ d∈ds,d.rows.length≤1000000∧∀ r∈d.rows,r.length≤1000000
abbrev dfH (x:List Tbl) (ds:List Dat):Heap:=[.cells [.rows (x.map tblC)],.cells [.rows (ds.map datC)]]
def cellF (b:Bool) (t:Tbl) (r:List Val) (k:Nat):Int:=match t.cols[k]?,r[k]? with
 | some c,some v=>if chkS c.kd v=0 then (if b=true∧v.k=0∧c.nl=false then 9 else 0) else chkS c.kd v
 | _,_=>0
def rowF (b:Bool) (t:Tbl) (r:List Val):Int:=if r.length=t.cols.length then evE (cellF b t r) 0 t.cols.length else 3
theorem rowF_false (t:Tbl) (r:List Val):rowF false t r=rowE t r:=by
 have e:cellF false t r=cellE t r:=by
  funext k
  unfold cellF cellE
  split<;>simp_all
 simp [rowF,rowE,e]
theorem l_rowFault (b:Bool) (t:Tbl) (ht:t.cols.length≤1000000) (r:List Val) (hr:r.length=t.cols.length) (ks:List It):∀ (q j:Nat) (jj:Int) (Bo:Code),Loop Tryz.f88 0 Bo→jj=(j:Int)→r.length=j+q →
  RL K (.run 88 0 (.code Bo::.lp Bo (some ([2,3,16,17,18],[])) 1::.blk 0 1::ks) [(2,.bool b),(3,.ptr 0 0),(16,vsA r),(17,I (r.length:Int)),(18,I jj)] [.cells (tblC t)]) =
  if evE (cellF b t r) j q=0 then R K (.run 88 0 ks [] [.cells (tblC t)]) else some (I (evE (cellF b t r) j q),[])
 | 0,j,jj,Bo,hB,hj,hq=>by
  subst hj
  have d:¬(j:Int) < (r.length:Int):=by omega
  simp only [evE,if_true]
  unfold Loop at hB
  simp -implicitDefEqProofs only [go_sem,simprocAttr,Tryz.f88,loopOf] at hB
  subst hB
  rw [RL_eq]
  simp -implicitDefEqProofs only [go_sem,simprocAttr,d,tblC]
 | q+1,j,jj,Bo,hB,hj,hq=>by
  subst hj
  have hB':=hB
  have d:(j:Int) < (r.length:Int):=by omega
  have h7:=next_id (i:=j) (n:=r.length) (by omega) (by omega)
  obtain ⟨v,hv⟩:=some_at (l:=r) (i:=j) (by omega)
  obtain ⟨c,hc⟩:=some_at (l:=t.cols) (i:=j) (by omega)
  have gv:=v_get hv
  have gc:=col_get hc
  have x0:=r_ValueFault c.kd v.k v.n v.s
  have ec:cellF b t r j=if chkS c.kd v=0 then (if b=true∧v.k=0∧c.nl=false then 9 else 0) else chkS c.kd v:=by simp only [cellF,hc,hv]
  have eta:(⟨v.k,v.n,v.s⟩:Val)=v:=rfl
  rw [eta] at x0
  have ih:=l_rowFault b t ht r hr ks q (j+1) _ _ hB' rfl (by omega)
  simp only [evE,ec]
  simp only [tblC,colC] at gc ih ⊢
  by_cases h0:chkS c.kd v=0
  ·simp only [h0,if_true]
   rw [h0] at x0
   cases b with
   | false =>
    simp only [Bool.false_eq_true,false_and,if_false,if_true]
    unfold Loop at hB
    simp -implicitDefEqProofs only [go_sem,simprocAttr,Tryz.f88,loopOf] at hB
    subst hB
    rw [RL_eq]
    simp -implicitDefEqProofs only [go_sem,simprocAttr,d,h7,gv,gc,x0,bne,tblC,colC]
    exact ih
   | true =>
    by_cases k0:v.k=0
    ·have b0:(v.k==0)=true:=by simpa using k0
     cases hn:c.nl with
     | false =>
      simp only [k0,true_and,if_true]
      unfold Loop at hB
      simp -implicitDefEqProofs only [go_sem,simprocAttr,Tryz.f88,loopOf] at hB
      subst hB
      rw [RL_eq]
      simp -implicitDefEqProofs only [go_sem,simprocAttr,d,h7,gv,gc,x0,b0,hn,bne,tblC,colC]
     | true =>
      simp only [Bool.true_eq_false,and_false,if_false,if_true]
      unfold Loop at hB
      simp -implicitDefEqProofs only [go_sem,simprocAttr,Tryz.f88,loopOf] at hB
      subst hB
      rw [RL_eq]
      simp -implicitDefEqProofs only [go_sem,simprocAttr,d,h7,gv,gc,x0,b0,hn,bne,tblC,colC]
      exact ih
    ·have b0:(v.k==0)=false:=by simpa using k0
     simp only [k0,false_and,and_false,if_false,if_true]
     unfold Loop at hB
     simp -implicitDefEqProofs only [go_sem,simprocAttr,Tryz.f88,loopOf] at hB
     subst hB
     rw [RL_eq]
     simp -implicitDefEqProofs only [go_sem,simprocAttr,d,h7,gv,gc,x0,b0,bne,tblC,colC]
     exact ih
  ·simp only [h0,if_false]
   have b0:(chkS c.kd v==0)=false:=by simpa using h0
   unfold Loop at hB
   simp -implicitDefEqProofs only [go_sem,simprocAttr,Tryz.f88,loopOf] at hB
   subst hB
   rw [RL_eq]
   simp -implicitDefEqProofs only [go_sem,simprocAttr,d,h7,gv,gc,x0,b0,bne,tblC,colC]
theorem r_rowFault (b:Bool) (t:Tbl) (ht:t.cols.length≤1000000) (r:List Val) (hr:r.length≤1000000):R K (.call 88 [tblA t,vsA r,.bool b] [])=some (I (rowF b t r),[]):=by
 by_cases h:r.length=t.cols.length
 ·have l0:=fun ks B hB=>l_rowFault b t ht r h ks r.length 0 0 B hB rfl (by omega)
  have b0:(((r.length:Nat):Int)==((t.cols.length:Nat):Int))=true:=by simp [h]
  rw [show rowF b t r=evE (cellF b t r) 0 r.length by rw [rowF,if_pos h,h]]
  simp only [tblC] at l0
  rw [call_88]
  simp -implicitDefEqProofs only [go_sem,simprocAttr,Tryz.f88,List.length_map,b0,bne,tblC]
  rw [l0 _ _ ?_]
  ·split
   ·rename_i h0
    simp -implicitDefEqProofs only [go_sem,simprocAttr]
    rw [h0]
   ·rfl
  ·rfl
 ·have b0:(((r.length:Nat):Int)==((t.cols.length:Nat):Int))=false:=by
   rw [←Bool.not_eq_true,beq_iff_eq];omega
  rw [show rowF b t r=3 by rw [rowF,if_neg h]]
  rw [call_88]
  simp -implicitDefEqProofs only [go_sem,simprocAttr,Tryz.f88,List.length_map,b0,bne,tblC]
theorem k_df (t:Tbl) (d:Dat):R K (.call 83 [tblA t,.agg (datC d)] [])=some (.bool (t.nm==d.nm),[]):=by
 rw [call_83]
 simp -implicitDefEqProofs only [go_sem,simprocAttr,Tryz.f83,tblC,datC]
theorem l_eqTR (x:List Tbl) (ds:List Dat) (hx:x.length≤1000000) (hl:x.length=ds.length) (ks:List It):∀ (q j:Nat) (jj:Int) (Bo:Code),Loop Tryz.f82 0 Bo→jj=(j:Int)→x.length=j+q →
  RL K (.run 82 0 (.code Bo::.lp Bo (some ([1,2,15,16,17],[])) 0::.blk 0 0::ks) [(1,.rows (ds.map datC)),(2,.fn 83 []),(15,.rows (x.map tblC)),(16,I (x.length:Int)),(17,I jj)] []) =
  if (x.drop j).map (·.nm)=(ds.drop j).map (·.nm) then R K (.run 82 0 ks [] []) else some (.bool false,[])
 | 0,j,jj,Bo,hB,hj,hq=>by
  subst hj
  have d:¬(j:Int) < (x.length:Int):=by omega
  rw [List.drop_of_length_le (by omega),List.drop_of_length_le (by omega)]
  simp only [List.map_nil,if_true]
  unfold Loop at hB
  simp -implicitDefEqProofs only [go_sem,simprocAttr,Tryz.f82,loopOf] at hB
  subst hB
  rw [RL_eq]
  simp -implicitDefEqProofs only [go_sem,simprocAttr,d]
 | q+1,j,jj,Bo,hB,hj,hq=>by
  subst hj
  have hB':=hB
  have d:(j:Int) < (x.length:Int):=by omega
  have h7:=next_id (i:=j) (n:=x.length) (by omega) (by omega)
  obtain ⟨t,ht⟩:=some_at (l:=x) (i:=j) (by omega)
  obtain ⟨e,he⟩:=some_at (l:=ds) (i:=j) (by omega)
  have gt:=tbl_get ht
  have ge:=dat_at he
  have hk:=k_df t e
  have ih:=l_eqTR x ds hx hl ks q (j+1) _ _ hB' rfl (by omega)
  rw [drop_get ht,drop_get he]
  simp only [List.map_cons,List.cons.injEq]
  simp only [tblA,tblC,datC] at gt ge hk
  by_cases h:t.nm=e.nm
  ·have b0:(t.nm==e.nm)=true:=by simpa using h
   rw [b0] at hk
   simp only [h,true_and]
   rw [h] at hk gt
   unfold Loop at hB
   simp -implicitDefEqProofs only [go_sem,simprocAttr,Tryz.f82,loopOf] at hB
   subst hB
   rw [RL_eq]
   simp -implicitDefEqProofs only [go_sem,simprocAttr,d,h7,gt,ge,hk]
   exact ih
  ·have b0:(t.nm==e.nm)=false:=by simpa using h
   rw [b0] at hk
   simp only [h,false_and,if_false]
   unfold Loop at hB
   simp -implicitDefEqProofs only [go_sem,simprocAttr,Tryz.f82,loopOf] at hB
   subst hB
   rw [RL_eq]
   simp -implicitDefEqProofs only [go_sem,simprocAttr,d,h7,gt,ge,hk]
theorem c_eqTR (x:List Tbl) (ds:List Dat) (hx:x.length≤1000000):R K (.call 82 [.rows (x.map tblC),.rows (ds.map datC),.fn 83 []] [])=some (.bool (decide (x.map (·.nm)=ds.map (·.nm))),[]):=by
 by_cases hl:x.length=ds.length
 ·have l0:=fun ks B hB=>l_eqTR x ds hx hl ks x.length 0 0 B hB rfl (by omega)
  have b0:(((x.length:Nat):Int)==((ds.length:Nat):Int))=true:=by simp [hl]
  simp only [List.drop_zero] at l0
  rw [call_82]
  simp -implicitDefEqProofs only [go_sem,simprocAttr,Tryz.f82,List.length_map,b0,bne]
  rw [l0 _ _ ?_]
  ·split
   ·rename_i h
    simp -implicitDefEqProofs only [go_sem,simprocAttr,h]
   ·rename_i h
    simp [h]
  ·rfl
 ·have b0:(((x.length:Nat):Int)==((ds.length:Nat):Int))=false:=by
   rw [←Bool.not_eq_true,beq_iff_eq];omega
  have hne:¬x.map (·.nm)=ds.map (·.nm):=fun e=>hl (by simpa using congrArg List.length e)
  rw [call_82]
  simp -implicitDefEqProofs only [go_sem,simprocAttr,Tryz.f82,List.length_map,b0,bne]
  simp [hne]
theorem renR_brks (σ:Nat→Nat):∀ l:List Brk,renR σ (l.map brkC)=l.map brkC
 | []=>rfl
 | x::l=>by
  simp only [List.map_cons,renR,renR_brks σ l]
  rfl
attribute [go_sem] renR_brks locsR_brks
theorem set_both {es:List (AV×AV)} {S:List (List UInt8)} (h:SetM es S) (k:List UInt8):∃ r,findA .str (.str k) es 0=some r∧(k∈S→∃ i,r=some (i,.bool true))∧(k∉S→r=none)∧SetM (mapPut es (.str k) (.bool true) r) (k::S):=by
 obtain ⟨r,h1,h2⟩:=h.put k
 obtain ⟨h3,h4⟩:=find_set (k:=k) es 0 h.key
 refine ⟨r,h1,fun hm=>?_,fun hm=>?_,h2⟩
 ·obtain ⟨j,h5,_⟩:=h3 ((h.mem k).2 hm)
  rw [h1] at h5
  exact ⟨0+j,by simpa using h5⟩
 ·have h5:=h4 fun h6=>hm ((h.mem k).1 h6)
  rw [h1] at h5
  simpa using h5
theorem set_ask {es:List (AV×AV)} {S:List (List UInt8)} (h:SetM es S) (k:List UInt8):(k∈S→∃ i,findA .str (.str k) es 0=some (some (i,.bool true)))∧(k∉S→findA .str (.str k) es 0=some none):=by
 obtain ⟨r,h1,h2,h3,_⟩:=set_both h k
 refine ⟨fun hm=>?_,fun hm=>?_⟩
 ·obtain ⟨i,rfl⟩:=h2 hm
  exact ⟨i,h1⟩
 ·rw [h1,h3 hm]
theorem SetM.same {es:List (AV×AV)} {S S':List (List UInt8)} (h:SetM es S) (e:∀ s,s∈S↔s∈S'):SetM es S':=⟨h.key,fun s=>(h.mem s).trans (e s)⟩
abbrev bkH (x:List Tbl) (ds:List Dat) (out:List Brk):Heap:=[.cells [.rows (x.map tblC),.rows (ds.map datC),.own 1 out.length],.rows 4 (out.map brkC) false]
theorem c_add (x:List Tbl) (ds:List Dat) (out:List Brk) (ho:out.length≤1000000000) (kd:Int) (tb nm:List UInt8) (n:Nat):R K (.call 85 [.ptr 0 0,I kd,.str tb,I (n:Int),.str nm] (bkH x ds out))=some (.tup [],bkH x ds (out++[⟨kd,tb,n,nm⟩])):=by
 have ap:=brks_app out ⟨kd,tb,n,nm⟩
 have rm:((out.length+1)*49≤roomMax)=True:=eq_true (by unfold roomMax;omega)
 simp only [bkH,brkC,List.length_append,List.length_cons,List.length_nil,Nat.zero_add] at ap ⊢
 rw [call_85]
 simp -implicitDefEqProofs only [go_sem,simprocAttr,Tryz.f85,ap,rm,brkC,locsR_brks,locsR_dats,List.length_map]
abbrev telB (kd:Int) (t:Tbl) (nm:List UInt8) (n:Nat):Brk:=⟨kd,t.nm,n,nm⟩
theorem l_rep (x:List Tbl) (ds:List Dat) (t:Tbl) (ht:t.cols.length≤1000000) (cs:List (List UInt8)) (hN:NamesIn t cs) (hc:cs.length≤1000000) (kd:Int) (fu:Bool) (hk:(kd==3)=fu) (nm:List UInt8) (rs:List (List Val)) (hrs:RowsFit t rs) (hl:rs.length≤1000000) :
  ∀ (q j:Nat) (es:List (AV×AV)) (S:List (List UInt8)) (out:List Brk),rs.length=j+q→SetM es S→out.length+(againB (telB kd t nm) (keyO fu t cs) j S (rs.drop j)).length≤1000000000 →
  ∃ es',∀ (ks:List It) (jj:Int) (Bo:Code),Loop Tryz.f86 0 Bo→jj=(j:Int) →
  RL K (.run 86 2 (.code Bo::.lp Bo (some ([0,1,3,4,10,11,33,34,35],[])) 4::.blk 0 4::ks) [(0,.ptr 0 0),(1,I kd),(3,.str nm),(4,.rows (SLs cs)),(10,.ptr 2 0),(11,.mp 3),(33,.rows (rs.map rowC)),(34,I (rs.length:Int)),(35,I jj)] (bkH x ds out++[.cells (tblC t),.map es])) =
  R K (.run 86 2 ks [] (bkH x ds (out++againB (telB kd t nm) (keyO fu t cs) j S (rs.drop j))++[.cells (tblC t),.map es']))
 | 0,j,es,S,out,hq,hS,ho=>by
  have d:¬(j:Int) < (rs.length:Int):=by omega
  refine ⟨es,fun ks jj Bo hB hj=>?_⟩
  subst hj
  rw [List.drop_of_length_le (by omega)]
  simp only [againB,List.append_nil,bkH,List.cons_append,List.nil_append,tblC]
  unfold Loop at hB
  simp -implicitDefEqProofs only [go_sem,simprocAttr,Tryz.f86,loopOf] at hB
  subst hB
  rw [RL_eq]
  simp -implicitDefEqProofs only [go_sem,simprocAttr,d,tblC,locsR_brks]
 | q+1,j,es,S,out,hq,hS,ho=>by
  have d:(j:Int) < (rs.length:Int):=by omega
  have h7:=next_id (i:=j) (n:=rs.length) (by omega) (by omega)
  obtain ⟨r,hr⟩:=some_at (l:=rs) (i:=j) (by omega)
  have gr:=row_at hr
  have rl:=hrs r (List.mem_of_getElem? hr)
  have xk:=c_keyOf t ht r rl cs hN hc
  obtain ⟨w,hf,hin,hout,hS'⟩:=set_both hS (keyT t cs r)
  have ed:rs.drop j=r::rs.drop (j+1):=drop_get hr
  rw [ed] at ho ⊢
  simp only [rowC] at gr
  simp only [tblA,tblC] at xk
  by_cases hskip:fu=true∧nullV (pickV t cs r)=true
  ·obtain ⟨h1,h2⟩:=hskip
   subst h1
   have ek:keyO true t cs r=none:=by simp [keyO,h2]
   have ea:againB (telB kd t nm) (keyO true t cs) j S (r::rs.drop (j+1))=againB (telB kd t nm) (keyO true t cs) (j+1) S (rs.drop (j+1)):=by simp only [againB,ek]
   rw [ea] at ho
   obtain ⟨es',ih⟩:=l_rep x ds t ht cs hN hc kd true hk nm rs hrs hl q (j+1) es S out (by omega) hS ho
   refine ⟨es',fun ks jj Bo hB hj=>?_⟩
   subst hj
   have ih:=ih ks _ Bo hB rfl
   rw [ea]
   rw [h2] at xk
   simp only [bkH,List.length_append,List.length_cons,List.length_nil,Nat.zero_add,List.cons_append,List.nil_append,tblC] at ih ⊢
   unfold Loop at hB
   simp -implicitDefEqProofs only [go_sem,simprocAttr,Tryz.f86,loopOf] at hB
   subst hB
   rw [RL_eq]
   simp -implicitDefEqProofs only [go_sem,simprocAttr,d,h7,gr,xk,hk,rowC,tblC,locsR_brks]
   exact ih
  ·have ek:keyO fu t cs r=some (keyT t cs r):=by
    unfold keyO
    rw [if_neg (by simpa using hskip)]
   have ea:againB (telB kd t nm) (keyO fu t cs) j S (r::rs.drop (j+1))=(if keyT t cs r∈S then [telB kd t nm j] else [])++againB (telB kd t nm) (keyO fu t cs) (j+1) (keyT t cs r::S) (rs.drop (j+1)):=by simp only [againB,ek]
   rw [ea] at ho ⊢
   have hb:(if nullV (pickV t cs r)=true then (kd==3) else false)=false:=by
    rw [hk]
    by_cases h:nullV (pickV t cs r)=true
    ·rw [if_pos h]
     cases fu with
     | false=>rfl
     | true=>exact absurd ⟨rfl,h⟩ hskip
    ·rw [if_neg h]
   by_cases hm:keyT t cs r∈S
   ·rw [if_pos hm] at ho ⊢
    obtain ⟨i0,rfl⟩:=hin hm
    simp only [List.length_append,List.length_cons,List.length_nil,Nat.zero_add] at ho
    obtain ⟨es',ih⟩:=l_rep x ds t ht cs hN hc kd fu hk nm rs hrs hl q (j+1) _ (keyT t cs r::S) (out++[telB kd t nm j]) (by omega) hS' (by rw [List.length_append];simp;omega)
    refine ⟨es',fun ks jj Bo hB hj=>?_⟩
    subst hj
    have ih:=ih ks _ Bo hB rfl
    rw [List.append_assoc] at ih
    have xa:=c_add x ds out (by omega) kd t.nm nm j
    generalize againB (telB kd t nm) (keyO fu t cs) (j+1) (keyT t cs r::S) (rs.drop (j+1))=rest at *
    cases hn:nullV (pickV t cs r) with
    | false =>
     rw [hn] at xk
     simp only [bkH,List.length_append,List.length_cons,List.length_nil,Nat.zero_add,List.cons_append,List.nil_append,tblC,mapPut] at ih xa ⊢
     unfold Loop at hB
     simp -implicitDefEqProofs only [go_sem,simprocAttr,Tryz.f86,loopOf] at hB
     subst hB
     rw [RL_eq]
     simp -implicitDefEqProofs only [go_sem,simprocAttr,d,h7,gr,xk,hf,xa,rowC,tblC,locsR_brks]
     exact ih
    | true =>
     rw [hn] at xk hb
     simp only [if_true] at hb
     simp only [bkH,List.length_append,List.length_cons,List.length_nil,Nat.zero_add,List.cons_append,List.nil_append,tblC,mapPut] at ih xa ⊢
     unfold Loop at hB
     simp -implicitDefEqProofs only [go_sem,simprocAttr,Tryz.f86,loopOf] at hB
     subst hB
     rw [RL_eq]
     simp -implicitDefEqProofs only [go_sem,simprocAttr,d,h7,gr,xk,hb,hf,xa,rowC,tblC,locsR_brks]
     exact ih
   ·rw [if_neg hm] at ho ⊢
    obtain rfl:=hout hm
    rw [List.nil_append] at ho ⊢
    obtain ⟨es',ih⟩:=l_rep x ds t ht cs hN hc kd fu hk nm rs hrs hl q (j+1) _ (keyT t cs r::S) out (by omega) hS' ho
    refine ⟨es',fun ks jj Bo hB hj=>?_⟩
    subst hj
    have ih:=ih ks _ Bo hB rfl
    generalize againB (telB kd t nm) (keyO fu t cs) (j+1) (keyT t cs r::S) (rs.drop (j+1))=rest at *
    cases hn:nullV (pickV t cs r) with
    | false =>
     rw [hn] at xk
     simp only [bkH,List.length_append,List.length_cons,List.length_nil,Nat.zero_add,List.cons_append,List.nil_append,tblC,mapPut] at ih ⊢
     unfold Loop at hB
     simp -implicitDefEqProofs only [go_sem,simprocAttr,Tryz.f86,loopOf] at hB
     subst hB
     rw [RL_eq]
     simp -implicitDefEqProofs only [go_sem,simprocAttr,d,h7,gr,xk,hf,rowC,tblC,locsR_brks]
     exact ih
    | true =>
     rw [hn] at xk hb
     simp only [if_true] at hb
     simp only [bkH,List.length_append,List.length_cons,List.length_nil,Nat.zero_add,List.cons_append,List.nil_append,tblC,mapPut] at ih ⊢
     unfold Loop at hB
     simp -implicitDefEqProofs only [go_sem,simprocAttr,Tryz.f86,loopOf] at hB
     subst hB
     rw [RL_eq]
     simp -implicitDefEqProofs only [go_sem,simprocAttr,d,h7,gr,xk,hb,hf,rowC,tblC,locsR_brks]
     exact ih
theorem c_repeated (x:List Tbl) (ds:List Dat) (i:Nat) (t:Tbl) (e:Dat) (hi:x[i]? = some t) (he:ds[i]? = some e) (ht:t.cols.length≤1000000) (cs:List (List UInt8)) (hN:NamesIn t cs) (hc:cs.length≤1000000) (kd:Int) (fu:Bool) (hk:(kd==3)=fu) (nm:List UInt8) (hrs:RowsFit t e.rows) (hl:e.rows.length≤1000000)
  (out:List Brk) (ho:out.length+(againB (telB kd t nm) (keyO fu t cs) 0 [] e.rows).length≤1000000000) :
  R K (.call 86 [.ptr 0 0,I kd,I (i:Int),.str nm,.rows (SLs cs)] (bkH x ds out))=some (.tup [],bkH x ds (out++againB (telB kd t nm) (keyO fu t cs) 0 [] e.rows)):=by
 have gt:=tbl_get hi
 have ge:=dat_at he
 obtain ⟨es',l0⟩:=l_rep x ds t ht cs hN hc kd fu hk nm e.rows hrs hl e.rows.length 0 [] [] out (by omega) SetM.nil (by simpa using ho)
 simp only [List.drop_zero] at l0
 generalize againB (telB kd t nm) (keyO fu t cs) 0 [] e.rows=rest at *
 simp only [bkH,List.length_append,List.length_cons,List.length_nil,Nat.zero_add,tblC,datC,List.cons_append,List.nil_append] at gt ge l0 ⊢
 rw [call_86]
 simp -implicitDefEqProofs only [go_sem,simprocAttr,Tryz.f86,gt,ge,tblC,datC,locsR_brks,List.length_map]
 rw [l0 _ 0 _ ?_ rfl]
 ·simp -implicitDefEqProofs only [go_sem,simprocAttr,locsR_brks]
 ·rfl
theorem l_ref0 (x:List Tbl) (ds:List Dat) (out:List Brk) (t:Tbl) (f:Fgn) (i w:Nat) (u:Tbl) (hw:x[w]? = some u) (hu:u.cols.length≤1000000) (hN:NamesIn u u.key) (hc:u.key.length≤1000000) (rs:List (List Val)) (hrs:RowsFit u rs) (hl:rs.length≤1000000) :
  ∀ (q j:Nat) (es:List (AV×AV)) (S:List (List UInt8)),rs.length=j+q→SetM es S →
  ∃ es',SetM es' ((rs.drop j).map (keyT u u.key)++S)∧∀ (ks:List It) (jj:Int) (Bo:Code),Loop Tryz.f87 0 Bo→jj=(j:Int) →
  RL K (.run 87 2 (.code Bo::.lp Bo (some ([0,1,5,6,7,8,41,42,43],[])) 5::.blk 0 5::ks) [(0,.ptr 0 0),(1,I (i:Int)),(5,.ptr 2 0),(6,.ptr 3 0),(7,I (w:Int)),(8,.mp 4),(41,.rows (rs.map rowC)),(42,I (rs.length:Int)),(43,I jj)] (bkH x ds out++[.cells (fgnC f),.cells (tblC t),.map es])) =
  R K (.run 87 2 ks [(0,.ptr 0 0),(1,I (i:Int)),(5,.ptr 2 0),(6,.ptr 3 0),(8,.mp 4)] (bkH x ds out++[.cells (fgnC f),.cells (tblC t),.map es']))
 | 0,j,es,S,hq,hS=>by
  have d:¬(j:Int) < (rs.length:Int):=by omega
  refine ⟨es,by rw [List.drop_of_length_le (by omega)];exact hS,fun ks jj Bo hB hj=>?_⟩
  subst hj
  simp only [bkH,List.length_append,List.length_cons,List.length_nil,Nat.zero_add,List.cons_append,List.nil_append,tblC,fgnC]
  unfold Loop at hB
  simp -implicitDefEqProofs only [go_sem,simprocAttr,Tryz.f87,loopOf] at hB
  subst hB
  rw [RL_eq]
  simp -implicitDefEqProofs only [go_sem,simprocAttr,d,tblC,fgnC,locsR_brks]
 | q+1,j,es,S,hq,hS=>by
  have d:(j:Int) < (rs.length:Int):=by omega
  have h7:=next_id (i:=j) (n:=rs.length) (by omega) (by omega)
  obtain ⟨r,hr⟩:=some_at (l:=rs) (i:=j) (by omega)
  have gr:=row_at hr
  have rl:=hrs r (List.mem_of_getElem? hr)
  have xk:=c_keyOf u hu r rl u.key hN hc
  have gu:=tbl_get hw
  obtain ⟨v,hf,_,_,hS'⟩:=set_both hS (keyT u u.key r)
  obtain ⟨es',hS2,ih⟩:=l_ref0 x ds out t f i w u hw hu hN hc rs hrs hl q (j+1) _ _ (by omega) hS'
  refine ⟨es',hS2.same fun s=>?_,fun ks jj Bo hB hj=>?_⟩
  ·rw [drop_get hr]
   simp only [List.map_cons,List.cons_append,List.mem_append,List.mem_cons]
   constructor
   ·rintro (h | h | h)
    ·exact .inr (.inl h)
    ·exact .inl h
    ·exact .inr (.inr h)
   ·rintro (h | h | h)
    ·exact .inr (.inl h)
    ·exact .inl h
    ·exact .inr (.inr h)
  ·subst hj
   have ih:=ih ks _ Bo hB rfl
   simp only [rowC] at gr
   simp only [tblA,tblC] at xk gu
   simp only [bkH,List.length_append,List.length_cons,List.length_nil,Nat.zero_add,List.cons_append,List.nil_append,tblC,fgnC] at ih ⊢
   unfold Loop at hB
   simp -implicitDefEqProofs only [go_sem,simprocAttr,Tryz.f87,loopOf] at hB
   subst hB
   rw [RL_eq]
   simp -implicitDefEqProofs only [go_sem,simprocAttr,d,h7,gr,gu,xk,hf,rowC,tblC,fgnC,locsR_brks]
   exact ih
theorem l_ref2 (x:List Tbl) (ds:List Dat) (t:Tbl) (ht:t.cols.length≤1000000) (f:Fgn) (hN:NamesIn t f.cols) (hc:f.cols.length≤1000000) (es:List (AV×AV)) (S:List (List UInt8)) (hS:SetM es S) (rs:List (List Val)) (hrs:RowsFit t rs) (hl:rs.length≤1000000) (ks:List It) :
  ∀ (q j:Nat) (out:List Brk) (jj:Int) (Bo:Code),Loop Tryz.f87 2 Bo→jj=(j:Int)→rs.length=j+q→out.length+(refB (telB 4 t f.nm) (keyO true t f.cols) S j (rs.drop j)).length≤1000000000 →
  RL K (.run 87 2 (.code Bo::.lp Bo (some ([0,5,6,8,80,81,82],[])) 5::.blk 2 5::ks) [(0,.ptr 0 0),(5,.ptr 2 0),(6,.ptr 3 0),(8,.mp 4),(80,.rows (rs.map rowC)),(81,I (rs.length:Int)),(82,I jj)] (bkH x ds out++[.cells (fgnC f),.cells (tblC t),.map es])) =
  R K (.run 87 2 ks [] (bkH x ds (out++refB (telB 4 t f.nm) (keyO true t f.cols) S j (rs.drop j))++[.cells (fgnC f),.cells (tblC t),.map es]))
 | 0,j,out,jj,Bo,hB,hj,hq,ho=>by
  subst hj
  have d:¬(j:Int) < (rs.length:Int):=by omega
  rw [List.drop_of_length_le (by omega)]
  simp only [refB,List.append_nil,bkH,List.cons_append,List.nil_append,tblC,fgnC]
  unfold Loop at hB
  simp -implicitDefEqProofs only [go_sem,simprocAttr,Tryz.f87,loopOf] at hB
  subst hB
  rw [RL_eq]
  simp -implicitDefEqProofs only [go_sem,simprocAttr,d,tblC,fgnC,locsR_brks]
 | q+1,j,out,jj,Bo,hB,hj,hq,ho=>by
  subst hj
  have hB':=hB
  have d:(j:Int) < (rs.length:Int):=by omega
  have h7:=next_id (i:=j) (n:=rs.length) (by omega) (by omega)
  obtain ⟨r,hr⟩:=some_at (l:=rs) (i:=j) (by omega)
  have gr:=row_at hr
  have rl:=hrs r (List.mem_of_getElem? hr)
  have xk:=c_keyOf t ht r rl f.cols hN hc
  have hlk:=set_ask hS (keyT t f.cols r)
  have ed:rs.drop j=r::rs.drop (j+1):=drop_get hr
  rw [ed] at ho ⊢
  simp only [rowC] at gr
  simp only [tblA,tblC] at xk
  cases hn:nullV (pickV t f.cols r) with
  | true =>
   have ek:keyO true t f.cols r=none:=by simp [keyO,hn]
   have ea:refB (telB 4 t f.nm) (keyO true t f.cols) S j (r::rs.drop (j+1))=refB (telB 4 t f.nm) (keyO true t f.cols) S (j+1) (rs.drop (j+1)):=by simp only [refB,ek,List.nil_append]
   rw [ea] at ho ⊢
   have ih:=l_ref2 x ds t ht f hN hc es S hS rs hrs hl ks q (j+1) out _ Bo hB' rfl (by omega) ho
   rw [hn] at xk
   simp only [bkH,List.length_append,List.length_cons,List.length_nil,Nat.zero_add,List.cons_append,List.nil_append,tblC,fgnC] at ih ⊢
   unfold Loop at hB
   simp -implicitDefEqProofs only [go_sem,simprocAttr,Tryz.f87,loopOf] at hB
   subst hB
   rw [RL_eq]
   simp -implicitDefEqProofs only [go_sem,simprocAttr,d,h7,gr,xk,rowC,tblC,fgnC,locsR_brks]
   exact ih
  | false =>
   have ek:keyO true t f.cols r=some (keyT t f.cols r):=by simp [keyO,hn]
   have ea:refB (telB 4 t f.nm) (keyO true t f.cols) S j (r::rs.drop (j+1))=(if keyT t f.cols r∈S then [] else [telB 4 t f.nm j])++refB (telB 4 t f.nm) (keyO true t f.cols) S (j+1) (rs.drop (j+1)):=by simp only [refB,ek]
   rw [ea] at ho ⊢
   rw [hn] at xk
   by_cases hm:keyT t f.cols r∈S
   ·rw [if_pos hm,List.nil_append] at ho ⊢
    obtain ⟨i0,hlk⟩:=hlk.1 hm
    have ih:=l_ref2 x ds t ht f hN hc es S hS rs hrs hl ks q (j+1) out _ Bo hB' rfl (by omega) ho
    simp only [bkH,List.length_append,List.length_cons,List.length_nil,Nat.zero_add,List.cons_append,List.nil_append,tblC,fgnC] at ih ⊢
    unfold Loop at hB
    simp -implicitDefEqProofs only [go_sem,simprocAttr,Tryz.f87,loopOf] at hB
    subst hB
    rw [RL_eq]
    simp -implicitDefEqProofs only [go_sem,simprocAttr,d,h7,gr,xk,hlk,rowC,tblC,fgnC,locsR_brks]
    exact ih
   ·rw [if_neg hm] at ho ⊢
    have hlk:=hlk.2 hm
    simp only [List.length_append,List.length_cons,List.length_nil,Nat.zero_add] at ho
    have ih:=l_ref2 x ds t ht f hN hc es S hS rs hrs hl ks q (j+1) (out++[telB 4 t f.nm j]) _ Bo hB' rfl (by omega) (by rw [List.length_append];simp;omega)
    rw [List.append_assoc] at ih
    have xa:=c_add x ds out (by omega) 4 t.nm f.nm j
    generalize refB (telB 4 t f.nm) (keyO true t f.cols) S (j+1) (rs.drop (j+1))=rest at *
    simp only [bkH,List.length_append,List.length_cons,List.length_nil,Nat.zero_add,List.cons_append,List.nil_append,tblC,fgnC] at ih xa ⊢
    unfold Loop at hB
    simp -implicitDefEqProofs only [go_sem,simprocAttr,Tryz.f87,loopOf] at hB
    subst hB
    rw [RL_eq]
    simp -implicitDefEqProofs only [go_sem,simprocAttr,d,h7,gr,xk,hlk,xa,rowC,tblC,fgnC,locsR_brks]
    exact ih
theorem c_references (x:List Tbl) (ds:List Dat) (hx:x.length≤1000000) (i w:Nat) (t u:Tbl) (e g:Dat) (hi:x[i]? = some t) (he:ds[i]? = some e) (hw:x[w]? = some u) (hg:ds[w]? = some g) (f:Fgn) (hf:ixN f.tb (x.map (·.nm)) 0=(w:Int))
  (ht:t.cols.length≤1000000) (hu:u.cols.length≤1000000) (hN:NamesIn t f.cols) (hc:f.cols.length≤1000000) (hNu:NamesIn u u.key) (hcu:u.key.length≤1000000) (hrs:RowsFit t e.rows) (hl:e.rows.length≤1000000) (hgs:RowsFit u g.rows) (hgl:g.rows.length≤1000000)
  (out:List Brk) (ho:out.length+(refB (telB 4 t f.nm) (keyO true t f.cols) (keysOf x ds f.tb) 0 e.rows).length≤1000000000) :
  R K (.call 87 [.ptr 0 0,I (i:Int),.agg (fgnC f)] (bkH x ds out))=some (.tup [],bkH x ds (out++refB (telB 4 t f.nm) (keyO true t f.cols) (keysOf x ds f.tb) 0 e.rows)):=by
 have gt:=tbl_get hi
 have ge:=dat_at he
 have gg:=dat_at hg
 have xt:=s_tableAt x f.tb hx
 rw [hf] at xt
 have ek:keysOf x ds f.tb=g.rows.map (keyT u u.key):=by simp only [keysOf,hf,Int.toNat_natCast,hw,hg]
 rw [ek] at ho ⊢
 obtain ⟨es',hS,l0⟩:=l_ref0 x ds out t f i w u hw hu hNu hcu g.rows hgs hgl g.rows.length 0 [] [] (by omega) SetM.nil
 rw [List.drop_zero,List.append_nil] at hS
 have l2:=fun ks B hB=>l_ref2 x ds t ht f hN hc es' _ hS e.rows hrs hl ks e.rows.length 0 out 0 B hB rfl (by omega) (by simpa using ho)
 simp only [List.drop_zero] at l2
 generalize refB (telB 4 t f.nm) (keyO true t f.cols) (g.rows.map (keyT u u.key)) 0 e.rows=rest at *
 simp only [bkH,List.length_append,List.length_cons,List.length_nil,Nat.zero_add,tblC,datC,fgnC,List.cons_append,List.nil_append] at gt ge gg l0 l2 ⊢
 rw [call_87]
 simp -implicitDefEqProofs only [go_sem,simprocAttr,Tryz.f87,gt,ge,gg,xt,tblC,datC,fgnC,locsR_brks,List.length_map]
 rw [l0 _ 0 _ ?_ rfl]
 ·simp -implicitDefEqProofs only [go_sem,simprocAttr,gt,ge,gg,tblC,datC,fgnC,locsR_brks,List.length_map]
  rw [l2 _ _ ?_]
  ·simp -implicitDefEqProofs only [go_sem,simprocAttr,locsR_brks]
  ·rfl
 ·rfl
theorem l_tab2 (x:List Tbl) (ds:List Dat) (t:Tbl) (ht:t.cols.length≤1000000) (r:List Val) (hr:r.length=t.cols.length) (i n:Nat) (rs:List (List Val)) (ks:List It) :
  ∀ (q k:Nat) (out:List Brk) (kk:Int) (Bo:Code),Loop Tryz.f35 2 Bo→kk=(k:Int)→t.cols.length=k+q→out.length+(nullsB t n r k q).length≤1000000000 →
  RL K (.run 35 2 (.code Bo::.lp Bo (some ([0,1,4,5,6,29,30,31,37,38,39],[])) 3::.blk 2 3::ks) [(0,.ptr 0 0),(1,I (i:Int)),(4,.ptr 2 0),(5,I (n:Int)),(6,vsA r),(29,.rows (rs.map rowC)),(30,I (rs.length:Int)),(31,I (n:Int)),(37,.rows (t.cols.map colC)),(38,I (t.cols.length:Int)),(39,I kk)] (bkH x ds out++[.cells (tblC t)])) =
  R K (.run 35 2 ks [(0,.ptr 0 0),(1,I (i:Int)),(4,.ptr 2 0),(29,.rows (rs.map rowC)),(30,I (rs.length:Int)),(31,I (n:Int))] (bkH x ds (out++nullsB t n r k q)++[.cells (tblC t)]))
 | 0,k,out,kk,Bo,hB,hk,hq,ho=>by
  subst hk
  have d:¬(k:Int) < (t.cols.length:Int):=by omega
  simp only [nullsB,List.append_nil,bkH,List.cons_append,List.nil_append,tblC]
  unfold Loop at hB
  simp -implicitDefEqProofs only [go_sem,simprocAttr,Tryz.f35,loopOf] at hB
  subst hB
  rw [RL_eq]
  simp -implicitDefEqProofs only [go_sem,simprocAttr,d,tblC,locsR_brks]
 | q+1,k,out,kk,Bo,hB,hk,hq,ho=>by
  subst hk
  have hB':=hB
  have d:(k:Int) < (t.cols.length:Int):=by omega
  have h7:=next_id (i:=k) (n:=t.cols.length) (by omega) (by omega)
  obtain ⟨c,hc⟩:=some_at (l:=t.cols) (i:=k) (by omega)
  obtain ⟨v,hv⟩:=some_at (l:=r) (i:=k) (by omega)
  have gc:=col_get hc
  have gv:=v_get hv
  have en:nullB t n r k=if v.k=0∧c.nl=false then [⟨1,t.nm,n,c.nm⟩] else []:=by simp only [nullB,hc,hv]
  simp only [nullsB,en] at ho ⊢
  simp only [colC] at gc
  by_cases h0:v.k=0∧c.nl=false
  ·obtain ⟨h1,h2⟩:=h0
   have b0:(v.k==0)=true:=by simpa using h1
   rw [if_pos ⟨h1,h2⟩] at ho ⊢
   simp only [List.length_append,List.length_cons,List.length_nil,Nat.zero_add] at ho
   have xa:=c_add x ds out (by omega) 1 t.nm c.nm n
   have ih:=l_tab2 x ds t ht r hr i n rs ks q (k+1) (out++[⟨1,t.nm,n,c.nm⟩]) _ Bo hB' rfl (by omega) (by rw [List.length_append];simp;omega)
   rw [List.append_assoc] at ih
   generalize nullsB t n r (k+1) q=rest at *
   simp only [bkH,List.length_append,List.length_cons,List.length_nil,Nat.zero_add,List.cons_append,List.nil_append,tblC] at ih xa ⊢
   unfold Loop at hB
   simp -implicitDefEqProofs only [go_sem,simprocAttr,Tryz.f35,loopOf] at hB
   subst hB
   rw [RL_eq]
   simp -implicitDefEqProofs only [go_sem,simprocAttr,d,h7,gc,gv,b0,h2,xa,colC,tblC,locsR_brks]
   exact ih
  ·rw [if_neg h0,List.nil_append] at ho ⊢
   have ih:=l_tab2 x ds t ht r hr i n rs ks q (k+1) out _ Bo hB' rfl (by omega) ho
   generalize nullsB t n r (k+1) q=rest at *
   simp only [bkH,List.length_append,List.length_cons,List.length_nil,Nat.zero_add,List.cons_append,List.nil_append,tblC] at ih ⊢
   by_cases h1:v.k=0
   ·have b0:(v.k==0)=true:=by simpa using h1
    have h2:c.nl=true:=by
     cases hn:c.nl with
     | true=>rfl
     | false=>exact absurd ⟨h1,hn⟩ h0
    unfold Loop at hB
    simp -implicitDefEqProofs only [go_sem,simprocAttr,Tryz.f35,loopOf] at hB
    subst hB
    rw [RL_eq]
    simp -implicitDefEqProofs only [go_sem,simprocAttr,d,h7,gc,gv,b0,h2,colC,tblC,locsR_brks]
    exact ih
   ·have b0:(v.k==0)=false:=by simpa using h1
    unfold Loop at hB
    simp -implicitDefEqProofs only [go_sem,simprocAttr,Tryz.f35,loopOf] at hB
    subst hB
    rw [RL_eq]
    simp -implicitDefEqProofs only [go_sem,simprocAttr,d,h7,gc,gv,b0,colC,tblC,locsR_brks]
    exact ih
theorem l_tab0 (x:List Tbl) (ds:List Dat) (t:Tbl) (ht:t.cols.length≤1000000) (i:Nat) (rs:List (List Val)) (hrs:RowsFit t rs) (hl:rs.length≤1000000) (ks:List It) :
  ∀ (q j:Nat) (out:List Brk) (jj:Int) (Bo:Code),Loop Tryz.f35 0 Bo→jj=(j:Int)→rs.length=j+q→out.length+(rowsB t j (rs.drop j)).length≤1000000000 →
  RL K (.run 35 2 (.code Bo::.lp Bo (some ([0,1,4,29,30,31],[])) 3::.blk 0 3::ks) [(0,.ptr 0 0),(1,I (i:Int)),(4,.ptr 2 0),(29,.rows (rs.map rowC)),(30,I (rs.length:Int)),(31,I jj)] (bkH x ds out++[.cells (tblC t)])) =
  R K (.run 35 2 ks [(0,.ptr 0 0),(1,I (i:Int)),(4,.ptr 2 0)] (bkH x ds (out++rowsB t j (rs.drop j))++[.cells (tblC t)]))
 | 0,j,out,jj,Bo,hB,hj,hq,ho=>by
  subst hj
  have d:¬(j:Int) < (rs.length:Int):=by omega
  rw [List.drop_of_length_le (by omega)]
  simp only [rowsB,List.append_nil,bkH,List.cons_append,List.nil_append,tblC]
  unfold Loop at hB
  simp -implicitDefEqProofs only [go_sem,simprocAttr,Tryz.f35,loopOf] at hB
  subst hB
  rw [RL_eq]
  simp -implicitDefEqProofs only [go_sem,simprocAttr,d,tblC,locsR_brks]
 | q+1,j,out,jj,Bo,hB,hj,hq,ho=>by
  subst hj
  have hB':=hB
  have d:(j:Int) < (rs.length:Int):=by omega
  have h7:=next_id (i:=j) (n:=rs.length) (by omega) (by omega)
  obtain ⟨r,hr⟩:=some_at (l:=rs) (i:=j) (by omega)
  have gr:=row_at hr
  have rl:=hrs r (List.mem_of_getElem? hr)
  rw [show rs.drop j=r::rs.drop (j+1) from drop_get hr] at ho ⊢
  simp only [rowsB,List.length_append] at ho ⊢
  have l2:=fun ks B hB=>l_tab2 x ds t ht r rl i j rs ks t.cols.length 0 out 0 B hB rfl (by omega) (by omega)
  have ih:=l_tab0 x ds t ht i rs hrs hl ks q (j+1) (out++nullsB t j r 0 t.cols.length) _ Bo hB' rfl (by omega) (by rw [List.length_append];omega)
  rw [List.append_assoc] at ih
  generalize nullsB t j r 0 t.cols.length=one at *
  generalize rowsB t (j+1) (rs.drop (j+1))=rest at *
  simp only [rowC] at gr
  simp only [bkH,List.length_append,List.length_cons,List.length_nil,Nat.zero_add,List.cons_append,List.nil_append,tblC] at ih l2 ⊢
  unfold Loop at hB
  simp -implicitDefEqProofs only [go_sem,simprocAttr,Tryz.f35,loopOf] at hB
  subst hB
  rw [RL_eq]
  simp -implicitDefEqProofs only [go_sem,simprocAttr,d,gr,rowC,tblC,locsR_brks,List.length_map]
  rw [l2 _ _ ?_]
  ·simp -implicitDefEqProofs only [go_sem,simprocAttr,h7,tblC,locsR_brks]
   exact ih
  ·rfl
theorem l_tab4 (x:List Tbl) (ds:List Dat) (i:Nat) (t:Tbl) (e:Dat) (hi:x[i]? = some t) (he:ds[i]? = some e) (ht:t.cols.length≤1000000) (hN:∀ y∈t.idx,NamesIn t y.cols∧y.cols.length≤1000000) (hx:t.idx.length≤1000000) (hrs:RowsFit t e.rows) (hl:e.rows.length≤1000000) (ks:List It) :
  ∀ (q j:Nat) (out:List Brk) (jj:Int) (Bo:Code),Loop Tryz.f35 4 Bo→jj=(j:Int)→t.idx.length=j+q→out.length+(idxB t e.rows (t.idx.drop j)).length≤1000000000 →
  RL K (.run 35 2 (.code Bo::.lp Bo (some ([0,1,4,70,71,72],[])) 3::.blk 4 3::ks) [(0,.ptr 0 0),(1,I (i:Int)),(4,.ptr 2 0),(70,.rows (t.idx.map idxC)),(71,I (t.idx.length:Int)),(72,I jj)] (bkH x ds out++[.cells (tblC t)])) =
  R K (.run 35 2 ks [(0,.ptr 0 0),(1,I (i:Int)),(4,.ptr 2 0)] (bkH x ds (out++idxB t e.rows (t.idx.drop j))++[.cells (tblC t)]))
 | 0,j,out,jj,Bo,hB,hj,hq,ho=>by
  subst hj
  have d:¬(j:Int) < (t.idx.length:Int):=by omega
  rw [List.drop_of_length_le (by omega)]
  simp only [idxB,List.append_nil,bkH,List.cons_append,List.nil_append,tblC]
  unfold Loop at hB
  simp -implicitDefEqProofs only [go_sem,simprocAttr,Tryz.f35,loopOf] at hB
  subst hB
  rw [RL_eq]
  simp -implicitDefEqProofs only [go_sem,simprocAttr,d,tblC,locsR_brks]
 | q+1,j,out,jj,Bo,hB,hj,hq,ho=>by
  subst hj
  have hB':=hB
  have d:(j:Int) < (t.idx.length:Int):=by omega
  have h7:=next_id (i:=j) (n:=t.idx.length) (by omega) (by omega)
  obtain ⟨y,hy⟩:=some_at (l:=t.idx) (i:=j) (by omega)
  have gy:=idx_get hy
  obtain ⟨n1,n2⟩:=hN y (List.mem_of_getElem? hy)
  rw [show t.idx.drop j=y::t.idx.drop (j+1) from drop_get hy] at ho ⊢
  simp only [idxB,List.length_append] at ho ⊢
  simp only [idxC] at gy
  cases hu:y.uq with
  | true =>
   rw [hu] at gy ho
   simp only [if_true] at ho ⊢
   have et:(fun n=>(⟨3,t.nm,n,y.nm⟩:Brk))=telB 3 t y.nm:=rfl
   rw [et] at ho ⊢
   have xr:=c_repeated x ds i t e hi he ht y.cols n1 n2 3 true rfl y.nm hrs hl out (by omega)
   have ih:=l_tab4 x ds i t e hi he ht hN hx hrs hl ks q (j+1) (out++againB (telB 3 t y.nm) (keyO true t y.cols) 0 [] e.rows) _ Bo hB' rfl (by omega) (by rw [List.length_append];omega)
   rw [List.append_assoc] at ih
   generalize againB (telB 3 t y.nm) (keyO true t y.cols) 0 [] e.rows=one at *
   generalize idxB t e.rows (t.idx.drop (j+1))=rest at *
   simp only [bkH,List.length_append,List.length_cons,List.length_nil,Nat.zero_add,List.cons_append,List.nil_append,tblC] at ih xr ⊢
   unfold Loop at hB
   simp -implicitDefEqProofs only [go_sem,simprocAttr,Tryz.f35,loopOf] at hB
   subst hB
   rw [RL_eq]
   simp -implicitDefEqProofs only [go_sem,simprocAttr,d,h7,gy,xr,idxC,tblC,locsR_brks]
   exact ih
  | false =>
   rw [hu] at gy ho
   simp only [Bool.false_eq_true,if_false,List.nil_append,List.length_nil,Nat.zero_add] at ho ⊢
   have ih:=l_tab4 x ds i t e hi he ht hN hx hrs hl ks q (j+1) out _ Bo hB' rfl (by omega) ho
   generalize idxB t e.rows (t.idx.drop (j+1))=rest at *
   simp only [bkH,List.length_append,List.length_cons,List.length_nil,Nat.zero_add,List.cons_append,List.nil_append,tblC] at ih ⊢
   unfold Loop at hB
   simp -implicitDefEqProofs only [go_sem,simprocAttr,Tryz.f35,loopOf] at hB
   subst hB
   rw [RL_eq]
   simp -implicitDefEqProofs only [go_sem,simprocAttr,d,h7,gy,idxC,tblC,locsR_brks]
   exact ih
structure Led (x:List Tbl) (ds:List Dat):Prop where
 fit:FitX x
 right:RightX x
 idx:∀ t∈x,∀ y∈t.idx,NamesIn t y.cols
 ok:DatOk x ds
 few:FitD ds
theorem Led.to {x:List Tbl} {ds:List Dat} (h:Led x ds) {t:Tbl} (ht:t∈x) {f:Fgn} (hf:f∈t.fgn):∃ (w:Nat) (u:Tbl) (g:Dat),ixN f.tb (x.map (·.nm)) 0=(w:Int)∧x[w]? = some u∧ds[w]? = some g:=by
 obtain ⟨w,u,h1,h2⟩:=ixN_tbl (h.right.leads t ht f hf)
 have:=h.ok.len
 obtain ⟨g,hg⟩:=some_at (l:=ds) (i:=w) (by have:=(List.getElem?_eq_some_iff.1 h2).1;omega)
 exact ⟨w,u,g,h1,h2,hg⟩
theorem l_tab6 (x:List Tbl) (ds:List Dat) (h:Led x ds) (i:Nat) (t:Tbl) (e:Dat) (hi:x[i]? = some t) (he:ds[i]? = some e) (ks:List It) :
  ∀ (q j:Nat) (out:List Brk) (jj:Int) (Bo:Code),Loop Tryz.f35 6 Bo→jj=(j:Int)→t.fgn.length=j+q→out.length+(fgnB x ds t e.rows (t.fgn.drop j)).length≤1000000000 →
  RL K (.run 35 2 (.code Bo::.lp Bo (some ([0,1,87,88,89],[])) 3::.blk 6 3::ks) [(0,.ptr 0 0),(1,I (i:Int)),(87,.rows (t.fgn.map fgnC)),(88,I (t.fgn.length:Int)),(89,I jj)] (bkH x ds out++[.cells (tblC t)])) =
  R K (.run 35 2 ks [] (bkH x ds (out++fgnB x ds t e.rows (t.fgn.drop j))++[.cells (tblC t)]))
 | 0,j,out,jj,Bo,hB,hj,hq,ho=>by
  subst hj
  have d:¬(j:Int) < (t.fgn.length:Int):=by omega
  rw [List.drop_of_length_le (by omega)]
  simp only [fgnB,List.append_nil,bkH,List.cons_append,List.nil_append,tblC]
  unfold Loop at hB
  simp -implicitDefEqProofs only [go_sem,simprocAttr,Tryz.f35,loopOf] at hB
  subst hB
  rw [RL_eq]
  simp -implicitDefEqProofs only [go_sem,simprocAttr,d,tblC,locsR_brks]
 | q+1,j,out,jj,Bo,hB,hj,hq,ho=>by
  subst hj
  have hB':=hB
  have mt:=List.mem_of_getElem? hi
  have ft:=h.fit.tbl t mt
  have tfl:=ft.fgn
  have d:(j:Int) < (t.fgn.length:Int):=by omega
  have h7:=next_id (i:=j) (n:=t.fgn.length) (by omega) (by omega)
  obtain ⟨f,hf⟩:=some_at (l:=t.fgn) (i:=j) (by omega)
  have gf:=fgn_get hf
  have mf:=List.mem_of_getElem? hf
  obtain ⟨w,u,g,hw,hu,hg⟩:=h.to mt mf
  have mu:=List.mem_of_getElem? hu
  have fu:=h.fit.tbl u mu
  have ede:=h.few.rows e (List.mem_of_getElem? he)
  have edg:=h.few.rows g (List.mem_of_getElem? hg)
  rw [show t.fgn.drop j=f::t.fgn.drop (j+1) from drop_get hf] at ho ⊢
  simp only [fgnB,List.length_append] at ho ⊢
  have xr:=c_references x ds h.fit.len i w t u e g hi he hu hg f hw ft.cols fu.cols ((h.right.ok t mt).fg f mf) (ft.fg f mf).2 (h.right.ok u mu).key fu.key (h.ok.fit i t e hi he) ede.1 (h.ok.fit w u g hu hg) edg.1 out (by
   have et:(fun n=>(⟨4,t.nm,n,f.nm⟩:Brk))=telB 4 t f.nm:=rfl
   rw [et] at ho
   omega)
  have et:(fun n=>(⟨4,t.nm,n,f.nm⟩:Brk))=telB 4 t f.nm:=rfl
  rw [et] at ho ⊢
  have ih:=l_tab6 x ds h i t e hi he ks q (j+1) (out++refB (telB 4 t f.nm) (keyO true t f.cols) (keysOf x ds f.tb) 0 e.rows) _ Bo hB' rfl (by omega) (by rw [List.length_append];omega)
  rw [List.append_assoc] at ih
  generalize refB (telB 4 t f.nm) (keyO true t f.cols) (keysOf x ds f.tb) 0 e.rows=one at *
  generalize fgnB x ds t e.rows (t.fgn.drop (j+1))=rest at *
  simp only [bkH,List.length_append,List.length_cons,List.length_nil,Nat.zero_add,List.cons_append,List.nil_append,tblC,fgnC] at ih xr gf ⊢
  unfold Loop at hB
  simp -implicitDefEqProofs only [go_sem,simprocAttr,Tryz.f35,loopOf] at hB
  subst hB
  rw [RL_eq]
  simp -implicitDefEqProofs only [go_sem,simprocAttr,d,h7,gf,xr,fgnC,tblC,locsR_brks]
  exact ih
theorem l_df4 (x:List Tbl) (ds:List Dat) (t:Tbl) (ht:t.cols.length≤1000000) (r:List Val) (hr:r.length=t.cols.length) (rs:List (List Val)) (i n:Int) (ks:List It) :
  ∀ (q k:Nat) (kk:Int) (Bo:Code),Loop Tryz.f34 4 Bo→kk=(k:Int)→t.cols.length=k+q →
  RL K (.run 34 0 (.code Bo::.lp Bo (some ([3,6,8,19,20,21,39,40,41,52,53,54],[])) 3::.blk 4 3::ks) [(3,.ptr 1 0),(6,.ptr 2 0),(8,vsA r),(19,.rows (x.map tblC)),(20,I (x.length:Int)),(21,I i),(39,.rows (rs.map rowC)),(40,I (rs.length:Int)),(41,I n),(52,.rows (t.cols.map colC)),(53,I (t.cols.length:Int)),(54,I kk)] (dfH x ds++[.cells (tblC t)])) =
  if evE (cellE t r) k q=0 then R K (.run 34 0 ks [(3,.ptr 1 0),(6,.ptr 2 0),(19,.rows (x.map tblC)),(20,I (x.length:Int)),(21,I i),(39,.rows (rs.map rowC)),(40,I (rs.length:Int)),(41,I n)] (dfH x ds++[.cells (tblC t)])) else some (I (evE (cellE t r) k q),[])
 | 0,k,kk,Bo,hB,hk,hq=>by
  subst hk
  have d:¬(k:Int) < (t.cols.length:Int):=by omega
  simp only [evE,if_true,dfH,List.cons_append,List.nil_append,tblC]
  unfold Loop at hB
  simp -implicitDefEqProofs only [go_sem,simprocAttr,Tryz.f34,loopOf] at hB
  subst hB
  rw [RL_eq]
  simp -implicitDefEqProofs only [go_sem,simprocAttr,d,tblC]
 | q+1,k,kk,Bo,hB,hk,hq=>by
  subst hk
  have hB':=hB
  have d:(k:Int) < (t.cols.length:Int):=by omega
  have h7:=next_id (i:=k) (n:=t.cols.length) (by omega) (by omega)
  obtain ⟨c,hc⟩:=some_at (l:=t.cols) (i:=k) (by omega)
  obtain ⟨v,hv⟩:=some_at (l:=r) (i:=k) (by omega)
  have gc:=col_get hc
  have gv:=v_get hv
  have x0:=c_Check c.kd v.k v.n v.s
  have eta:(⟨v.k,v.n,v.s⟩:Val)=v:=rfl
  rw [eta] at x0
  have ec:cellE t r k=chkS c.kd v:=by simp only [cellE,hc,hv]
  have ih:=l_df4 x ds t ht r hr rs i n ks q (k+1) _ Bo hB' rfl (by omega)
  simp only [evE,ec]
  simp only [colC] at gc
  simp only [dfH,List.cons_append,List.nil_append,tblC] at ih ⊢
  by_cases h0:chkS c.kd v=0
  ·rw [h0] at x0
   simp only [h0,if_true]
   unfold Loop at hB
   simp -implicitDefEqProofs only [go_sem,simprocAttr,Tryz.f34,loopOf] at hB
   subst hB
   rw [RL_eq]
   simp -implicitDefEqProofs only [go_sem,simprocAttr,d,h7,gc,gv,x0,bne,beq_self_eq_true,colC,tblC]
   exact ih
  ·have b0:(chkS c.kd v==0)=false:=by simpa using h0
   simp only [h0,if_false]
   unfold Loop at hB
   simp -implicitDefEqProofs only [go_sem,simprocAttr,Tryz.f34,loopOf] at hB
   subst hB
   rw [RL_eq]
   simp -implicitDefEqProofs only [go_sem,simprocAttr,d,h7,gc,gv,x0,b0,bne,colC,tblC]
theorem l_df2 (x:List Tbl) (ds:List Dat) (t:Tbl) (ht:t.cols.length≤1000000) (rs:List (List Val)) (hl:rs.length≤1000000) (i:Int) (ks:List It) :
  ∀ (q j:Nat) (jj:Int) (Bo:Code),Loop Tryz.f34 2 Bo→jj=(j:Int)→rs.length=j+q →
  RL K (.run 34 0 (.code Bo::.lp Bo (some ([3,6,19,20,21,39,40,41],[])) 3::.blk 2 3::ks) [(3,.ptr 1 0),(6,.ptr 2 0),(19,.rows (x.map tblC)),(20,I (x.length:Int)),(21,I i),(39,.rows (rs.map rowC)),(40,I (rs.length:Int)),(41,I jj)] (dfH x ds++[.cells (tblC t)])) =
  if evE (rowAtE t rs) j q=0 then R K (.run 34 0 ks [(3,.ptr 1 0),(19,.rows (x.map tblC)),(20,I (x.length:Int)),(21,I i)] (dfH x ds++[.cells (tblC t)])) else some (I (evE (rowAtE t rs) j q),[])
 | 0,j,jj,Bo,hB,hj,hq=>by
  subst hj
  have d:¬(j:Int) < (rs.length:Int):=by omega
  simp only [evE,if_true,dfH,List.cons_append,List.nil_append,tblC]
  unfold Loop at hB
  simp -implicitDefEqProofs only [go_sem,simprocAttr,Tryz.f34,loopOf] at hB
  subst hB
  rw [RL_eq]
  simp -implicitDefEqProofs only [go_sem,simprocAttr,d,tblC]
 | q+1,j,jj,Bo,hB,hj,hq=>by
  subst hj
  have hB':=hB
  have d:(j:Int) < (rs.length:Int):=by omega
  have h7:=next_id (i:=j) (n:=rs.length) (by omega) (by omega)
  obtain ⟨r,hr⟩:=some_at (l:=rs) (i:=j) (by omega)
  have gr:=row_at hr
  have er:rowAtE t rs j=rowE t r:=by simp only [rowAtE,hr]
  have ih:=l_df2 x ds t ht rs hl i ks q (j+1) _ Bo hB' rfl (by omega)
  simp only [evE,er]
  simp only [rowC] at gr
  by_cases hlen:r.length=t.cols.length
  ·have b0:(((r.length:Nat):Int)==((t.cols.length:Nat):Int))=true:=by simp [hlen]
   have l4:=fun ks B hB=>l_df4 x ds t ht r hlen rs i (j:Int) ks t.cols.length 0 0 B hB rfl (by omega)
   have ew:rowE t r=evE (cellE t r) 0 t.cols.length:=by rw [rowE,if_pos hlen]
   rw [←ew] at l4
   simp only [dfH,List.cons_append,List.nil_append,tblC] at ih l4 ⊢
   by_cases h0:rowE t r=0
   ·simp only [h0,if_true] at l4 ⊢
    unfold Loop at hB
    simp -implicitDefEqProofs only [go_sem,simprocAttr,Tryz.f34,loopOf] at hB
    subst hB
    rw [RL_eq]
    simp -implicitDefEqProofs only [go_sem,simprocAttr,d,gr,b0,bne,rowC,tblC,List.length_map]
    rw [l4 _ _ ?_]
    ·simp -implicitDefEqProofs only [go_sem,simprocAttr,h7,tblC]
     exact ih
    ·rfl
   ·simp only [h0,if_false] at l4 ⊢
    unfold Loop at hB
    simp -implicitDefEqProofs only [go_sem,simprocAttr,Tryz.f34,loopOf] at hB
    subst hB
    rw [RL_eq]
    simp -implicitDefEqProofs only [go_sem,simprocAttr,d,gr,b0,bne,rowC,tblC,List.length_map]
    rw [l4 _ _ ?_]
    rfl
  ·have b0:(((r.length:Nat):Int)==((t.cols.length:Nat):Int))=false:=by
    rw [←Bool.not_eq_true,beq_iff_eq];omega
   have ew:rowE t r=3:=by rw [rowE,if_neg hlen]
   simp only [ew,show ¬((3:Int)=0) by decide,if_false]
   simp only [dfH,List.cons_append,List.nil_append,tblC]
   unfold Loop at hB
   simp -implicitDefEqProofs only [go_sem,simprocAttr,Tryz.f34,loopOf] at hB
   subst hB
   rw [RL_eq]
   simp -implicitDefEqProofs only [go_sem,simprocAttr,d,gr,b0,bne,rowC,tblC,List.length_map]
theorem l_df0 (x:List Tbl) (ds:List Dat) (hx:FitX x) (hd:FitD ds) (hl:x.length=ds.length) (ks:List It) :
  ∀ (q i:Nat) (ii:Int) (Bo:Code),Loop Tryz.f34 0 Bo→ii=(i:Int)→x.length=i+q →
  RL K (.run 34 0 (.code Bo::.lp Bo (some ([3,19,20,21],[])) 2::.blk 0 2::ks) [(3,.ptr 1 0),(19,.rows (x.map tblC)),(20,I (x.length:Int)),(21,I ii)] (dfH x ds)) =
  if evE (datE x ds) i q=0 then R K (.run 34 0 ks [] (dfH x ds)) else some (I (evE (datE x ds) i q),[])
 | 0,i,ii,Bo,hB,hi,hq=>by
  subst hi
  have d:¬(i:Int) < (x.length:Int):=by omega
  simp only [evE,if_true,dfH]
  unfold Loop at hB
  simp -implicitDefEqProofs only [go_sem,simprocAttr,Tryz.f34,loopOf] at hB
  subst hB
  rw [RL_eq]
  simp -implicitDefEqProofs only [go_sem,simprocAttr,d]
 | q+1,i,ii,Bo,hB,hi,hq=>by
  subst hi
  have hB':=hB
  have hxl:=hx.len
  have d:(i:Int) < (x.length:Int):=by omega
  have h7:=next_id (i:=i) (n:=x.length) (by omega) (by omega)
  obtain ⟨t,ht⟩:=some_at (l:=x) (i:=i) (by omega)
  obtain ⟨e,he⟩:=some_at (l:=ds) (i:=i) (by omega)
  have gt:=tbl_get ht
  have ge:=dat_at he
  have ft:=hx.tbl t (List.mem_of_getElem? ht)
  have fe:=hd.rows e (List.mem_of_getElem? he)
  have ed:datE x ds i=rowsE t e.rows:=by simp only [datE,ht,he]
  have ih:=l_df0 x ds hx hd hl ks q (i+1) _ Bo hB' rfl (by omega)
  simp only [evE,ed]
  simp only [tblC,datC] at gt ge
  by_cases hbig:5000 < e.rows.length
  ·have d2:(5000:Int) < (e.rows.length:Int):=by omega
   have ew:rowsE t e.rows=2:=by rw [rowsE,if_pos hbig]
   simp only [ew,show ¬((2:Int)=0) by decide,if_false]
   simp only [dfH]
   unfold Loop at hB
   simp -implicitDefEqProofs only [go_sem,simprocAttr,Tryz.f34,loopOf] at hB
   subst hB
   rw [RL_eq]
   simp -implicitDefEqProofs only [go_sem,simprocAttr,d,gt,ge,d2,datC,tblC,List.length_map]
  ·have d2:¬(5000:Int) < (e.rows.length:Int):=by omega
   have l2:=fun ks B hB=>l_df2 x ds t ft.cols e.rows fe.1 (i:Int) ks e.rows.length 0 0 B hB rfl (by omega)
   have ew:rowsE t e.rows=evE (rowAtE t e.rows) 0 e.rows.length:=by rw [rowsE,if_neg hbig]
   rw [←ew] at l2
   simp only [dfH,List.cons_append,List.nil_append,tblC] at ih l2 ⊢
   by_cases h0:rowsE t e.rows=0
   ·simp only [h0,if_true] at l2 ⊢
    unfold Loop at hB
    simp -implicitDefEqProofs only [go_sem,simprocAttr,Tryz.f34,loopOf] at hB
    subst hB
    rw [RL_eq]
    simp -implicitDefEqProofs only [go_sem,simprocAttr,d,gt,ge,d2,datC,tblC,List.length_map]
    rw [l2 _ _ ?_]
    ·simp -implicitDefEqProofs only [go_sem,simprocAttr,h7,tblC]
     exact ih
    ·rfl
   ·simp only [h0,if_false] at l2 ⊢
    unfold Loop at hB
    simp -implicitDefEqProofs only [go_sem,simprocAttr,Tryz.f34,loopOf] at hB
    subst hB
    rw [RL_eq]
    simp -implicitDefEqProofs only [go_sem,simprocAttr,d,gt,ge,d2,datC,tblC,List.length_map]
    rw [l2 _ _ ?_]
    rfl
theorem c_dataForm (x:List Tbl) (ds:List Dat) (hx:FitX x) (hd:FitD ds):R K (.call 34 [schC x,datS ds] [])=some (I (formE x ds),[]):=by
 have x0:=c_eqTR x ds hx.len
 by_cases hn:x.map (·.nm)=ds.map (·.nm)
 ·have hl:x.length=ds.length:=by simpa using congrArg List.length hn
  have l0:=fun ks B hB=>l_df0 x ds hx hd hl ks x.length 0 0 B hB rfl (by omega)
  have ew:formE x ds=evE (datE x ds) 0 x.length:=by rw [formE,if_pos hn]
  rw [←ew] at l0
  simp only [hn,decide_true] at x0
  simp only [dfH] at l0
  by_cases h0:formE x ds=0
  ·simp only [h0,if_true] at l0 ⊢
   rw [call_34]
   simp -implicitDefEqProofs only [go_sem,simprocAttr,Tryz.f34,x0,List.length_map]
   rw [l0 _ _ ?_]
   ·simp -implicitDefEqProofs only [go_sem,simprocAttr]
   ·rfl
  ·simp only [h0,if_false] at l0
   rw [call_34]
   simp -implicitDefEqProofs only [go_sem,simprocAttr,Tryz.f34,x0,List.length_map]
   rw [l0 _ _ ?_]
   rfl
 ·have ew:formE x ds=3:=by rw [formE,if_neg hn]
  rw [ew]
  simp only [hn,decide_false] at x0
  rw [call_34]
  simp -implicitDefEqProofs only [go_sem,simprocAttr,Tryz.f34,x0,List.length_map]
theorem c_table9 (x:List Tbl) (ds:List Dat) (h:Led x ds) (i:Nat) (t:Tbl) (e:Dat) (hi:x[i]? = some t) (he:ds[i]? = some e) (out:List Brk) (ho:out.length+(tblB x ds t e.rows).length≤1000000000) :
  R K (.call 35 [.ptr 0 0,I (i:Int)] (bkH x ds out))=some (.tup [],bkH x ds (out++tblB x ds t e.rows)):=by
 have mt:=List.mem_of_getElem? hi
 have ft:=h.fit.tbl t mt
 have fe:=h.few.rows e (List.mem_of_getElem? he)
 have fit:=h.ok.fit i t e hi he
 have gt:=tbl_get hi
 have ge:=dat_at he
 have et:(fun n=>(⟨2,t.nm,n,[]⟩:Brk))=telB 2 t []:=rfl
 simp only [tblB,et,List.length_append] at ho ⊢
 have l0:=fun ks B hB=>l_tab0 x ds t ft.cols i e.rows fit fe.1 ks e.rows.length 0 out 0 B hB rfl (by omega) (by rw [List.drop_zero];omega)
 have xr:=c_repeated x ds i t e hi he ft.cols t.key (h.right.ok t mt).key ft.key 2 false rfl [] fit fe.1 (out++rowsB t 0 e.rows) (by rw [List.length_append];omega)
 have l4:=fun ks B hB=>l_tab4 x ds i t e hi he ft.cols (fun y hy=>⟨h.idx t mt y hy,(ft.ix y hy).2⟩) ft.idx fit fe.1 ks t.idx.length 0 (out++rowsB t 0 e.rows++againB (telB 2 t []) (keyO false t t.key) 0 [] e.rows) 0 B hB rfl (by omega) (by rw [List.drop_zero,List.length_append,List.length_append];omega)
 have l6:=fun ks B hB=>l_tab6 x ds h i t e hi he ks t.fgn.length 0 (out++rowsB t 0 e.rows++againB (telB 2 t []) (keyO false t t.key) 0 [] e.rows++idxB t e.rows t.idx) 0 B hB rfl (by omega) (by rw [List.drop_zero,List.length_append,List.length_append,List.length_append];omega)
 simp only [List.drop_zero] at l0 l4 l6
 have fin:out++(rowsB t 0 e.rows++(againB (telB 2 t []) (keyO false t t.key) 0 [] e.rows++(idxB t e.rows t.idx++fgnB x ds t e.rows t.fgn)))=out++rowsB t 0 e.rows++againB (telB 2 t []) (keyO false t t.key) 0 [] e.rows++idxB t e.rows t.idx++fgnB x ds t e.rows t.fgn:=by simp only [List.append_assoc]
 rw [fin]
 generalize out++rowsB t 0 e.rows=o1 at *
 generalize o1++againB (telB 2 t []) (keyO false t t.key) 0 [] e.rows=o2 at *
 generalize o2++idxB t e.rows t.idx=o3 at *
 generalize o3++fgnB x ds t e.rows t.fgn=o4 at *
 simp only [bkH,tblC,datC,List.cons_append,List.nil_append] at gt ge l0 l4 l6 xr ⊢
 rw [call_35]
 simp -implicitDefEqProofs only [go_sem,simprocAttr,Tryz.f35,gt,ge,tblC,datC,List.length_map]
 rw [l0 _ _ ?_]
 ·simp -implicitDefEqProofs only [go_sem,simprocAttr,xr,tblC,datC,List.length_map]
  rw [l4 _ _ ?_]
  ·simp -implicitDefEqProofs only [go_sem,simprocAttr,tblC,List.length_map]
   rw [l6 _ _ ?_]
   ·simp -implicitDefEqProofs only [go_sem,simprocAttr]
   ·rfl
  ·rfl
 ·rfl
theorem l_brk (x:List Tbl) (ds:List Dat) (h:Led x ds) (ks:List It):∀ (q i:Nat) (out:List Brk) (ii:Int) (Bo:Code),Loop Tryz.f8 0 Bo→ii=(i:Int)→x.length=i+q→out.length+(allB x ds i q).length≤1000000000 →
  RL K (.run 8 0 (.code Bo::.lp Bo (some ([8,27,28],[])) 4::.blk 0 4::ks) [(8,.ptr 2 0),(27,I (x.length:Int)),(28,I ii)] (dfH x ds++[.cells [.rows (x.map tblC),.rows (ds.map datC),.own 3 out.length],.rows 4 (out.map brkC) false])) =
  R K (.run 8 0 ks [(8,.ptr 2 0)] (dfH x ds++[.cells [.rows (x.map tblC),.rows (ds.map datC),.own 3 (out++allB x ds i q).length],.rows 4 ((out++allB x ds i q).map brkC) false]))
 | 0,i,out,ii,Bo,hB,hi,hq,ho=>by
  subst hi
  have d:¬(i:Int) < (x.length:Int):=by omega
  simp only [allB,List.append_nil,dfH,List.cons_append,List.nil_append]
  unfold Loop at hB
  simp -implicitDefEqProofs only [go_sem,simprocAttr,Tryz.f8,loopOf] at hB
  subst hB
  rw [RL_eq]
  simp -implicitDefEqProofs only [go_sem,simprocAttr,d]
 | q+1,i,out,ii,Bo,hB,hi,hq,ho=>by
  subst hi
  have hB':=hB
  have hxl:=h.fit.len
  have hdl:=h.ok.len
  have d:(i:Int) < (x.length:Int):=by omega
  have h7:=next_id (i:=i) (n:=x.length) (by omega) (by omega)
  obtain ⟨t,ht⟩:=some_at (l:=x) (i:=i) (by omega)
  obtain ⟨e,he⟩:=some_at (l:=ds) (i:=i) (by omega)
  have ea:tblAtB x ds i=tblB x ds t e.rows:=by simp only [tblAtB,ht,he]
  simp only [allB,ea] at ho ⊢
  rw [List.length_append] at ho
  have xt:=c_table9 x ds h i t e ht he out (by omega)
  have ih:=l_brk x ds h ks q (i+1) (out++tblB x ds t e.rows) _ Bo hB' rfl (by omega) (by rw [List.length_append];omega)
  rw [List.append_assoc] at ih
  have fin:out++(tblB x ds t e.rows++allB x ds (i+1) q)=out++(tblB x ds t e.rows++allB x ds (i+1) q):=rfl
  generalize out++(tblB x ds t e.rows++allB x ds (i+1) q)=o2 at *
  generalize out++tblB x ds t e.rows=o1 at *
  simp only [bkH,dfH,List.cons_append,List.nil_append] at xt ih ⊢
  unfold Loop at hB
  simp -implicitDefEqProofs only [go_sem,simprocAttr,Tryz.f8,loopOf] at hB
  subst hB
  rw [RL_eq]
  simp -implicitDefEqProofs only [go_sem,simprocAttr,d,h7,xt]
  exact ih
def brkE (x:List Tbl) (ds:List Dat):Int:=if chkE x=0 then formE x ds else chkE x
def brkL (x:List Tbl) (ds:List Dat):List Brk:=if brkE x ds=0 then allB x ds 0 x.length else []
theorem c_Breaks (x:List Tbl) (ds:List Dat) (hx:FitX x) (hd:FitD ds) (hI:chkE x=0→∀ t∈x,∀ y∈t.idx,NamesIn t y.cols) (ho:(allB x ds 0 x.length).length≤1000000000):R K (.call 8 [schC x,datS ds] [])=some (.tup [.rows ((brkL x ds).map brkC),I (brkE x ds)],[]):=by
 have x0:=c_CheckSchema x hx
 have x1:=c_dataForm x ds hx hd
 by_cases h0:chkE x=0
 ·rw [h0] at x0
  have eb:brkE x ds=formE x ds:=by rw [brkE,if_pos h0]
  by_cases h1:formE x ds=0
  ·rw [h1] at x1
   have hL:Led x ds:=⟨hx,chk_right h0,hI h0,formE_ok h1,hd⟩
   have l0:=fun ks B hB=>l_brk x ds hL ks x.length 0 [] 0 B hB rfl (by omega) (by simpa using ho)
   have el:brkL x ds=allB x ds 0 x.length:=by rw [brkL,eb,if_pos h1]
   rw [el,eb,h1]
   simp only [List.nil_append,List.length_nil,List.map_nil,dfH,List.cons_append] at l0
   generalize allB x ds 0 x.length=o at *
   rw [call_8]
   simp -implicitDefEqProofs only [go_sem,simprocAttr,Tryz.f8,x0,x1,bne,beq_self_eq_true,List.length_map]
   rw [l0 _ _ ?_]
   ·simp -implicitDefEqProofs only [go_sem,simprocAttr,true_or,or_true,List.length_map]
   ·rfl
  ·have b1:(formE x ds==0)=false:=by simpa using h1
   have el:brkL x ds=[]:=by rw [brkL,eb,if_neg h1]
   rw [el,eb]
   rw [call_8]
   simp -implicitDefEqProofs only [go_sem,simprocAttr,Tryz.f8,x0,x1,b1,bne,beq_self_eq_true]
 ·have b0:(chkE x==0)=false:=by simpa using h0
  have eb:brkE x ds=chkE x:=by rw [brkE,if_neg h0]
  have el:brkL x ds=[]:=by rw [brkL,eb,if_neg h0]
  rw [el,eb]
  rw [call_8]
  simp -implicitDefEqProofs only [go_sem,simprocAttr,Tryz.f8,x0,b0,bne]
abbrev adH (t:Tbl) (out:List Brk):Heap:=[.cells [.own 2 out.length],.cells (tblC t),.rows 4 (out.map brkC) false]
theorem k_addR (t:Tbl) (out:List Brk) (ho:out.length≤1000000000) (kd:Int) (nm:List UInt8) (n:Nat):R K (.call 37 [I kd,I (n:Int),.str nm,.ptr 0 0,.ptr 1 0] (adH t out))=some (.tup [],adH t (out++[telB kd t nm n])):=by
 have ap:=brks_app out (telB kd t nm n)
 have rm:((out.length+1)*49≤roomMax)=True:=eq_true (by unfold roomMax;omega)
 simp only [adH,brkC,List.length_append,List.length_cons,List.length_nil,Nat.zero_add,tblC] at ap ⊢
 rw [call_37]
 simp -implicitDefEqProofs only [go_sem,simprocAttr,Tryz.f37,ap,rm,brkC,tblC,List.length_map]
abbrev agH (t:Tbl) (out:List Brk):Heap:=[.cells [.fn 37 [.ptr 1 0,.ptr 2 0]],.cells [.own 3 out.length],.cells (tblC t),.rows 4 (out.map brkC) false]
theorem k_tell2 (t:Tbl) (out:List Brk) (ho:out.length≤1000000000) (n:Nat):R K (.call 39 (I (n:Int)::[.ptr 0 0]) (agH t out))=some (.tup [],agH t (out++[telB 2 t [] n])):=by
 have x0:=k_addR t out ho 2 [] n
 simp only [agH,adH,List.length_append,List.length_cons,List.length_nil,Nat.zero_add,tblC,idxC] at x0 ⊢
 rw [call_39]
 simp -implicitDefEqProofs only [go_sem,simprocAttr,Tryz.f39,x0,tblC,idxC]
theorem l_again2 (t:Tbl) (ht:t.cols.length≤1000000) (cs:List (List UInt8)) (hN:NamesIn t cs) (hc:cs.length≤1000000) (rs:List (List Val)) (hrs:RowsFit t rs) (hl:rs.length≤1000000) :
  ∀ (q j:Nat) (es:List (AV×AV)) (S:List (List UInt8)) (out:List Brk),rs.length=j+q→SetM es S→out.length+(againB (telB 2 t []) (keyO false t cs) j S (rs.drop j)).length≤1000000000 →
  ∃ es',∀ (ks:List It) (jj:Int) (Bo:Code),Loop Tryz.f38 0 Bo→jj=(j:Int) →
  RL K (.run 38 4 (.code Bo::.lp Bo (some ([2,3,4,5,10,16,17,18],[])) 6::.blk 0 6::ks) [(2,.rows (SLs cs)),(3,.bool false),(4,.fn 39 [.ptr 0 0]),(5,.ptr 4 0),(10,.mp 5),(16,.rows (rs.map rowC)),(17,I (rs.length:Int)),(18,I jj)] (agH t out++[.cells (tblC t),.map es])) =
  R K (.run 38 4 ks [] (agH t (out++againB (telB 2 t []) (keyO false t cs) j S (rs.drop j))++[.cells (tblC t),.map es']))
 | 0,j,es,S,out,hq,hS,ho=>by
  have d:¬(j:Int) < (rs.length:Int):=by omega
  refine ⟨es,fun ks jj Bo hB hj=>?_⟩
  subst hj
  rw [List.drop_of_length_le (by omega)]
  simp only [againB,List.append_nil,agH,List.cons_append,List.nil_append,tblC,idxC]
  unfold Loop at hB
  simp -implicitDefEqProofs only [go_sem,simprocAttr,Tryz.f38,loopOf] at hB
  subst hB
  rw [RL_eq]
  simp -implicitDefEqProofs only [go_sem,simprocAttr,d,tblC]
 | q+1,j,es,S,out,hq,hS,ho=>by
  have d:(j:Int) < (rs.length:Int):=by omega
  have h7:=next_id (i:=j) (n:=rs.length) (by omega) (by omega)
  obtain ⟨r,hr⟩:=some_at (l:=rs) (i:=j) (by omega)
  have gr:=row_at hr
  have rl:=hrs r (List.mem_of_getElem? hr)
  have xp:=r_picked t ht r rl cs hN hc
  have xk:=r_keyText (pickV t cs r) (by rw [pickV_len];exact hc)
  have ekt:keyB (pickV t cs r)=keyT t cs r:=rfl
  rw [ekt] at xk
  obtain ⟨w,hf,hin,hout,hS'⟩:=set_both hS (keyT t cs r)
  have ed:rs.drop j=r::rs.drop (j+1):=drop_get hr
  rw [ed] at ho ⊢
  simp only [rowC] at gr
  simp only [tblA,tblC] at xp
  cases hn:nullV (pickV t cs r) with
  | true =>
   rw [hn,Bool.not_true] at xp
   have ek:keyO false t cs r=some (keyT t cs r):=by simp [keyO]
   have ea:againB (telB 2 t []) (keyO false t cs) j S (r::rs.drop (j+1))=(if keyT t cs r∈S then [telB 2 t [] j] else [])++againB (telB 2 t []) (keyO false t cs) (j+1) (keyT t cs r::S) (rs.drop (j+1)):=by simp only [againB,ek]
   rw [ea] at ho ⊢
   by_cases hm:keyT t cs r∈S
   ·rw [if_pos hm] at ho ⊢
    obtain ⟨i0,rfl⟩:=hin hm
    simp only [List.length_append,List.length_cons,List.length_nil,Nat.zero_add] at ho
    obtain ⟨es',ih⟩:=l_again2 t ht cs hN hc rs hrs hl q (j+1) _ (keyT t cs r::S) (out++[telB 2 t [] j]) (by omega) hS' (by rw [List.length_append];simp;omega)
    refine ⟨es',fun ks jj Bo hB hj=>?_⟩
    subst hj
    have ih:=ih ks _ Bo hB rfl
    rw [List.append_assoc] at ih
    have xa:=k_tell2 t out (by omega) j
    generalize againB (telB 2 t []) (keyO false t cs) (j+1) (keyT t cs r::S) (rs.drop (j+1))=rest at *
    simp only [agH,List.length_append,List.length_cons,List.length_nil,Nat.zero_add,List.cons_append,List.nil_append,tblC,idxC,mapPut] at ih xa ⊢
    unfold Loop at hB
    simp -implicitDefEqProofs only [go_sem,simprocAttr,Tryz.f38,loopOf] at hB
    subst hB
    rw [RL_eq]
    simp -implicitDefEqProofs only [go_sem,simprocAttr,d,h7,gr,xp,xk,hf,xa,rowC,tblC,idxC]
    exact ih
   ·rw [if_neg hm] at ho ⊢
    obtain rfl:=hout hm
    rw [List.nil_append] at ho ⊢
    obtain ⟨es',ih⟩:=l_again2 t ht cs hN hc rs hrs hl q (j+1) _ (keyT t cs r::S) out (by omega) hS' ho
    refine ⟨es',fun ks jj Bo hB hj=>?_⟩
    subst hj
    have ih:=ih ks _ Bo hB rfl
    generalize againB (telB 2 t []) (keyO false t cs) (j+1) (keyT t cs r::S) (rs.drop (j+1))=rest at *
    simp only [agH,List.length_append,List.length_cons,List.length_nil,Nat.zero_add,List.cons_append,List.nil_append,tblC,idxC,mapPut] at ih ⊢
    unfold Loop at hB
    simp -implicitDefEqProofs only [go_sem,simprocAttr,Tryz.f38,loopOf] at hB
    subst hB
    rw [RL_eq]
    simp -implicitDefEqProofs only [go_sem,simprocAttr,d,h7,gr,xp,xk,hf,rowC,tblC,idxC]
    exact ih
  | false =>
   rw [hn,Bool.not_false] at xp
   have ek:keyO false t cs r=some (keyT t cs r):=by simp [keyO,hn]
   have ea:againB (telB 2 t []) (keyO false t cs) j S (r::rs.drop (j+1))=(if keyT t cs r∈S then [telB 2 t [] j] else [])++againB (telB 2 t []) (keyO false t cs) (j+1) (keyT t cs r::S) (rs.drop (j+1)):=by simp only [againB,ek]
   rw [ea] at ho ⊢
   by_cases hm:keyT t cs r∈S
   ·rw [if_pos hm] at ho ⊢
    obtain ⟨i0,rfl⟩:=hin hm
    simp only [List.length_append,List.length_cons,List.length_nil,Nat.zero_add] at ho
    obtain ⟨es',ih⟩:=l_again2 t ht cs hN hc rs hrs hl q (j+1) _ (keyT t cs r::S) (out++[telB 2 t [] j]) (by omega) hS' (by rw [List.length_append];simp;omega)
    refine ⟨es',fun ks jj Bo hB hj=>?_⟩
    subst hj
    have ih:=ih ks _ Bo hB rfl
    rw [List.append_assoc] at ih
    have xa:=k_tell2 t out (by omega) j
    generalize againB (telB 2 t []) (keyO false t cs) (j+1) (keyT t cs r::S) (rs.drop (j+1))=rest at *
    simp only [agH,List.length_append,List.length_cons,List.length_nil,Nat.zero_add,List.cons_append,List.nil_append,tblC,idxC,mapPut] at ih xa ⊢
    unfold Loop at hB
    simp -implicitDefEqProofs only [go_sem,simprocAttr,Tryz.f38,loopOf] at hB
    subst hB
    rw [RL_eq]
    simp -implicitDefEqProofs only [go_sem,simprocAttr,d,h7,gr,xp,xk,hf,xa,rowC,tblC,idxC]
    exact ih
   ·rw [if_neg hm] at ho ⊢
    obtain rfl:=hout hm
    rw [List.nil_append] at ho ⊢
    obtain ⟨es',ih⟩:=l_again2 t ht cs hN hc rs hrs hl q (j+1) _ (keyT t cs r::S) out (by omega) hS' ho
    refine ⟨es',fun ks jj Bo hB hj=>?_⟩
    subst hj
    have ih:=ih ks _ Bo hB rfl
    generalize againB (telB 2 t []) (keyO false t cs) (j+1) (keyT t cs r::S) (rs.drop (j+1))=rest at *
    simp only [agH,List.length_append,List.length_cons,List.length_nil,Nat.zero_add,List.cons_append,List.nil_append,tblC,idxC,mapPut] at ih ⊢
    unfold Loop at hB
    simp -implicitDefEqProofs only [go_sem,simprocAttr,Tryz.f38,loopOf] at hB
    subst hB
    rw [RL_eq]
    simp -implicitDefEqProofs only [go_sem,simprocAttr,d,h7,gr,xp,xk,hf,rowC,tblC,idxC]
    exact ih
theorem c_again2 (t:Tbl) (ht:t.cols.length≤1000000) (cs:List (List UInt8)) (hN:NamesIn t cs) (hc:cs.length≤1000000) (rs:List (List Val)) (hrs:RowsFit t rs) (hl:rs.length≤1000000) (out:List Brk) (ho:out.length+(againB (telB 2 t []) (keyO false t cs) 0 [] rs).length≤1000000000) :
  R K (.call 38 [tblA t,.rows (rs.map rowC),.rows (SLs cs),.bool false,.fn 39 [.ptr 0 0]] (agH t out))=some (.tup [],agH t (out++againB (telB 2 t []) (keyO false t cs) 0 [] rs)):=by
 obtain ⟨es',l0⟩:=l_again2 t ht cs hN hc rs hrs hl rs.length 0 [] [] out (by omega) SetM.nil (by simpa using ho)
 simp only [List.drop_zero] at l0
 generalize againB (telB 2 t []) (keyO false t cs) 0 [] rs=rest at *
 simp only [agH,List.length_append,List.cons_append,List.nil_append,tblC,idxC] at l0 ⊢
 rw [call_38]
 simp -implicitDefEqProofs only [go_sem,simprocAttr,Tryz.f38,tblC,idxC,List.length_map]
 rw [l0 _ 0 _ ?_ rfl]
 ·simp -implicitDefEqProofs only [go_sem,simprocAttr]
 ·rfl
abbrev agI (t:Tbl) (y:Idx) (out:List Brk):Heap:=[.cells [.fn 37 [.ptr 2 0,.ptr 3 0]],.cells (idxC y),.cells [.own 4 out.length],.cells (tblC t),.rows 4 (out.map brkC) false]
theorem k_tell3 (t:Tbl) (y:Idx) (out:List Brk) (ho:out.length≤1000000000) (n:Nat):R K (.call 40 (I (n:Int)::[.ptr 0 0,.ptr 1 0]) (agI t y out))=some (.tup [],agI t y (out++[telB 3 t y.nm n])):=by
 have x0:=k_addR t out ho 3 y.nm n
 simp only [agI,adH,List.length_append,List.length_cons,List.length_nil,Nat.zero_add,tblC,idxC] at x0 ⊢
 rw [call_40]
 simp -implicitDefEqProofs only [go_sem,simprocAttr,Tryz.f40,x0,tblC,idxC]
theorem l_again3 (t:Tbl) (y:Idx) (ht:t.cols.length≤1000000) (cs:List (List UInt8)) (hN:NamesIn t cs) (hc:cs.length≤1000000) (rs:List (List Val)) (hrs:RowsFit t rs) (hl:rs.length≤1000000) :
  ∀ (q j:Nat) (es:List (AV×AV)) (S:List (List UInt8)) (out:List Brk),rs.length=j+q→SetM es S→out.length+(againB (telB 3 t y.nm) (keyO true t cs) j S (rs.drop j)).length≤1000000000 →
  ∃ es',∀ (ks:List It) (jj:Int) (Bo:Code),Loop Tryz.f38 0 Bo→jj=(j:Int) →
  RL K (.run 38 5 (.code Bo::.lp Bo (some ([2,3,4,5,10,16,17,18],[])) 7::.blk 0 7::ks) [(2,.rows (SLs cs)),(3,.bool true),(4,.fn 40 [.ptr 0 0,.ptr 1 0]),(5,.ptr 5 0),(10,.mp 6),(16,.rows (rs.map rowC)),(17,I (rs.length:Int)),(18,I jj)] (agI t y out++[.cells (tblC t),.map es])) =
  R K (.run 38 5 ks [] (agI t y (out++againB (telB 3 t y.nm) (keyO true t cs) j S (rs.drop j))++[.cells (tblC t),.map es']))
 | 0,j,es,S,out,hq,hS,ho=>by
  have d:¬(j:Int) < (rs.length:Int):=by omega
  refine ⟨es,fun ks jj Bo hB hj=>?_⟩
  subst hj
  rw [List.drop_of_length_le (by omega)]
  simp only [againB,List.append_nil,agI,List.cons_append,List.nil_append,tblC,idxC]
  unfold Loop at hB
  simp -implicitDefEqProofs only [go_sem,simprocAttr,Tryz.f38,loopOf] at hB
  subst hB
  rw [RL_eq]
  simp -implicitDefEqProofs only [go_sem,simprocAttr,d,tblC]
 | q+1,j,es,S,out,hq,hS,ho=>by
  have d:(j:Int) < (rs.length:Int):=by omega
  have h7:=next_id (i:=j) (n:=rs.length) (by omega) (by omega)
  obtain ⟨r,hr⟩:=some_at (l:=rs) (i:=j) (by omega)
  have gr:=row_at hr
  have rl:=hrs r (List.mem_of_getElem? hr)
  have xp:=r_picked t ht r rl cs hN hc
  have xk:=r_keyText (pickV t cs r) (by rw [pickV_len];exact hc)
  have ekt:keyB (pickV t cs r)=keyT t cs r:=rfl
  rw [ekt] at xk
  obtain ⟨w,hf,hin,hout,hS'⟩:=set_both hS (keyT t cs r)
  have ed:rs.drop j=r::rs.drop (j+1):=drop_get hr
  rw [ed] at ho ⊢
  simp only [rowC] at gr
  simp only [tblA,tblC] at xp
  cases hn:nullV (pickV t cs r) with
  | true =>
   rw [hn,Bool.not_true] at xp
   have ek:keyO true t cs r=none:=by simp [keyO,hn]
   have ea:againB (telB 3 t y.nm) (keyO true t cs) j S (r::rs.drop (j+1))=againB (telB 3 t y.nm) (keyO true t cs) (j+1) S (rs.drop (j+1)):=by simp only [againB,ek]
   rw [ea] at ho ⊢
   obtain ⟨es',ih⟩:=l_again3 t y ht cs hN hc rs hrs hl q (j+1) es S out (by omega) hS ho
   refine ⟨es',fun ks jj Bo hB hj=>?_⟩
   subst hj
   have ih:=ih ks _ Bo hB rfl
   generalize againB (telB 3 t y.nm) (keyO true t cs) (j+1) S (rs.drop (j+1))=rest at *
   simp only [agI,List.length_append,List.length_cons,List.length_nil,Nat.zero_add,List.cons_append,List.nil_append,tblC,idxC] at ih ⊢
   unfold Loop at hB
   simp -implicitDefEqProofs only [go_sem,simprocAttr,Tryz.f38,loopOf] at hB
   subst hB
   rw [RL_eq]
   simp -implicitDefEqProofs only [go_sem,simprocAttr,d,h7,gr,xp,rowC,tblC,idxC]
   exact ih
  | false =>
   rw [hn,Bool.not_false] at xp
   have ek:keyO true t cs r=some (keyT t cs r):=by simp [keyO,hn]
   have ea:againB (telB 3 t y.nm) (keyO true t cs) j S (r::rs.drop (j+1))=(if keyT t cs r∈S then [telB 3 t y.nm j] else [])++againB (telB 3 t y.nm) (keyO true t cs) (j+1) (keyT t cs r::S) (rs.drop (j+1)):=by simp only [againB,ek]
   rw [ea] at ho ⊢
   by_cases hm:keyT t cs r∈S
   ·rw [if_pos hm] at ho ⊢
    obtain ⟨i0,rfl⟩:=hin hm
    simp only [List.length_append,List.length_cons,List.length_nil,Nat.zero_add] at ho
    obtain ⟨es',ih⟩:=l_again3 t y ht cs hN hc rs hrs hl q (j+1) _ (keyT t cs r::S) (out++[telB 3 t y.nm j]) (by omega) hS' (by rw [List.length_append];simp;omega)
    refine ⟨es',fun ks jj Bo hB hj=>?_⟩
    subst hj
    have ih:=ih ks _ Bo hB rfl
    rw [List.append_assoc] at ih
    have xa:=k_tell3 t y out (by omega) j
    generalize againB (telB 3 t y.nm) (keyO true t cs) (j+1) (keyT t cs r::S) (rs.drop (j+1))=rest at *
    simp only [agI,List.length_append,List.length_cons,List.length_nil,Nat.zero_add,List.cons_append,List.nil_append,tblC,idxC,mapPut] at ih xa ⊢
    unfold Loop at hB
    simp -implicitDefEqProofs only [go_sem,simprocAttr,Tryz.f38,loopOf] at hB
    subst hB
    rw [RL_eq]
    simp -implicitDefEqProofs only [go_sem,simprocAttr,d,h7,gr,xp,xk,hf,xa,rowC,tblC,idxC]
    exact ih
   ·rw [if_neg hm] at ho ⊢
    obtain rfl:=hout hm
    rw [List.nil_append] at ho ⊢
    obtain ⟨es',ih⟩:=l_again3 t y ht cs hN hc rs hrs hl q (j+1) _ (keyT t cs r::S) out (by omega) hS' ho
    refine ⟨es',fun ks jj Bo hB hj=>?_⟩
    subst hj
    have ih:=ih ks _ Bo hB rfl
    generalize againB (telB 3 t y.nm) (keyO true t cs) (j+1) (keyT t cs r::S) (rs.drop (j+1))=rest at *
    simp only [agI,List.length_append,List.length_cons,List.length_nil,Nat.zero_add,List.cons_append,List.nil_append,tblC,idxC,mapPut] at ih ⊢
    unfold Loop at hB
    simp -implicitDefEqProofs only [go_sem,simprocAttr,Tryz.f38,loopOf] at hB
    subst hB
    rw [RL_eq]
    simp -implicitDefEqProofs only [go_sem,simprocAttr,d,h7,gr,xp,xk,hf,rowC,tblC,idxC]
    exact ih
theorem c_again3 (t:Tbl) (y:Idx) (ht:t.cols.length≤1000000) (cs:List (List UInt8)) (hN:NamesIn t cs) (hc:cs.length≤1000000) (rs:List (List Val)) (hrs:RowsFit t rs) (hl:rs.length≤1000000) (out:List Brk) (ho:out.length+(againB (telB 3 t y.nm) (keyO true t cs) 0 [] rs).length≤1000000000) :
  R K (.call 38 [tblA t,.rows (rs.map rowC),.rows (SLs cs),.bool true,.fn 40 [.ptr 0 0,.ptr 1 0]] (agI t y out))=some (.tup [],agI t y (out++againB (telB 3 t y.nm) (keyO true t cs) 0 [] rs)):=by
 obtain ⟨es',l0⟩:=l_again3 t y ht cs hN hc rs hrs hl rs.length 0 [] [] out (by omega) SetM.nil (by simpa using ho)
 simp only [List.drop_zero] at l0
 generalize againB (telB 3 t y.nm) (keyO true t cs) 0 [] rs=rest at *
 simp only [agI,List.length_append,List.cons_append,List.nil_append,tblC,idxC] at l0 ⊢
 rw [call_38]
 simp -implicitDefEqProofs only [go_sem,simprocAttr,Tryz.f38,tblC,idxC,List.length_map]
 rw [l0 _ 0 _ ?_ rfl]
 ·simp -implicitDefEqProofs only [go_sem,simprocAttr]
 ·rfl
abbrev cfH (x:List Tbl) (w:Nat) (v:List Val):Heap:=[.cells [.rows (x.map tblC)],.cells [I (w:Int)],.cells [vsA v]]
theorem k_anyR (x:List Tbl) (w:Nat) (u:Tbl) (hw:x[w]? = some u) (hu:u.cols.length≤1000000) (hN:NamesIn u u.key) (hc:u.key.length≤1000000) (v:List Val) (hv:v.length≤1000000) (o:List Val) (ho:o.length=u.cols.length) :
  R K (.call 43 [vsA o,.ptr 0 0,.ptr 1 0,.ptr 2 0] (cfH x w v))=some (.bool (keyT u u.key o==keyB v),cfH x w v):=by
 have gu:=tbl_get hw
 have x0:=r_picked u hu o ho u.key hN hc
 have x1:=r_keyText (pickV u u.key o) (by rw [pickV_len];exact hc)
 have ek:keyB (pickV u u.key o)=keyT u u.key o:=rfl
 rw [ek] at x1
 have x2:=r_keyText v hv
 simp only [tblA,tblC] at gu x0
 simp only [cfH]
 rw [call_43]
 simp -implicitDefEqProofs only [go_sem,simprocAttr,Tryz.f43,gu,x0,x1,x2,tblC]
def ixR (p:List Val→Bool):List (List Val)→Nat→Int
 | [],_=>-1
 | r::l,i=>if p r=true then (i:Int) else ixR p l (i+1)
theorem ixR_any (p:List Val→Bool):∀ (l:List (List Val)) (i:Nat),decide (0≤ixR p l i)=l.any p
 | [],i=>rfl
 | r::l,i=>by
  unfold ixR
  by_cases h:p r=true
  ·simp [h]
  ·rw [if_neg h,ixR_any p l (i+1)]
   simp [h]
theorem l_ixR (x:List Tbl) (w:Nat) (u:Tbl) (hw:x[w]? = some u) (hu:u.cols.length≤1000000) (hN:NamesIn u u.key) (hc:u.key.length≤1000000) (v:List Val) (hv:v.length≤1000000) (rs:List (List Val)) (hrs:RowsFit u rs) (hl:rs.length≤1000000) (ks:List It) :
  ∀ (q j:Nat) (jj:Int) (Bo:Code),Loop Tryz.f90 0 Bo→jj=(j:Int)→rs.length=j+q →
  RL K (.run 90 3 (.code Bo::.lp Bo (some ([0,1,7,8],[])) 3::.blk 0 3::ks) [(0,.rows (rs.map rowC)),(1,.fn 43 [.ptr 0 0,.ptr 1 0,.ptr 2 0]),(7,I (rs.length:Int)),(8,I jj)] (cfH x w v)) =
  if (rs.drop j).any (fun o=>keyT u u.key o==keyB v)=true then some (I (ixR (fun o=>keyT u u.key o==keyB v) (rs.drop j) j),cfH x w v) else R K (.run 90 3 ks [] (cfH x w v))
 | 0,j,jj,Bo,hB,hj,hq=>by
  subst hj
  have d:¬(j:Int) < (rs.length:Int):=by omega
  rw [List.drop_of_length_le (by omega)]
  simp only [List.any_nil,Bool.false_eq_true,if_false,cfH]
  unfold Loop at hB
  simp -implicitDefEqProofs only [go_sem,simprocAttr,Tryz.f90,loopOf] at hB
  subst hB
  rw [RL_eq]
  simp -implicitDefEqProofs only [go_sem,simprocAttr,d]
 | q+1,j,jj,Bo,hB,hj,hq=>by
  subst hj
  have hB':=hB
  have d:(j:Int) < (rs.length:Int):=by omega
  have h7:=next_id (i:=j) (n:=rs.length) (by omega) (by omega)
  obtain ⟨r,hr⟩:=some_at (l:=rs) (i:=j) (by omega)
  have gr:=row_at hr
  have rl:=hrs r (List.mem_of_getElem? hr)
  have xk:=k_anyR x w u hw hu hN hc v hv r rl
  have ih:=l_ixR x w u hw hu hN hc v hv rs hrs hl ks q (j+1) _ Bo hB' rfl (by omega)
  rw [show rs.drop j=r::rs.drop (j+1) from drop_get hr]
  simp only [List.any_cons,ixR]
  simp only [rowC] at gr
  by_cases e0:(keyT u u.key r==keyB v)=true
  ·rw [e0] at xk
   simp only [e0,Bool.true_or,if_true,cfH] at xk ⊢
   unfold Loop at hB
   simp -implicitDefEqProofs only [go_sem,simprocAttr,Tryz.f90,loopOf] at hB
   subst hB
   rw [RL_eq]
   simp -implicitDefEqProofs only [go_sem,simprocAttr,d,gr,xk,rowC]
  ·have e1:(keyT u u.key r==keyB v)=false:=by simpa using e0
   rw [e1] at xk
   simp only [e1,Bool.false_or,Bool.false_eq_true,if_false,cfH] at xk ih ⊢
   unfold Loop at hB
   simp -implicitDefEqProofs only [go_sem,simprocAttr,Tryz.f90,loopOf] at hB
   subst hB
   rw [RL_eq]
   simp -implicitDefEqProofs only [go_sem,simprocAttr,d,h7,gr,xk,rowC]
   exact ih
theorem c_anyR (x:List Tbl) (w:Nat) (u:Tbl) (hw:x[w]? = some u) (hu:u.cols.length≤1000000) (hN:NamesIn u u.key) (hc:u.key.length≤1000000) (v:List Val) (hv:v.length≤1000000) (rs:List (List Val)) (hrs:RowsFit u rs) (hl:rs.length≤1000000) :
  R K (.call 42 [.rows (rs.map rowC),.fn 43 [.ptr 0 0,.ptr 1 0,.ptr 2 0]] (cfH x w v))=some (.bool (rs.any fun o=>keyT u u.key o==keyB v),cfH x w v):=by
 have l0:=fun ks B hB=>l_ixR x w u hw hu hN hc v hv rs hrs hl ks rs.length 0 0 B hB rfl (by omega)
 have ea:=ixR_any (fun o=>keyT u u.key o==keyB v) rs 0
 simp only [List.drop_zero] at l0
 have key:R K (.call 90 [.rows (rs.map rowC),.fn 43 [.ptr 0 0,.ptr 1 0,.ptr 2 0]] (cfH x w v))=some (I (if rs.any (fun o=>keyT u u.key o==keyB v)=true then ixR (fun o=>keyT u u.key o==keyB v) rs 0 else -1),cfH x w v):=by
  cases e0:rs.any fun o=>keyT u u.key o==keyB v with
  | true =>
   simp only [e0,if_true,cfH] at l0 ⊢
   rw [call_90]
   simp -implicitDefEqProofs only [go_sem,simprocAttr,Tryz.f90,List.length_map]
   rw [l0 _ _ ?_]
   rfl
  | false =>
   simp only [e0,Bool.false_eq_true,if_false,cfH] at l0 ⊢
   rw [call_90]
   simp -implicitDefEqProofs only [go_sem,simprocAttr,Tryz.f90,List.length_map]
   rw [l0 _ _ ?_]
   ·simp -implicitDefEqProofs only [go_sem,simprocAttr]
   ·rfl
 cases e0:rs.any fun o=>keyT u u.key o==keyB v with
 | true =>
  rw [e0] at ea
  simp only [e0,if_true,cfH] at key ⊢
  have ge:(0:Int)≤ixR (fun o=>keyT u u.key o==keyB v) rs 0:=by simpa using ea
  rw [call_42]
  simp -implicitDefEqProofs only [go_sem,simprocAttr,Tryz.f42,key,ge]
 | false =>
  simp only [e0,Bool.false_eq_true,if_false,cfH] at key ⊢
  rw [call_42]
  simp -implicitDefEqProofs only [go_sem,simprocAttr,Tryz.f42,key]
theorem l_ff0 (x:List Tbl) (ds:List Dat) (hx:x.length≤1000000) (hl:x.length=ds.length) (ks:List It):∀ (q j:Nat) (jj:Int) (Bo:Code),Loop Tryz.f36 0 Bo→jj=(j:Int)→x.length=j+q →
  RL K (.run 36 0 (.code Bo::.lp Bo (some ([2,3,4,23,24,25],[])) 2::.blk 0 2::ks) [(2,.bool false),(3,.ptr 0 0),(4,.ptr 1 0),(23,.rows (x.map tblC)),(24,I (x.length:Int)),(25,I jj)] (dfH x ds)) =
  if (x.drop j).map (·.nm)=(ds.drop j).map (·.nm) then R K (.run 36 0 ks [(2,.bool false),(3,.ptr 0 0),(4,.ptr 1 0)] (dfH x ds)) else some (I 3,[])
 | 0,j,jj,Bo,hB,hj,hq=>by
  subst hj
  have d:¬(j:Int) < (x.length:Int):=by omega
  rw [List.drop_of_length_le (by omega),List.drop_of_length_le (by omega)]
  simp only [List.map_nil,if_true,dfH]
  unfold Loop at hB
  simp -implicitDefEqProofs only [go_sem,simprocAttr,Tryz.f36,loopOf] at hB
  subst hB
  rw [RL_eq]
  simp -implicitDefEqProofs only [go_sem,simprocAttr,d]
 | q+1,j,jj,Bo,hB,hj,hq=>by
  subst hj
  have hB':=hB
  have d:(j:Int) < (x.length:Int):=by omega
  have h7:=next_id (i:=j) (n:=x.length) (by omega) (by omega)
  obtain ⟨t,ht⟩:=some_at (l:=x) (i:=j) (by omega)
  obtain ⟨e,he⟩:=some_at (l:=ds) (i:=j) (by omega)
  have gt:=tbl_get ht
  have ge:=dat_at he
  have ih:=l_ff0 x ds hx hl ks q (j+1) _ Bo hB' rfl (by omega)
  rw [drop_get ht,drop_get he]
  simp only [List.map_cons,List.cons.injEq]
  simp only [tblC,datC] at gt ge
  by_cases h:t.nm=e.nm
  ·have b0:(e.nm==t.nm)=true:=by simp [h]
   simp only [h,true_and]
   simp only [dfH] at ih ⊢
   unfold Loop at hB
   simp -implicitDefEqProofs only [go_sem,simprocAttr,Tryz.f36,loopOf] at hB
   subst hB
   rw [RL_eq]
   simp -implicitDefEqProofs only [go_sem,simprocAttr,d,h7,gt,ge,b0,bne,tblC,datC]
   exact ih
  ·have b0:(e.nm==t.nm)=false:=by
    rw [←Bool.not_eq_true,beq_iff_eq];exact fun e=>h e.symm
   simp only [h,false_and,if_false,dfH]
   unfold Loop at hB
   simp -implicitDefEqProofs only [go_sem,simprocAttr,Tryz.f36,loopOf] at hB
   subst hB
   rw [RL_eq]
   simp -implicitDefEqProofs only [go_sem,simprocAttr,d,h7,gt,ge,b0,bne,tblC,datC]
theorem l_ff4 (x:List Tbl) (ds:List Dat) (t:Tbl) (ht:t.cols.length≤1000000) (rs:List (List Val)) (hl:rs.length≤1000000) (hw:∀ r∈rs,r.length≤1000000) (i:Int) (ks:List It) :
  ∀ (q j:Nat) (jj:Int) (Bo:Code),Loop Tryz.f36 4 Bo→jj=(j:Int)→rs.length=j+q →
  RL K (.run 36 0 (.code Bo::.lp Bo (some ([2,4,9,10,41,42,43,61,62,63],[])) 3::.blk 4 3::ks) [(2,.bool false),(4,.ptr 1 0),(9,I i),(10,.ptr 2 0),(41,.rows (x.map tblC)),(42,I (x.length:Int)),(43,I i),(61,.rows (rs.map rowC)),(62,I (rs.length:Int)),(63,I jj)] (dfH x ds++[.cells (tblC t)])) =
  if evE (rowAtE t rs) j q=0 then R K (.run 36 0 ks [(2,.bool false),(4,.ptr 1 0),(9,I i),(10,.ptr 2 0),(41,.rows (x.map tblC)),(42,I (x.length:Int)),(43,I i)] (dfH x ds++[.cells (tblC t)])) else some (I (evE (rowAtE t rs) j q),[])
 | 0,j,jj,Bo,hB,hj,hq=>by
  subst hj
  have d:¬(j:Int) < (rs.length:Int):=by omega
  simp only [evE,if_true,dfH,List.cons_append,List.nil_append,tblC]
  unfold Loop at hB
  simp -implicitDefEqProofs only [go_sem,simprocAttr,Tryz.f36,loopOf] at hB
  subst hB
  rw [RL_eq]
  simp -implicitDefEqProofs only [go_sem,simprocAttr,d,tblC]
 | q+1,j,jj,Bo,hB,hj,hq=>by
  subst hj
  have hB':=hB
  have d:(j:Int) < (rs.length:Int):=by omega
  have h7:=next_id (i:=j) (n:=rs.length) (by omega) (by omega)
  obtain ⟨r,hr⟩:=some_at (l:=rs) (i:=j) (by omega)
  have gr:=row_at hr
  have x0:=r_rowFault false t ht r (hw r (List.mem_of_getElem? hr))
  rw [rowF_false] at x0
  have er:rowAtE t rs j=rowE t r:=by simp only [rowAtE,hr]
  have ih:=l_ff4 x ds t ht rs hl hw i ks q (j+1) _ Bo hB' rfl (by omega)
  simp only [evE,er]
  simp only [rowC] at gr
  simp only [tblA,dfH,List.cons_append,List.nil_append,tblC] at x0 ih ⊢
  by_cases h0:rowE t r=0
  ·rw [h0] at x0
   simp only [h0,if_true]
   unfold Loop at hB
   simp -implicitDefEqProofs only [go_sem,simprocAttr,Tryz.f36,loopOf] at hB
   subst hB
   rw [RL_eq]
   simp -implicitDefEqProofs only [go_sem,simprocAttr,d,h7,gr,x0,bne,beq_self_eq_true,rowC,tblC]
   exact ih
  ·have b0:(rowE t r==0)=false:=by simpa using h0
   simp only [h0,if_false]
   unfold Loop at hB
   simp -implicitDefEqProofs only [go_sem,simprocAttr,Tryz.f36,loopOf] at hB
   subst hB
   rw [RL_eq]
   simp -implicitDefEqProofs only [go_sem,simprocAttr,d,h7,gr,x0,b0,bne,rowC,tblC]
theorem l_ff2 (x:List Tbl) (ds:List Dat) (hx:FitX x) (hd:FitD ds) (hl:x.length=ds.length) (ks:List It) :
  ∀ (q i:Nat) (ii:Int) (Bo:Code),Loop Tryz.f36 2 Bo→ii=(i:Int)→x.length=i+q →
  RL K (.run 36 0 (.code Bo::.lp Bo (some ([2,4,41,42,43],[])) 2::.blk 2 2::ks) [(2,.bool false),(4,.ptr 1 0),(41,.rows (x.map tblC)),(42,I (x.length:Int)),(43,I ii)] (dfH x ds)) =
  if evE (datE x ds) i q=0 then R K (.run 36 0 ks [] (dfH x ds)) else some (I (evE (datE x ds) i q),[])
 | 0,i,ii,Bo,hB,hi,hq=>by
  subst hi
  have d:¬(i:Int) < (x.length:Int):=by omega
  simp only [evE,if_true,dfH]
  unfold Loop at hB
  simp -implicitDefEqProofs only [go_sem,simprocAttr,Tryz.f36,loopOf] at hB
  subst hB
  rw [RL_eq]
  simp -implicitDefEqProofs only [go_sem,simprocAttr,d]
 | q+1,i,ii,Bo,hB,hi,hq=>by
  subst hi
  have hB':=hB
  have hxl:=hx.len
  have d:(i:Int) < (x.length:Int):=by omega
  have h7:=next_id (i:=i) (n:=x.length) (by omega) (by omega)
  obtain ⟨t,ht⟩:=some_at (l:=x) (i:=i) (by omega)
  obtain ⟨e,he⟩:=some_at (l:=ds) (i:=i) (by omega)
  have gt:=tbl_get ht
  have ge:=dat_at he
  have ft:=hx.tbl t (List.mem_of_getElem? ht)
  have fe:=hd.rows e (List.mem_of_getElem? he)
  have ed:datE x ds i=rowsE t e.rows:=by simp only [datE,ht,he]
  have ih:=l_ff2 x ds hx hd hl ks q (i+1) _ Bo hB' rfl (by omega)
  simp only [evE,ed]
  simp only [tblC,datC] at gt ge
  by_cases hbig:5000 < e.rows.length
  ·have d2:(5000:Int) < (e.rows.length:Int):=by omega
   have ew:rowsE t e.rows=2:=by rw [rowsE,if_pos hbig]
   simp only [ew,show ¬((2:Int)=0) by decide,if_false]
   simp only [dfH]
   unfold Loop at hB
   simp -implicitDefEqProofs only [go_sem,simprocAttr,Tryz.f36,loopOf] at hB
   subst hB
   rw [RL_eq]
   simp -implicitDefEqProofs only [go_sem,simprocAttr,d,gt,ge,d2,datC,tblC,List.length_map]
  ·have d2:¬(5000:Int) < (e.rows.length:Int):=by omega
   have l2:=fun ks B hB=>l_ff4 x ds t ft.cols e.rows fe.1 fe.2 (i:Int) ks e.rows.length 0 0 B hB rfl (by omega)
   have ew:rowsE t e.rows=evE (rowAtE t e.rows) 0 e.rows.length:=by rw [rowsE,if_neg hbig]
   rw [←ew] at l2
   simp only [dfH,List.cons_append,List.nil_append,tblC] at ih l2 ⊢
   by_cases h0:rowsE t e.rows=0
   ·simp only [h0,if_true] at l2 ⊢
    unfold Loop at hB
    simp -implicitDefEqProofs only [go_sem,simprocAttr,Tryz.f36,loopOf] at hB
    subst hB
    rw [RL_eq]
    simp -implicitDefEqProofs only [go_sem,simprocAttr,d,gt,ge,d2,datC,tblC,List.length_map]
    rw [l2 _ _ ?_]
    ·simp -implicitDefEqProofs only [go_sem,simprocAttr,h7,tblC]
     exact ih
    ·rfl
   ·simp only [h0,if_false] at l2 ⊢
    unfold Loop at hB
    simp -implicitDefEqProofs only [go_sem,simprocAttr,Tryz.f36,loopOf] at hB
    subst hB
    rw [RL_eq]
    simp -implicitDefEqProofs only [go_sem,simprocAttr,d,gt,ge,d2,datC,tblC,List.length_map]
    rw [l2 _ _ ?_]
    rfl
theorem r_formFault (x:List Tbl) (ds:List Dat) (hx:FitX x) (hd:FitD ds):R K (.call 36 [schC x,datS ds,.bool false] [])=some (I (formE x ds),[]):=by
 by_cases hl:x.length=ds.length
 ·have b0:(((ds.length:Nat):Int)==((x.length:Nat):Int))=true:=by simp [hl]
  have l0:=fun ks B hB=>l_ff0 x ds hx.len hl ks x.length 0 0 B hB rfl (by omega)
  have l2:=fun ks B hB=>l_ff2 x ds hx hd hl ks x.length 0 0 B hB rfl (by omega)
  simp only [List.drop_zero] at l0
  by_cases hn:x.map (·.nm)=ds.map (·.nm)
  ·have ew:formE x ds=evE (datE x ds) 0 x.length:=by rw [formE,if_pos hn]
   rw [←ew] at l2
   simp only [hn,if_true] at l0
   simp only [dfH] at l0 l2
   by_cases h0:formE x ds=0
   ·simp only [h0,if_true] at l2 ⊢
    rw [call_36]
    simp -implicitDefEqProofs only [go_sem,simprocAttr,Tryz.f36,b0,bne,List.length_map]
    rw [l0 _ _ ?_]
    ·simp -implicitDefEqProofs only [go_sem,simprocAttr,List.length_map]
     rw [l2 _ _ ?_]
     ·simp -implicitDefEqProofs only [go_sem,simprocAttr]
     ·rfl
    ·rfl
   ·simp only [h0,if_false] at l2
    rw [call_36]
    simp -implicitDefEqProofs only [go_sem,simprocAttr,Tryz.f36,b0,bne,List.length_map]
    rw [l0 _ _ ?_]
    ·simp -implicitDefEqProofs only [go_sem,simprocAttr,List.length_map]
     rw [l2 _ _ ?_]
     rfl
    ·rfl
  ·have ew:formE x ds=3:=by rw [formE,if_neg hn]
   rw [ew]
   simp only [hn,if_false] at l0
   simp only [dfH] at l0
   rw [call_36]
   simp -implicitDefEqProofs only [go_sem,simprocAttr,Tryz.f36,b0,bne,List.length_map]
   rw [l0 _ _ ?_]
   rfl
 ·have b0:(((ds.length:Nat):Int)==((x.length:Nat):Int))=false:=by
   rw [←Bool.not_eq_true,beq_iff_eq];omega
  have hne:¬x.map (·.nm)=ds.map (·.nm):=fun e=>hl (by simpa using congrArg List.length e)
  have ew:formE x ds=3:=by rw [formE,if_neg hne]
  rw [ew]
  rw [call_36]
  simp -implicitDefEqProofs only [go_sem,simprocAttr,Tryz.f36,b0,bne,List.length_map]
abbrev boL (x:List Tbl) (ds:List Dat) (out:List Brk):Heap:=[.cells [.rows (x.map tblC)],.cells [.rows (ds.map datC)],.cells [.own 3 out.length],.rows 4 (out.map brkC) false]
abbrev boH (x:List Tbl) (ds:List Dat) (t:Tbl) (out:List Brk):Heap:=boL x ds out++[.cells (tblC t),.cells [.fn 37 [.ptr 2 0,.ptr 4 0]]]
theorem l_bo4 (x:List Tbl) (ds:List Dat) (t:Tbl) (ht:t.cols.length≤1000000) (r:List Val) (hr:r.length=t.cols.length) (i n:Nat) (rs:List (List Val)) (ks:List It) :
  ∀ (q k:Nat) (out:List Brk) (kk:Int) (Bo:Code),Loop Tryz.f9 4 Bo→kk=(k:Int)→t.cols.length=k+q→out.length+(nullsB t n r k q).length≤1000000000 →
  RL K (.run 9 0 (.code Bo::.lp Bo (some ([2,3,8,10,11,12,13,39,40,41,53,54,55,60,61,62],[])) 6::.blk 4 6::ks) [(2,.ptr 0 0),(3,.ptr 1 0),(8,.ptr 2 0),(10,.ptr 4 0),(11,.rows (rs.map rowC)),(12,.ptr 5 0),(13,I (n:Int)),(39,.rows (x.map tblC)),(40,I (x.length:Int)),(41,I (i:Int)),(53,.rows (rs.map rowC)),(54,I (rs.length:Int)),(55,I (n:Int)),(60,vsA r),(61,I (r.length:Int)),(62,I kk)] (boH x ds t out)) =
  R K (.run 9 0 ks [(2,.ptr 0 0),(3,.ptr 1 0),(8,.ptr 2 0),(10,.ptr 4 0),(11,.rows (rs.map rowC)),(12,.ptr 5 0),(39,.rows (x.map tblC)),(40,I (x.length:Int)),(41,I (i:Int)),(53,.rows (rs.map rowC)),(54,I (rs.length:Int)),(55,I (n:Int))] (boH x ds t (out++nullsB t n r k q)))
 | 0,k,out,kk,Bo,hB,hk,hq,ho=>by
  subst hk
  have d:¬(k:Int) < (r.length:Int):=by omega
  simp only [nullsB,List.append_nil,boH,boL,List.cons_append,List.nil_append,tblC]
  unfold Loop at hB
  simp -implicitDefEqProofs only [go_sem,simprocAttr,Tryz.f9,loopOf] at hB
  subst hB
  rw [RL_eq]
  simp -implicitDefEqProofs only [go_sem,simprocAttr,d,tblC,locsR_brks]
 | q+1,k,out,kk,Bo,hB,hk,hq,ho=>by
  subst hk
  have hB':=hB
  have d:(k:Int) < (r.length:Int):=by omega
  have h7:=next_id (i:=k) (n:=t.cols.length) (by omega) (by omega)
  obtain ⟨c,hc⟩:=some_at (l:=t.cols) (i:=k) (by omega)
  obtain ⟨v,hv⟩:=some_at (l:=r) (i:=k) (by omega)
  have gc:=col_get hc
  have gv:=v_get hv
  have en:nullB t n r k=if v.k=0∧c.nl=false then [⟨1,t.nm,n,c.nm⟩] else []:=by simp only [nullB,hc,hv]
  simp only [nullsB,en] at ho ⊢
  simp only [colC] at gc
  by_cases h0:v.k=0∧c.nl=false
  ·obtain ⟨h1,h2⟩:=h0
   have b0:(v.k==0)=true:=by simpa using h1
   rw [if_pos ⟨h1,h2⟩] at ho ⊢
   simp only [List.length_append,List.length_cons,List.length_nil,Nat.zero_add] at ho
   have xa:=k_addR t out (by omega) 1 c.nm n
   have ih:=l_bo4 x ds t ht r hr i n rs ks q (k+1) (out++[⟨1,t.nm,n,c.nm⟩]) _ Bo hB' rfl (by omega) (by rw [List.length_append];simp;omega)
   rw [List.append_assoc] at ih
   generalize nullsB t n r (k+1) q=rest at *
   simp only [boH,boL,adH,List.length_append,List.length_cons,List.length_nil,Nat.zero_add,List.cons_append,List.nil_append,tblC] at ih xa ⊢
   unfold Loop at hB
   simp -implicitDefEqProofs only [go_sem,simprocAttr,Tryz.f9,loopOf] at hB
   subst hB
   rw [RL_eq]
   simp -implicitDefEqProofs only [go_sem,simprocAttr,d,h7,gc,gv,b0,h2,xa,colC,tblC,locsR_brks]
   exact ih
  ·rw [if_neg h0,List.nil_append] at ho ⊢
   have ih:=l_bo4 x ds t ht r hr i n rs ks q (k+1) out _ Bo hB' rfl (by omega) ho
   generalize nullsB t n r (k+1) q=rest at *
   simp only [boH,boL,List.length_append,List.length_cons,List.length_nil,Nat.zero_add,List.cons_append,List.nil_append,tblC] at ih ⊢
   by_cases h1:v.k=0
   ·have b0:(v.k==0)=true:=by simpa using h1
    have h2:c.nl=true:=by
     cases hn:c.nl with
     | true=>rfl
     | false=>exact absurd ⟨h1,hn⟩ h0
    unfold Loop at hB
    simp -implicitDefEqProofs only [go_sem,simprocAttr,Tryz.f9,loopOf] at hB
    subst hB
    rw [RL_eq]
    simp -implicitDefEqProofs only [go_sem,simprocAttr,d,h7,gc,gv,b0,h2,colC,tblC,locsR_brks]
    exact ih
   ·have b0:(v.k==0)=false:=by simpa using h1
    unfold Loop at hB
    simp -implicitDefEqProofs only [go_sem,simprocAttr,Tryz.f9,loopOf] at hB
    subst hB
    rw [RL_eq]
    simp -implicitDefEqProofs only [go_sem,simprocAttr,d,h7,gc,gv,b0,colC,tblC,locsR_brks]
    exact ih
theorem l_bo2 (x:List Tbl) (ds:List Dat) (t:Tbl) (ht:t.cols.length≤1000000) (i:Nat) (rs:List (List Val)) (hrs:RowsFit t rs) (hl:rs.length≤1000000) (ks:List It) :
  ∀ (q j:Nat) (out:List Brk) (jj:Int) (Bo:Code),Loop Tryz.f9 2 Bo→jj=(j:Int)→rs.length=j+q→out.length+(rowsB t j (rs.drop j)).length≤1000000000 →
  RL K (.run 9 0 (.code Bo::.lp Bo (some ([2,3,8,10,11,12,39,40,41,53,54,55],[])) 6::.blk 2 6::ks) [(2,.ptr 0 0),(3,.ptr 1 0),(8,.ptr 2 0),(10,.ptr 4 0),(11,.rows (rs.map rowC)),(12,.ptr 5 0),(39,.rows (x.map tblC)),(40,I (x.length:Int)),(41,I (i:Int)),(53,.rows (rs.map rowC)),(54,I (rs.length:Int)),(55,I jj)] (boH x ds t out)) =
  R K (.run 9 0 ks [(2,.ptr 0 0),(3,.ptr 1 0),(8,.ptr 2 0),(10,.ptr 4 0),(11,.rows (rs.map rowC)),(12,.ptr 5 0),(39,.rows (x.map tblC)),(40,I (x.length:Int)),(41,I (i:Int))] (boH x ds t (out++rowsB t j (rs.drop j))))
 | 0,j,out,jj,Bo,hB,hj,hq,ho=>by
  subst hj
  have d:¬(j:Int) < (rs.length:Int):=by omega
  rw [List.drop_of_length_le (by omega)]
  simp only [rowsB,List.append_nil,boH,boL,List.cons_append,List.nil_append,tblC]
  unfold Loop at hB
  simp -implicitDefEqProofs only [go_sem,simprocAttr,Tryz.f9,loopOf] at hB
  subst hB
  rw [RL_eq]
  simp -implicitDefEqProofs only [go_sem,simprocAttr,d,tblC,locsR_brks]
 | q+1,j,out,jj,Bo,hB,hj,hq,ho=>by
  subst hj
  have hB':=hB
  have d:(j:Int) < (rs.length:Int):=by omega
  have h7:=next_id (i:=j) (n:=rs.length) (by omega) (by omega)
  obtain ⟨r,hr⟩:=some_at (l:=rs) (i:=j) (by omega)
  have gr:=row_at hr
  have rl:=hrs r (List.mem_of_getElem? hr)
  rw [show rs.drop j=r::rs.drop (j+1) from drop_get hr] at ho ⊢
  simp only [rowsB,List.length_append] at ho ⊢
  have l2:=fun ks B hB=>l_bo4 x ds t ht r rl i j rs ks t.cols.length 0 out 0 B hB rfl (by omega) (by omega)
  have ih:=l_bo2 x ds t ht i rs hrs hl ks q (j+1) (out++nullsB t j r 0 t.cols.length) _ Bo hB' rfl (by omega) (by rw [List.length_append];omega)
  rw [List.append_assoc] at ih
  generalize nullsB t j r 0 t.cols.length=one at *
  generalize rowsB t (j+1) (rs.drop (j+1))=rest at *
  simp only [rowC] at gr
  simp only [boH,boL,List.length_append,List.length_cons,List.length_nil,Nat.zero_add,List.cons_append,List.nil_append,tblC] at ih l2 ⊢
  unfold Loop at hB
  simp -implicitDefEqProofs only [go_sem,simprocAttr,Tryz.f9,loopOf] at hB
  subst hB
  rw [RL_eq]
  simp -implicitDefEqProofs only [go_sem,simprocAttr,d,gr,rowC,tblC,locsR_brks,List.length_map]
  rw [l2 _ _ ?_]
  ·simp -implicitDefEqProofs only [go_sem,simprocAttr,h7,tblC,locsR_brks]
   exact ih
  ·rfl
theorem l_bo6 (x:List Tbl) (ds:List Dat) (i:Nat) (t:Tbl) (ht:t.cols.length≤1000000) (hN:∀ y∈t.idx,NamesIn t y.cols∧y.cols.length≤1000000) (hx:t.idx.length≤1000000) (rs:List (List Val)) (hrs:RowsFit t rs) (hl:rs.length≤1000000) (ks:List It) :
  ∀ (q j:Nat) (out:List Brk) (jj:Int) (Bo:Code),Loop Tryz.f9 6 Bo→jj=(j:Int)→t.idx.length=j+q→out.length+(idxB t rs (t.idx.drop j)).length≤1000000000 →
  RL K (.run 9 0 (.code Bo::.lp Bo (some ([2,3,8,10,11,12,39,40,41,97,98,99],[])) 6::.blk 6 6::ks) [(2,.ptr 0 0),(3,.ptr 1 0),(8,.ptr 2 0),(10,.ptr 4 0),(11,.rows (rs.map rowC)),(12,.ptr 5 0),(39,.rows (x.map tblC)),(40,I (x.length:Int)),(41,I (i:Int)),(97,.rows (t.idx.map idxC)),(98,I (t.idx.length:Int)),(99,I jj)] (boH x ds t out)) =
  R K (.run 9 0 ks [(2,.ptr 0 0),(3,.ptr 1 0),(8,.ptr 2 0),(10,.ptr 4 0),(11,.rows (rs.map rowC)),(12,.ptr 5 0),(39,.rows (x.map tblC)),(40,I (x.length:Int)),(41,I (i:Int))] (boH x ds t (out++idxB t rs (t.idx.drop j))))
 | 0,j,out,jj,Bo,hB,hj,hq,ho=>by
  subst hj
  have d:¬(j:Int) < (t.idx.length:Int):=by omega
  rw [List.drop_of_length_le (by omega)]
  simp only [idxB,List.append_nil,boH,boL,List.cons_append,List.nil_append,tblC]
  unfold Loop at hB
  simp -implicitDefEqProofs only [go_sem,simprocAttr,Tryz.f9,loopOf] at hB
  subst hB
  rw [RL_eq]
  simp -implicitDefEqProofs only [go_sem,simprocAttr,d,tblC,locsR_brks]
 | q+1,j,out,jj,Bo,hB,hj,hq,ho=>by
  subst hj
  have hB':=hB
  have d:(j:Int) < (t.idx.length:Int):=by omega
  have h7:=next_id (i:=j) (n:=t.idx.length) (by omega) (by omega)
  obtain ⟨y,hy⟩:=some_at (l:=t.idx) (i:=j) (by omega)
  have gy:=idx_get hy
  obtain ⟨n1,n2⟩:=hN y (List.mem_of_getElem? hy)
  rw [show t.idx.drop j=y::t.idx.drop (j+1) from drop_get hy] at ho ⊢
  simp only [idxB,List.length_append] at ho ⊢
  simp only [idxC] at gy
  cases hu:y.uq with
  | true =>
   rw [hu] at gy ho
   simp only [if_true] at ho ⊢
   have et:(fun n=>(⟨3,t.nm,n,y.nm⟩:Brk))=telB 3 t y.nm:=rfl
   rw [et] at ho ⊢
   have xr:=c_again3 t y ht y.cols n1 n2 rs hrs hl out (by omega)
   have ih:=l_bo6 x ds i t ht hN hx rs hrs hl ks q (j+1) (out++againB (telB 3 t y.nm) (keyO true t y.cols) 0 [] rs) _ Bo hB' rfl (by omega) (by rw [List.length_append];omega)
   rw [List.append_assoc] at ih
   generalize againB (telB 3 t y.nm) (keyO true t y.cols) 0 [] rs=one at *
   generalize idxB t rs (t.idx.drop (j+1))=rest at *
   simp only [boH,boL,agI,tblA,hu,idxC,List.length_append,List.length_cons,List.length_nil,Nat.zero_add,List.cons_append,List.nil_append,tblC] at ih xr ⊢
   unfold Loop at hB
   simp -implicitDefEqProofs only [go_sem,simprocAttr,Tryz.f9,loopOf] at hB
   subst hB
   rw [RL_eq]
   simp -implicitDefEqProofs only [go_sem,simprocAttr,d,h7,gy,xr,idxC,tblC,locsR_brks]
   exact ih
  | false =>
   rw [hu] at gy ho
   simp only [Bool.false_eq_true,if_false,List.nil_append,List.length_nil,Nat.zero_add] at ho ⊢
   have ih:=l_bo6 x ds i t ht hN hx rs hrs hl ks q (j+1) out _ Bo hB' rfl (by omega) ho
   generalize idxB t rs (t.idx.drop (j+1))=rest at *
   simp only [boH,boL,List.length_append,List.length_cons,List.length_nil,Nat.zero_add,List.cons_append,List.nil_append,tblC] at ih ⊢
   unfold Loop at hB
   simp -implicitDefEqProofs only [go_sem,simprocAttr,Tryz.f9,loopOf] at hB
   subst hB
   rw [RL_eq]
   simp -implicitDefEqProofs only [go_sem,simprocAttr,d,h7,gy,idxC,tblC,locsR_brks]
   exact ih
theorem any_mem (p:List Val→List UInt8) (k:List UInt8):∀ l:List (List Val),(l.any fun o=>p o==k)=decide (k∈l.map p)
 | []=>rfl
 | r::l=>by
  simp only [List.any_cons,any_mem p k l,List.map_cons,List.mem_cons]
  by_cases h:p r=k
  ·simp [h]
  ·have h':¬k=p r:=fun e=>h e.symm
   simp [h,h']
theorem l_bo10 (x:List Tbl) (ds:List Dat) (h:Led x ds) (i w:Nat) (t u:Tbl) (g:Dat) (f:Fgn) (mt:t∈x) (mf:f∈t.fgn) (hw:x[w]? = some u) (hg:ds[w]? = some g) (rs:List (List Val)) (hrs:RowsFit t rs) (hl:rs.length≤1000000) (jf:Int) (ks:List It) :
  ∀ (q j:Nat) (out:List Brk) (jj:Int) (Bo:Code),Loop Tryz.f9 10 Bo→jj=(j:Int)→rs.length=j+q→out.length+(refB (telB 4 t f.nm) (keyO true t f.cols) (g.rows.map (keyT u u.key)) j (rs.drop j)).length≤1000000000 →
  RL K (.run 9 0 (.code Bo::.lp Bo (some ([2,3,8,10,11,12,20,21,39,40,41,113,114,115,123,124,125],[])) 8::.blk 10 8::ks) [(2,.ptr 0 0),(3,.ptr 1 0),(8,.ptr 2 0),(10,.ptr 4 0),(11,.rows (rs.map rowC)),(12,.ptr 5 0),(20,.ptr 6 0),(21,.ptr 7 0),(39,.rows (x.map tblC)),(40,I (x.length:Int)),(41,I (i:Int)),(113,.rows (t.fgn.map fgnC)),(114,I (t.fgn.length:Int)),(115,I jf),(123,.rows (rs.map rowC)),(124,I (rs.length:Int)),(125,I jj)] (boH x ds t out++[.cells (fgnC f),.cells [I (w:Int)]])) =
  R K (.run 9 0 ks [(2,.ptr 0 0),(3,.ptr 1 0),(8,.ptr 2 0),(10,.ptr 4 0),(11,.rows (rs.map rowC)),(12,.ptr 5 0),(39,.rows (x.map tblC)),(40,I (x.length:Int)),(41,I (i:Int)),(113,.rows (t.fgn.map fgnC)),(114,I (t.fgn.length:Int)),(115,I jf)] (boH x ds t (out++refB (telB 4 t f.nm) (keyO true t f.cols) (g.rows.map (keyT u u.key)) j (rs.drop j))++[.cells (fgnC f),.cells [I (w:Int)]]))
 | 0,j,out,jj,Bo,hB,hj,hq,ho=>by
  subst hj
  have d:¬(j:Int) < (rs.length:Int):=by omega
  rw [List.drop_of_length_le (by omega)]
  simp only [refB,List.append_nil,boH,boL,List.cons_append,List.nil_append,tblC,fgnC]
  unfold Loop at hB
  simp -implicitDefEqProofs only [go_sem,simprocAttr,Tryz.f9,loopOf] at hB
  subst hB
  rw [RL_eq]
  simp -implicitDefEqProofs only [go_sem,simprocAttr,d,tblC,fgnC,locsR_brks]
 | q+1,j,out,jj,Bo,hB,hj,hq,ho=>by
  subst hj
  have hB':=hB
  have ft:=h.fit.tbl t mt
  have mu:=List.mem_of_getElem? hw
  have fu:=h.fit.tbl u mu
  have edg:=h.few.rows g (List.mem_of_getElem? hg)
  have d:(j:Int) < (rs.length:Int):=by omega
  have h7:=next_id (i:=j) (n:=rs.length) (by omega) (by omega)
  obtain ⟨r,hr⟩:=some_at (l:=rs) (i:=j) (by omega)
  have gr:=row_at hr
  have rl:=hrs r (List.mem_of_getElem? hr)
  have gg:=dat_at hg
  have xp:=r_picked t ft.cols r rl f.cols ((h.right.ok t mt).fg f mf) (ft.fg f mf).2
  have xc:=c_anyR x w u hw fu.cols (h.right.ok u mu).key fu.key (pickV t f.cols r) (by rw [pickV_len];exact (ft.fg f mf).2) g.rows (h.ok.fit w u g hw hg) edg.1
  rw [any_mem] at xc
  have ekk:keyB (pickV t f.cols r)=keyT t f.cols r:=rfl
  rw [ekk] at xc
  have ed:rs.drop j=r::rs.drop (j+1):=drop_get hr
  rw [ed] at ho ⊢
  simp only [rowC] at gr
  simp only [datC] at gg
  simp only [tblA,tblC] at xp
  cases hn:nullV (pickV t f.cols r) with
  | true =>
   have ek:keyO true t f.cols r=none:=by simp [keyO,hn]
   have ea:refB (telB 4 t f.nm) (keyO true t f.cols) (g.rows.map (keyT u u.key)) j (r::rs.drop (j+1))=refB (telB 4 t f.nm) (keyO true t f.cols) (g.rows.map (keyT u u.key)) (j+1) (rs.drop (j+1)):=by simp only [refB,ek,List.nil_append]
   rw [ea] at ho ⊢
   have ih:=l_bo10 x ds h i w t u g f mt mf hw hg rs hrs hl jf ks q (j+1) out _ Bo hB' rfl (by omega) ho
   rw [hn,Bool.not_true] at xp
   generalize refB (telB 4 t f.nm) (keyO true t f.cols) (g.rows.map (keyT u u.key)) (j+1) (rs.drop (j+1))=rest at *
   simp only [boH,boL,cfH,List.length_append,List.length_cons,List.length_nil,Nat.zero_add,List.cons_append,List.nil_append,tblC,fgnC] at ih xc ⊢
   unfold Loop at hB
   simp -implicitDefEqProofs only [go_sem,simprocAttr,Tryz.f9,loopOf] at hB
   subst hB
   rw [RL_eq]
   simp -implicitDefEqProofs only [go_sem,simprocAttr,d,h7,gr,gg,xp,xc,rowC,datC,tblC,fgnC,locsR_brks]
   exact ih
  | false =>
   have ek:keyO true t f.cols r=some (keyT t f.cols r):=by simp [keyO,hn]
   have ea:refB (telB 4 t f.nm) (keyO true t f.cols) (g.rows.map (keyT u u.key)) j (r::rs.drop (j+1))=(if keyT t f.cols r∈g.rows.map (keyT u u.key) then [] else [telB 4 t f.nm j])++refB (telB 4 t f.nm) (keyO true t f.cols) (g.rows.map (keyT u u.key)) (j+1) (rs.drop (j+1)):=by simp only [refB,ek]
   rw [ea] at ho ⊢
   rw [hn,Bool.not_false] at xp
   by_cases hm:keyT t f.cols r∈g.rows.map (keyT u u.key)
   ·rw [if_pos hm,List.nil_append] at ho ⊢
    rw [decide_eq_true hm] at xc
    have ih:=l_bo10 x ds h i w t u g f mt mf hw hg rs hrs hl jf ks q (j+1) out _ Bo hB' rfl (by omega) ho
    generalize refB (telB 4 t f.nm) (keyO true t f.cols) (g.rows.map (keyT u u.key)) (j+1) (rs.drop (j+1))=rest at *
    simp only [boH,boL,cfH,List.length_append,List.length_cons,List.length_nil,Nat.zero_add,List.cons_append,List.nil_append,tblC,fgnC] at ih xc ⊢
    unfold Loop at hB
    simp -implicitDefEqProofs only [go_sem,simprocAttr,Tryz.f9,loopOf] at hB
    subst hB
    rw [RL_eq]
    simp -implicitDefEqProofs only [go_sem,simprocAttr,d,h7,gr,gg,xp,xc,rowC,datC,tblC,fgnC,locsR_brks]
    exact ih
   ·rw [if_neg hm] at ho ⊢
    rw [decide_eq_false hm] at xc
    simp only [List.length_append,List.length_cons,List.length_nil,Nat.zero_add] at ho
    have ih:=l_bo10 x ds h i w t u g f mt mf hw hg rs hrs hl jf ks q (j+1) (out++[telB 4 t f.nm j]) _ Bo hB' rfl (by omega) (by rw [List.length_append];simp;omega)
    rw [List.append_assoc out] at ih
    have xa:=k_addR t out (by omega) 4 f.nm j
    generalize refB (telB 4 t f.nm) (keyO true t f.cols) (g.rows.map (keyT u u.key)) (j+1) (rs.drop (j+1))=rest at *
    simp only [boH,boL,cfH,adH,List.length_append,List.length_cons,List.length_nil,Nat.zero_add,List.cons_append,List.nil_append,tblC,fgnC] at ih xc xa ⊢
    unfold Loop at hB
    simp -implicitDefEqProofs only [go_sem,simprocAttr,Tryz.f9,loopOf] at hB
    subst hB
    rw [RL_eq]
    simp -implicitDefEqProofs only [go_sem,simprocAttr,d,h7,gr,gg,xp,xc,xa,rowC,datC,tblC,fgnC,locsR_brks]
    exact ih
theorem l_bo8 (x:List Tbl) (ds:List Dat) (h:Led x ds) (i:Nat) (t:Tbl) (e:Dat) (hi:x[i]? = some t) (he:ds[i]? = some e) (ks:List It) :
  ∀ (q j:Nat) (out:List Brk) (jj:Int) (Bo:Code),Loop Tryz.f9 8 Bo→jj=(j:Int)→t.fgn.length=j+q→out.length+(fgnB x ds t e.rows (t.fgn.drop j)).length≤1000000000 →
  RL K (.run 9 0 (.code Bo::.lp Bo (some ([2,3,8,10,11,12,39,40,41,113,114,115],[])) 6::.blk 8 6::ks) [(2,.ptr 0 0),(3,.ptr 1 0),(8,.ptr 2 0),(10,.ptr 4 0),(11,.rows (e.rows.map rowC)),(12,.ptr 5 0),(39,.rows (x.map tblC)),(40,I (x.length:Int)),(41,I (i:Int)),(113,.rows (t.fgn.map fgnC)),(114,I (t.fgn.length:Int)),(115,I jj)] (boH x ds t out)) =
  R K (.run 9 0 ks [(2,.ptr 0 0),(3,.ptr 1 0),(8,.ptr 2 0),(39,.rows (x.map tblC)),(40,I (x.length:Int)),(41,I (i:Int))] (boH x ds t (out++fgnB x ds t e.rows (t.fgn.drop j))))
 | 0,j,out,jj,Bo,hB,hj,hq,ho=>by
  subst hj
  have d:¬(j:Int) < (t.fgn.length:Int):=by omega
  rw [List.drop_of_length_le (by omega)]
  simp only [fgnB,List.append_nil,boH,boL,List.cons_append,List.nil_append,tblC]
  unfold Loop at hB
  simp -implicitDefEqProofs only [go_sem,simprocAttr,Tryz.f9,loopOf] at hB
  subst hB
  rw [RL_eq]
  simp -implicitDefEqProofs only [go_sem,simprocAttr,d,tblC,locsR_brks]
 | q+1,j,out,jj,Bo,hB,hj,hq,ho=>by
  subst hj
  have hB':=hB
  have mt:=List.mem_of_getElem? hi
  have ft:=h.fit.tbl t mt
  have tfl:=ft.fgn
  have hxl:=h.fit.len
  have d:(j:Int) < (t.fgn.length:Int):=by omega
  have h7:=next_id (i:=j) (n:=t.fgn.length) (by omega) (by omega)
  obtain ⟨f,hf⟩:=some_at (l:=t.fgn) (i:=j) (by omega)
  have gf:=fgn_get hf
  have mf:=List.mem_of_getElem? hf
  obtain ⟨w,u,g,hw,hu,hg⟩:=h.to mt mf
  have ede:=h.few.rows e (List.mem_of_getElem? he)
  have xt:=r_TableAt x f.tb hxl
  rw [hw] at xt
  have ekk:keysOf x ds f.tb=g.rows.map (keyT u u.key):=by simp only [keysOf,hw,Int.toNat_natCast,hu,hg]
  have et:(fun n=>(⟨4,t.nm,n,f.nm⟩:Brk))=telB 4 t f.nm:=rfl
  rw [show t.fgn.drop j=f::t.fgn.drop (j+1) from drop_get hf] at ho ⊢
  simp only [fgnB,List.length_append,ekk,et] at ho ⊢
  have l1:=fun ks B hB=>l_bo10 x ds h i w t u g f mt mf hu hg e.rows (h.ok.fit i t e hi he) ede.1 (j:Int) ks e.rows.length 0 out 0 B hB rfl (by omega) (by rw [List.drop_zero];omega)
  have ih:=l_bo8 x ds h i t e hi he ks q (j+1) (out++refB (telB 4 t f.nm) (keyO true t f.cols) (g.rows.map (keyT u u.key)) 0 e.rows) _ Bo hB' rfl (by omega) (by rw [List.length_append];omega)
  rw [List.append_assoc out] at ih
  simp only [List.drop_zero] at l1
  generalize refB (telB 4 t f.nm) (keyO true t f.cols) (g.rows.map (keyT u u.key)) 0 e.rows=one at *
  generalize fgnB x ds t e.rows (t.fgn.drop (j+1))=rest at *
  simp only [boH,boL,List.length_append,List.length_cons,List.length_nil,Nat.zero_add,List.cons_append,List.nil_append,tblC,fgnC] at ih l1 gf ⊢
  unfold Loop at hB
  simp -implicitDefEqProofs only [go_sem,simprocAttr,Tryz.f9,loopOf] at hB
  subst hB
  rw [RL_eq]
  simp -implicitDefEqProofs only [go_sem,simprocAttr,d,gf,xt,fgnC,tblC,locsR_brks,List.length_map]
  rw [l1 _ _ ?_]
  ·simp -implicitDefEqProofs only [go_sem,simprocAttr,h7,fgnC,tblC,locsR_brks]
   exact ih
  ·rfl
theorem l_bo0 (x:List Tbl) (ds:List Dat) (h:Led x ds) (ks:List It) :
  ∀ (q i:Nat) (out:List Brk) (ii:Int) (Bo:Code),Loop Tryz.f9 0 Bo→ii=(i:Int)→x.length=i+q→out.length+(allB x ds i q).length≤1000000000 →
  RL K (.run 9 0 (.code Bo::.lp Bo (some ([2,3,8,39,40,41],[])) 4::.blk 0 4::ks) [(2,.ptr 0 0),(3,.ptr 1 0),(8,.ptr 2 0),(39,.rows (x.map tblC)),(40,I (x.length:Int)),(41,I ii)] (boL x ds out)) =
  R K (.run 9 0 ks [(8,.ptr 2 0)] (boL x ds (out++allB x ds i q)))
 | 0,i,out,ii,Bo,hB,hi,hq,ho=>by
  subst hi
  have d:¬(i:Int) < (x.length:Int):=by omega
  simp only [allB,List.append_nil,boL]
  unfold Loop at hB
  simp -implicitDefEqProofs only [go_sem,simprocAttr,Tryz.f9,loopOf] at hB
  subst hB
  rw [RL_eq]
  simp -implicitDefEqProofs only [go_sem,simprocAttr,d,locsR_brks]
 | q+1,i,out,ii,Bo,hB,hi,hq,ho=>by
  subst hi
  have hB':=hB
  have hxl:=h.fit.len
  have hdl:=h.ok.len
  have d:(i:Int) < (x.length:Int):=by omega
  have h7:=next_id (i:=i) (n:=x.length) (by omega) (by omega)
  obtain ⟨t,ht⟩:=some_at (l:=x) (i:=i) (by omega)
  obtain ⟨e,he⟩:=some_at (l:=ds) (i:=i) (by omega)
  have gt:=tbl_get ht
  have ge:=dat_at he
  have ea:tblAtB x ds i=tblB x ds t e.rows:=by simp only [tblAtB,ht,he]
  simp only [allB,ea] at ho ⊢
  rw [List.length_append] at ho
  have et:(fun n=>(⟨2,t.nm,n,[]⟩:Brk))=telB 2 t []:=rfl
  have mt:=List.mem_of_getElem? ht
  have ft:=h.fit.tbl t mt
  have fe:=h.few.rows e (List.mem_of_getElem? he)
  have fit:=h.ok.fit i t e ht he
  have ih:=l_bo0 x ds h ks q (i+1) (out++tblB x ds t e.rows) _ Bo hB' rfl (by omega) (by rw [List.length_append];omega)
  rw [List.append_assoc out] at ih
  have hs:(tblB x ds t e.rows).length=(rowsB t 0 e.rows).length+((againB (telB 2 t []) (keyO false t t.key) 0 [] e.rows).length+((idxB t e.rows t.idx).length+(fgnB x ds t e.rows t.fgn).length)):=by
   simp only [tblB,List.length_append,et]
  have l2:=fun ks B hB=>l_bo2 x ds t ft.cols i e.rows fit fe.1 ks e.rows.length 0 out 0 B hB rfl (by omega) (by rw [List.drop_zero];omega)
  have xr:=c_again2 t ft.cols t.key (h.right.ok t mt).key ft.key e.rows fit fe.1 (out++rowsB t 0 e.rows) (by rw [List.length_append];omega)
  have l6:=fun ks B hB=>l_bo6 x ds i t ft.cols (fun y hy=>⟨h.idx t mt y hy,(ft.ix y hy).2⟩) ft.idx e.rows fit fe.1 ks t.idx.length 0 (out++rowsB t 0 e.rows++againB (telB 2 t []) (keyO false t t.key) 0 [] e.rows) 0 B hB rfl (by omega) (by rw [List.drop_zero,List.length_append,List.length_append];omega)
  have l8:=fun ks B hB=>l_bo8 x ds h i t e ht he ks t.fgn.length 0 (out++rowsB t 0 e.rows++againB (telB 2 t []) (keyO false t t.key) 0 [] e.rows++idxB t e.rows t.idx) 0 B hB rfl (by omega) (by rw [List.drop_zero,List.length_append,List.length_append,List.length_append];omega)
  simp only [List.drop_zero] at l2 l6 l8
  have fin:out++tblB x ds t e.rows=out++rowsB t 0 e.rows++againB (telB 2 t []) (keyO false t t.key) 0 [] e.rows++idxB t e.rows t.idx++fgnB x ds t e.rows t.fgn:=by simp only [tblB,et,List.append_assoc]
  have fin2:out++(tblB x ds t e.rows++allB x ds (i+1) q)=out++(tblB x ds t e.rows++allB x ds (i+1) q):=rfl
  rw [fin] at ih
  generalize out++(tblB x ds t e.rows++allB x ds (i+1) q)=fi at *
  clear fin fin2 hs ea et
  generalize out++rowsB t 0 e.rows=o1 at *
  generalize o1++againB (telB 2 t []) (keyO false t t.key) 0 [] e.rows=o2 at *
  generalize o2++idxB t e.rows t.idx=o3 at *
  generalize o3++fgnB x ds t e.rows t.fgn=o4 at *
  simp only [boH,boL,agH,tblA,tblC,datC,List.cons_append,List.nil_append] at gt ge l2 l6 l8 xr ih ⊢
  unfold Loop at hB
  simp -implicitDefEqProofs only [go_sem,simprocAttr,Tryz.f9,loopOf] at hB
  subst hB
  rw [RL_eq]
  simp -implicitDefEqProofs only [go_sem,simprocAttr,d,gt,ge,tblC,datC,List.length_map,locsR_brks]
  rw [l2 _ _ ?_]
  ·simp -implicitDefEqProofs only [go_sem,simprocAttr,xr,tblC,datC,List.length_map,locsR_brks]
   rw [l6 _ _ ?_]
   ·simp -implicitDefEqProofs only [go_sem,simprocAttr,tblC,List.length_map,locsR_brks]
    rw [l8 _ _ ?_]
    ·simp -implicitDefEqProofs only [go_sem,simprocAttr,h7,tblC,locsR_brks]
     exact ih
    ·rfl
   ·rfl
  ·rfl
theorem r_BreaksOf (x:List Tbl) (ds:List Dat) (hx:FitX x) (hd:FitD ds) (hI:chkE x=0→∀ t∈x,∀ y∈t.idx,NamesIn t y.cols) (ho:(allB x ds 0 x.length).length≤1000000000):R K (.call 9 [schC x,datS ds] [])=some (.tup [.rows ((brkL x ds).map brkC),I (brkE x ds)],[]):=by
 have x0:=r_SchemaFault x hx
 have x1:=r_formFault x ds hx hd
 by_cases h0:chkE x=0
 ·rw [h0] at x0
  have eb:brkE x ds=formE x ds:=by rw [brkE,if_pos h0]
  by_cases h1:formE x ds=0
  ·rw [h1] at x1
   have hL:Led x ds:=⟨hx,chk_right h0,hI h0,formE_ok h1,hd⟩
   have l0:=fun ks B hB=>l_bo0 x ds hL ks x.length 0 [] 0 B hB rfl (by omega) (by simpa using ho)
   have el:brkL x ds=allB x ds 0 x.length:=by rw [brkL,eb,if_pos h1]
   rw [el,eb,h1]
   simp only [List.nil_append,List.length_nil,List.map_nil,boL] at l0
   generalize allB x ds 0 x.length=o at *
   rw [call_9]
   simp -implicitDefEqProofs only [go_sem,simprocAttr,Tryz.f9,x0,x1,bne,beq_self_eq_true,List.length_map]
   rw [l0 _ _ ?_]
   ·simp -implicitDefEqProofs only [go_sem,simprocAttr,true_or,or_true,List.length_map]
   ·rfl
  ·have b1:(formE x ds==0)=false:=by simpa using h1
   have el:brkL x ds=[]:=by rw [brkL,eb,if_neg h1]
   rw [el,eb]
   rw [call_9]
   simp -implicitDefEqProofs only [go_sem,simprocAttr,Tryz.f9,x0,x1,b1,bne,beq_self_eq_true]
 ·have b0:(chkE x==0)=false:=by simpa using h0
  have eb:brkE x ds=chkE x:=by rw [brkE,if_neg h0]
  have el:brkL x ds=[]:=by rw [brkL,eb,if_neg h0]
  rw [el,eb]
  rw [call_9]
  simp -implicitDefEqProofs only [go_sem,simprocAttr,Tryz.f9,x0,b0,bne]
section
variable {L:List Int} {a B:Int}
theorem g_small (h:Gd L a B) (hB:12≤B) (k:Int):∃ (v:Val) (a':Int),R K (.call 67 [.ptr 0 0,I k] (St L a))=some (enc v,St L a')∧a≤a'∧a'≤a+12:=by
 have x0:=g_Next h (by omega) 6
 by_cases k2:k=2
 ·subst k2
  refine ⟨⟨2,nextS L a 6,[]⟩,a+1,?_,by omega,by omega⟩
  rw [call_67]
  simp -implicitDefEqProofs only [go_sem,simprocAttr,Tryz.f67,x0]
 have b2:(k==2)=false:=by simpa using k2
 by_cases k4:k=4
 ·subst k4
  refine ⟨⟨4,nextS L a 6,[]⟩,a+1,?_,by omega,by omega⟩
  rw [call_67]
  simp -implicitDefEqProofs only [go_sem,simprocAttr,Tryz.f67,x0]
 have b4:(k==4)=false:=by simpa using k4
 by_cases k3:k=3
 ·subst k3
  obtain ⟨s,hs,hg⟩:=str_at (l:=[[],[97],[98],[97,98],[53],[116,114,117,101]]) (next_bounds L a 6 (by omega) (by omega))
  simp only [List.map] at hg
  refine ⟨⟨3,0,s⟩,a+1,?_,by omega,by omega⟩
  rw [call_67]
  simp -implicitDefEqProofs only [go_sem,simprocAttr,Tryz.f67,x0,hg]
 have b3:(k==3)=false:=by simpa using k3
 obtain ⟨v,a',x1,q1,q2,_⟩:=g_Full h hB k
 refine ⟨v,a',?_,q1,q2⟩
 rw [call_67]
 simp -implicitDefEqProofs only [go_sem,simprocAttr,Tryz.f67,b2,b3,b4,x1]
theorem l_row (t:Tbl) (ht:t.cols.length≤1000):∀ (q j:Nat) (r:List Val) (a B:Int),t.cols.length=j+q→r.length=j→Gd L a B→(13*q:Int)≤B →
  ∃ (r':List Val) (a':Int),r'.length=t.cols.length∧a≤a'∧a'≤a+13*q∧∀ (ks:List It) (jj:Int) (Bo:Code),Loop Tryz.f26 0 Bo→jj=(j:Int) →
  RL K (.run 26 1 (.code Bo::.lp Bo (some ([0,5,10,11,12],[])) 3::.blk 0 3::ks) [(0,.ptr 0 0),(5,.own 2 r.length),(10,.rows (t.cols.map colC)),(11,I (t.cols.length:Int)),(12,I jj)] [.cells [LR L,I a],.cells (tblC t),.rows 3 (r.map vC) true]) =
  R K (.run 26 1 ks [(5,.own 2 r'.length)] [.cells [LR L,I a'],.cells (tblC t),.rows 3 (r'.map vC) true])
 | 0,j,r,a,B,hq,hr,hG,hB'=>by
  have d:¬(j:Int) < (t.cols.length:Int):=by omega
  refine ⟨r,a,by omega,by omega,by omega,fun ks jj Bo hB hj=>?_⟩
  subst hj
  unfold Loop at hB
  simp -implicitDefEqProofs only [go_sem,simprocAttr,Tryz.f26,loopOf] at hB
  subst hB
  rw [RL_eq]
  simp -implicitDefEqProofs only [go_sem,simprocAttr,d,tblC,locsR_vs]
 | q+1,j,r,a,B,hq,hr,hG,hB'=>by
  have d:(j:Int) < (t.cols.length:Int):=by omega
  have h7:=next_id (i:=j) (n:=t.cols.length) (by omega) (by omega)
  obtain ⟨c,hc⟩:=some_at (l:=t.cols) (i:=j) (by omega)
  have gc:=col_get hc
  obtain ⟨v,a1,x0,q1,q2⟩:=g_small hG (by omega) c.kd
  have G1:=hG.step a1 (B - 12) (by omega) (by omega)
  have x1:=g_Flip G1 (by omega) 4
  have rm:((r.length+1)*33≤roomMax)=True:=eq_true (by unfold roomMax;omega)
  simp only [colC] at gc
  cases hn:c.nl with
  | false =>
   have ap:=vs_app r v
   obtain ⟨r',a',p1,p2,p3,ih⟩:=l_row t ht q (j+1) (r++[v]) a1 (B - 13) (by omega) (by simp;omega) (G1.step _ _ (by omega) (by omega)) (by omega)
   refine ⟨r',a',p1,by omega,by omega,fun ks jj Bo hB hj=>?_⟩
   subst hj
   have ih:=ih ks _ Bo hB rfl
   simp only [List.length_append,List.length_cons,List.length_nil,Nat.zero_add,tblC] at ih ap ⊢
   rw [hn] at gc
   unfold Loop at hB
   simp -implicitDefEqProofs only [go_sem,simprocAttr,Tryz.f26,loopOf] at hB
   subst hB
   rw [RL_eq]
   simp -implicitDefEqProofs only [go_sem,simprocAttr,d,h7,gc,x0,rm,ap,tblC,locsR_vs,List.length_map]
   exact ih
  | true =>
   rw [hn] at gc
   cases e0:nextS L a1 4==0 with
   | false =>
    rw [e0] at x1
    have ap:=vs_app r v
    obtain ⟨r',a',p1,p2,p3,ih⟩:=l_row t ht q (j+1) (r++[v]) (a1+1) (B - 13) (by omega) (by simp;omega) (G1.step _ _ (by omega) (by omega)) (by omega)
    refine ⟨r',a',p1,by omega,by omega,fun ks jj Bo hB hj=>?_⟩
    subst hj
    have ih:=ih ks _ Bo hB rfl
    simp only [List.length_append,List.length_cons,List.length_nil,Nat.zero_add,tblC] at ih ap ⊢
    unfold Loop at hB
    simp -implicitDefEqProofs only [go_sem,simprocAttr,Tryz.f26,loopOf] at hB
    subst hB
    rw [RL_eq]
    simp -implicitDefEqProofs only [go_sem,simprocAttr,d,h7,gc,x0,x1,rm,ap,tblC,locsR_vs,List.length_map]
    exact ih
   | true =>
    rw [e0] at x1
    have ap:=vs_app r null
    obtain ⟨r',a',p1,p2,p3,ih⟩:=l_row t ht q (j+1) (r++[null]) (a1+1) (B - 13) (by omega) (by simp;omega) (G1.step _ _ (by omega) (by omega)) (by omega)
    refine ⟨r',a',p1,by omega,by omega,fun ks jj Bo hB hj=>?_⟩
    subst hj
    have ih:=ih ks _ Bo hB rfl
    simp only [List.length_append,List.length_cons,List.length_nil,Nat.zero_add,tblC,null] at ih ap ⊢
    unfold Loop at hB
    simp -implicitDefEqProofs only [go_sem,simprocAttr,Tryz.f26,loopOf] at hB
    subst hB
    rw [RL_eq]
    simp -implicitDefEqProofs only [go_sem,simprocAttr,d,h7,gc,x0,x1,rm,ap,tblC,locsR_vs,List.length_map]
    exact ih
theorem g_Row (h:Gd L a B) (hB:1000≤B) (t:Tbl) (ht:t.cols.length≤60):∃ (r:List Val) (a':Int),R K (.call 26 [.ptr 0 0,tblA t] (St L a))=some (vsA r,St L a')∧r.length=t.cols.length∧a≤a'∧a'≤a+1000:=by
 obtain ⟨r,a',p1,p2,p3,e0⟩:=l_row (L:=L) t (by omega) t.cols.length 0 [] a B (by omega) rfl h (by omega)
 refine ⟨r,a',?_,p1,p2,by omega⟩
 simp only [List.length_nil,List.map_nil,tblC] at e0
 rw [call_26]
 simp -implicitDefEqProofs only [go_sem,simprocAttr,Tryz.f26,tblC,List.length_map]
 rw [e0 _ 0 _ ?_ rfl]
 ·simp -implicitDefEqProofs only [go_sem,simprocAttr,locsR_vs,List.length_map,or_self,true_or,or_true]
 ·rfl
end
theorem r_sign (n:Int):∃ c,R K (.call 256 [I n] [])=some (I c,[]):=by
 refine ⟨if (if (1:Int) < n then 1 else n) > -1 then (if (1:Int) < n then 1 else n) else -1,?_⟩
 rw [call_256]
 simp -implicitDefEqProofs only [go_sem,simprocAttr,Tryz.f256]
theorem p_CompareS (a b:List UInt8):R K (.call 257 [.str a,.str b] [])=some (.int .i64 (Lib.compareBytes a b),[]):=R_prim rfl
theorem r_Compared (v w:Val):∃ c,R K (.call 207 [.agg (vC v),.agg (vC w)] [])=some (I c,[]):=by
 have x0:=r_right v.k v.n v.s
 have x1:=r_right w.k w.n w.s
 have e0:(⟨v.k,v.n,v.s⟩:Val)=v:=rfl
 have e1:(⟨w.k,w.n,w.s⟩:Val)=w:=rfl
 rw [e0] at x0
 rw [e1] at x1
 generalize plainV v=p at *
 generalize plainV w=q at *
 obtain ⟨c,x2⟩:=r_sign (wrapI .i64 (p.k - q.k))
 obtain ⟨c2,x3⟩:=r_sign (wrapI .i64 (p.n - q.n))
 have x4:=p_CompareS p.s q.s
 by_cases h0:c=0
 ·have b0:(c==0)=true:=by simpa using h0
  by_cases h3:p.k=3
  ·have b3:(p.k==3)=true:=by simpa using h3
   refine ⟨Lib.compareBytes p.s q.s,?_⟩
   rw [call_207]
   simp -implicitDefEqProofs only [go_sem,simprocAttr,Tryz.f207,x0,x1,x2,x4,b0,b3,bne]
  ·have b3:(p.k==3)=false:=by simpa using h3
   refine ⟨c2,?_⟩
   rw [call_207]
   simp -implicitDefEqProofs only [go_sem,simprocAttr,Tryz.f207,x0,x1,x2,x3,b0,b3,bne]
 ·have b0:(c==0)=false:=by simpa using h0
  refine ⟨c,?_⟩
  rw [call_207]
  simp -implicitDefEqProofs only [go_sem,simprocAttr,Tryz.f207,x0,x1,x2,b0,bne]
theorem l_cmpf (a b:List Val) (ha:a.length≤1000000) (hb:b.length≤1000000):∀ (q j:Nat),a.length=j+q →
  (∃ c,∀ (ks:List It) (jj:Int) (Bo:Code),Loop Tryz.f206 0 Bo→jj=(j:Int) →
   RL K (.run 206 0 (.code Bo::.lp Bo (some ([0,1,2,11,12,13],[])) 0::.blk 0 0::ks) [(0,vsA a),(1,vsA b),(2,.fn 207 []),(11,vsA a),(12,I (a.length:Int)),(13,I jj)] [])=some (I c,[])) ∨
  (∀ (ks:List It) (jj:Int) (Bo:Code),Loop Tryz.f206 0 Bo→jj=(j:Int) →
   RL K (.run 206 0 (.code Bo::.lp Bo (some ([0,1,2,11,12,13],[])) 0::.blk 0 0::ks) [(0,vsA a),(1,vsA b),(2,.fn 207 []),(11,vsA a),(12,I (a.length:Int)),(13,I jj)] []) =
   R K (.run 206 0 ks [(0,vsA a),(1,vsA b)] []))
 | 0,j,hq=>by
  have d:¬(j:Int) < (a.length:Int):=by omega
  refine .inr fun ks jj Bo hB hj=>?_
  subst hj
  unfold Loop at hB
  simp -implicitDefEqProofs only [go_sem,simprocAttr,Tryz.f206,loopOf] at hB
  subst hB
  rw [RL_eq]
  simp -implicitDefEqProofs only [go_sem,simprocAttr,d]
 | q+1,j,hq=>by
  have d:(j:Int) < (a.length:Int):=by omega
  have h7:=next_id (i:=j) (n:=a.length) (by omega) (by omega)
  obtain ⟨v,hv⟩:=some_at (l:=a) (i:=j) (by omega)
  have gv:=v_get hv
  by_cases hjb:b.length≤j
  ·have d2:((b.length:Nat):Int)≤(j:Int):=by omega
   refine .inl ⟨1,fun ks jj Bo hB hj=>?_⟩
   subst hj
   unfold Loop at hB
   simp -implicitDefEqProofs only [go_sem,simprocAttr,Tryz.f206,loopOf] at hB
   subst hB
   rw [RL_eq]
   simp -implicitDefEqProofs only [go_sem,simprocAttr,d,h7,gv,d2,List.length_map]
  ·have d2:¬((b.length:Nat):Int)≤(j:Int):=by omega
   obtain ⟨w,hw⟩:=some_at (l:=b) (i:=j) (by omega)
   have gw:=v_get hw
   obtain ⟨c,xc⟩:=r_Compared v w
   by_cases h0:c=0
   ·have b0:(c==0)=true:=by simpa using h0
    rcases l_cmpf a b ha hb q (j+1) (by omega) with ⟨c',ih⟩ | ih
    ·refine .inl ⟨c',fun ks jj Bo hB hj=>?_⟩
     subst hj
     have ih:=ih ks _ Bo hB rfl
     unfold Loop at hB
     simp -implicitDefEqProofs only [go_sem,simprocAttr,Tryz.f206,loopOf] at hB
     subst hB
     rw [RL_eq]
     simp -implicitDefEqProofs only [go_sem,simprocAttr,d,h7,gv,gw,d2,xc,b0,bne,List.length_map]
     exact ih
    ·refine .inr fun ks jj Bo hB hj=>?_
     subst hj
     have ih:=ih ks _ Bo hB rfl
     unfold Loop at hB
     simp -implicitDefEqProofs only [go_sem,simprocAttr,Tryz.f206,loopOf] at hB
     subst hB
     rw [RL_eq]
     simp -implicitDefEqProofs only [go_sem,simprocAttr,d,h7,gv,gw,d2,xc,b0,bne,List.length_map]
     exact ih
   ·have b0:(c==0)=false:=by simpa using h0
    refine .inl ⟨c,fun ks jj Bo hB hj=>?_⟩
    subst hj
    unfold Loop at hB
    simp -implicitDefEqProofs only [go_sem,simprocAttr,Tryz.f206,loopOf] at hB
    subst hB
    rw [RL_eq]
    simp -implicitDefEqProofs only [go_sem,simprocAttr,d,h7,gv,gw,d2,xc,b0,bne,List.length_map]
theorem r_ComparedLists (a b:List Val) (ha:a.length≤1000000) (hb:b.length≤1000000):∃ c,R K (.call 147 [vsA a,vsA b] [])=some (I c,[]):=by
 have key:∃ c,R K (.call 206 [vsA a,vsA b,.fn 207 []] [])=some (I c,[]):=by
  rcases l_cmpf a b ha hb a.length 0 (by omega) with ⟨c,l0⟩ | l0
  ·refine ⟨c,?_⟩
   rw [call_206]
   simp -implicitDefEqProofs only [go_sem,simprocAttr,Tryz.f206,List.length_map]
   rw [l0 _ 0 _ ?_ rfl]
   rfl
  ·by_cases hl:a.length < b.length
   ·have d:((a.length:Nat):Int) < (b.length:Int):=by omega
    refine ⟨-1,?_⟩
    rw [call_206]
    simp -implicitDefEqProofs only [go_sem,simprocAttr,Tryz.f206,List.length_map]
    rw [l0 _ 0 _ ?_ rfl]
    ·simp -implicitDefEqProofs only [go_sem,simprocAttr,d,List.length_map]
    ·rfl
   ·have d:¬((a.length:Nat):Int) < (b.length:Int):=by omega
    refine ⟨0,?_⟩
    rw [call_206]
    simp -implicitDefEqProofs only [go_sem,simprocAttr,Tryz.f206,List.length_map]
    rw [l0 _ 0 _ ?_ rfl]
    ·simp -implicitDefEqProofs only [go_sem,simprocAttr,d,List.length_map]
    ·rfl
 obtain ⟨c,hc⟩:=key
 refine ⟨c,?_⟩
 rw [call_147]
 simp -implicitDefEqProofs only [go_sem,simprocAttr,Tryz.f147,hc]
theorem k_cmp (t:Tbl) (ht:t.cols.length≤1000000) (hk:t.key.length≤1000000) (hN:NamesIn t t.key) (r s:List Val) (hr:r.length=t.cols.length) (hs:s.length=t.cols.length) :
  ∃ c,R K (.call 282 [vsA r,vsA s,.ptr 0 0] [.cells (tblC t)])=some (I c,[.cells (tblC t)]):=by
 have x0:=r_picked t ht r hr t.key hN hk
 have x1:=r_picked t ht s hs t.key hN hk
 obtain ⟨c,x2⟩:=r_ComparedLists (pickV t t.key r) (pickV t t.key s) (by rw [pickV_len];exact hk) (by rw [pickV_len];exact hk)
 refine ⟨c,?_⟩
 simp only [tblA,tblC] at x0 x1 ⊢
 rw [call_282]
 simp -implicitDefEqProofs only [go_sem,simprocAttr,Tryz.f282,x0,x1,x2]
theorem rows_set (rs:List (List Val)) (i:Nat) (s:List Val):(rs.map rowC).set i [.rows (s.map vC)]=(rs.set i s).map rowC:=by rw [List.map_set];rfl
def Shuf (rs rs':List (List Val)):Prop:=rs'.length=rs.length∧∀ r∈rs',r∈rs
theorem Shuf.trans {a b c:List (List Val)} (h:Shuf a b) (h2:Shuf b c):Shuf a c:=⟨h2.1.trans h.1,fun r hr=>h.2 r (h2.2 r hr)⟩
theorem Shuf.refl (a:List (List Val)):Shuf a a:=⟨rfl,fun _ h=>h⟩
theorem Shuf.fit {t:Tbl} {a b:List (List Val)} (h:Shuf a b) (hf:RowsFit t a):RowsFit t b:=fun r hr=>hf r (h.2 r hr)
abbrev soH (t:Tbl) (rs:List (List Val)):Heap:=[.rows 1 (rs.map rowC) true,.cells (tblC t)]
abbrev soF:AV:=.fn 282 [.ptr 1 0]
theorem l_ins2 (t:Tbl) (ht:t.cols.length≤1000000) (hk:t.key.length≤1000000) (hN:NamesIn t t.key) (b i:Int):∀ (j:Nat) (rs:List (List Val)),j < rs.length→rs.length≤1000→RowsFit t rs →
  ∃ rs',Shuf rs rs'∧∀ (ks:List It) (jj:Int) (Bo:Code),Loop Tryz.f301 2 Bo→jj=(j:Int) →
  RL K (.run 301 2 (.code Bo::.lp Bo (some ([0,1,2,3,8,9],[])) 2::.blk 2 2::ks) [(0,.own 0 rs.length),(1,I 0),(2,I b),(3,soF),(8,I i),(9,I jj)] (soH t rs)) =
  R K (.run 301 2 ks [(0,.own 0 rs'.length),(1,I 0),(2,I b),(3,soF),(8,I i)] (soH t rs'))
 | 0,rs,hj,hl,hf=>by
  refine ⟨rs,Shuf.refl _,fun ks jj Bo hB hjj=>?_⟩
  subst hjj
  simp only [soH,tblC]
  unfold Loop at hB
  simp -implicitDefEqProofs only [go_sem,simprocAttr,Tryz.f301,loopOf] at hB
  subst hB
  rw [RL_eq]
  simp -implicitDefEqProofs only [go_sem,simprocAttr,locsR_rows]
 | j+1,rs,hj,hl,hf=>by
  obtain ⟨r,hr⟩:=some_at (l:=rs) (i:=j+1) hj
  obtain ⟨s,hs⟩:=some_at (l:=rs) (i:=j) (by omega)
  have gr:=row_at hr
  have gs:=row_at hs
  have c1:(((j+1:Nat)):Int)=(j:Int)+1:=by omega
  rw [c1] at gr
  have fr:=hf r (List.mem_of_getElem? hr)
  have fs:=hf s (List.mem_of_getElem? hs)
  obtain ⟨c,xc⟩:=k_cmp t ht hk hN r s fr fs
  have d:((0:Int) < (j:Int)+1)=True:=eq_true (by omega)
  have w1:wrapI .i64 ((j:Int)+1 - 1)=(j:Int):=by rw [wrap_id (by omega) (by omega)];omega
  have ti:((j:Int)+1).toNat=j+1:=by omega
  by_cases h0:c < 0
  ·have m2:Shuf rs ((rs.set (j+1) s).set j r):=by
    refine ⟨by simp,fun y hy=>?_⟩
    rcases List.mem_or_eq_of_mem_set hy with h1 | h1
    ·rcases List.mem_or_eq_of_mem_set h1 with h2 | h2
     ·exact h2
     ·rw [h2];exact List.mem_of_getElem? hs
    ·rw [h1];exact List.mem_of_getElem? hr
   obtain ⟨rs',p1,ih⟩:=l_ins2 t ht hk hN b i j ((rs.set (j+1) s).set j r) (by simp;omega) (by simpa using hl) (m2.fit hf)
   refine ⟨rs',m2.trans p1,fun ks jj Bo hB hjj=>?_⟩
   subst hjj
   have ih:=ih ks _ Bo hB rfl
   have br:(rs.map rowC)[j+1]? = some (rowC r):=by simp [hr]
   have b2:((rs.set (j+1) s).map rowC)[j]? = some (rowC s):=by
    rw [List.getElem?_map,List.getElem?_set_ne (by omega),hs];rfl
   have g2:=at_get b2
   have bs:(rs.map rowC)[j]? = some (rowC s):=by simp [hs]
   have n2:((rs.set (j+1) s).map rowC).length=rs.length:=by simp
   have sp:∀ x y:AV,splice [x] 0 [y]=[y]:=fun _ _=>rfl
   have se1:=rows_set rs (j+1) s
   have se2:=rows_set (rs.set (j+1) s) j r
   simp only [List.length_set] at ih
   rw [c1]
   simp only [soH,tblC,rowC] at xc ih gr gs br bs b2 g2 n2 se1 se2 ⊢
   unfold Loop at hB
   simp -implicitDefEqProofs only [go_sem,simprocAttr,Tryz.f301,loopOf] at hB
   subst hB
   rw [RL_eq]
   simp -implicitDefEqProofs only [go_sem,simprocAttr,d,w1,ti,h0,xc,gr,gs,br,bs,b2,g2,n2,sp,se1,se2,locsR_rows,List.length_map,Int.toNat_natCast]
   exact ih
  ·refine ⟨rs,Shuf.refl _,fun ks jj Bo hB hjj=>?_⟩
   subst hjj
   have br:(rs.map rowC)[j+1]? = some (rowC r):=by simp [hr]
   have bs:(rs.map rowC)[j]? = some (rowC s):=by simp [hs]
   rw [c1]
   simp only [soH,tblC,rowC] at xc gr gs br bs ⊢
   unfold Loop at hB
   simp -implicitDefEqProofs only [go_sem,simprocAttr,Tryz.f301,loopOf] at hB
   subst hB
   rw [RL_eq]
   simp -implicitDefEqProofs only [go_sem,simprocAttr,d,w1,ti,h0,xc,gr,gs,br,bs,locsR_rows,List.length_map,Int.toNat_natCast]
theorem l_ins0 (t:Tbl) (ht:t.cols.length≤1000000) (hk:t.key.length≤1000000) (hN:NamesIn t t.key):∀ (q i:Nat) (rs:List (List Val)),rs.length≤i+q→i≤1001→rs.length≤1000→RowsFit t rs →
  ∃ rs',Shuf rs rs'∧∀ (ks:List It) (ii:Int) (Bo:Code),Loop Tryz.f301 0 Bo→ii=(i:Int) →
  RL K (.run 301 2 (.code Bo::.lp Bo (some ([0,1,2,3,8],[])) 2::.blk 0 2::ks) [(0,.own 0 rs.length),(1,I 0),(2,I (rs.length:Int)),(3,soF),(8,I ii)] (soH t rs)) =
  R K (.run 301 2 ks [] (soH t rs'))
 | 0,i,rs,hq,hi,hl,hf=>by
  have d:¬(i:Int) < (rs.length:Int):=by omega
  refine ⟨rs,Shuf.refl _,fun ks ii Bo hB hii=>?_⟩
  subst hii
  simp only [soH,tblC]
  unfold Loop at hB
  simp -implicitDefEqProofs only [go_sem,simprocAttr,Tryz.f301,loopOf] at hB
  subst hB
  rw [RL_eq]
  simp -implicitDefEqProofs only [go_sem,simprocAttr,d,locsR_rows]
 | q+1,i,rs,hq,hi,hl,hf=>by
  by_cases hlt:i < rs.length
  ·have d:(i:Int) < (rs.length:Int):=by omega
   have w1:wrapI .i64 ((i:Int)+1)=((i+1:Nat):Int):=by rw [wrap_id (by omega) (by omega)];rfl
   obtain ⟨rs1,m1,l2⟩:=l_ins2 t ht hk hN (rs.length:Int) (i:Int) i rs hlt hl hf
   obtain ⟨rs',m2,ih⟩:=l_ins0 t ht hk hN q (i+1) rs1 (by have:=m1.1;omega) (by omega) (by have:=m1.1;omega) (m1.fit hf)
   refine ⟨rs',m1.trans m2,fun ks ii Bo hB hii=>?_⟩
   subst hii
   have ih:=ih ks _ Bo hB rfl
   rw [m1.1] at ih l2
   simp only [soH,tblC] at ih l2 ⊢
   unfold Loop at hB
   simp -implicitDefEqProofs only [go_sem,simprocAttr,Tryz.f301,loopOf] at hB
   subst hB
   rw [RL_eq]
   simp -implicitDefEqProofs only [go_sem,simprocAttr,d,locsR_rows]
   rw [l2 _ _ _ ?_ rfl]
   ·simp -implicitDefEqProofs only [go_sem,simprocAttr,w1,locsR_rows]
    exact ih
   ·rfl
  ·have d:¬(i:Int) < (rs.length:Int):=by omega
   refine ⟨rs,Shuf.refl _,fun ks ii Bo hB hii=>?_⟩
   subst hii
   simp only [soH,tblC]
   unfold Loop at hB
   simp -implicitDefEqProofs only [go_sem,simprocAttr,Tryz.f301,loopOf] at hB
   subst hB
   rw [RL_eq]
   simp -implicitDefEqProofs only [go_sem,simprocAttr,d,locsR_rows]
theorem c_insertion (t:Tbl) (ht:t.cols.length≤1000000) (hk:t.key.length≤1000000) (hN:NamesIn t t.key) (rs:List (List Val)) (hl:rs.length≤1000) (hf:RowsFit t rs) :
  ∃ rs',Shuf rs rs'∧R K (.call 301 [.own 0 rs.length,I 0,I (rs.length:Int),soF] (soH t rs))=some (.tup [],soH t rs'):=by
 obtain ⟨rs',m,l0⟩:=l_ins0 t ht hk hN rs.length 1 rs (by omega) (by omega) hl hf
 refine ⟨rs',m,?_⟩
 simp only [soH,tblC] at l0 ⊢
 rw [call_301]
 simp -implicitDefEqProofs only [go_sem,simprocAttr,Tryz.f301,locsR_rows]
 rw [l0 _ 1 _ ?_ rfl]
 ·simp -implicitDefEqProofs only [go_sem,simprocAttr,locsR_rows]
 ·rfl
theorem renR_rows (σ:Nat→Nat):∀ l:List (List Val),renR σ (l.map rowC)=l.map rowC
 | []=>rfl
 | x::l=>by
  simp only [List.map_cons,renR,renR_rows σ l]
  rfl
attribute [go_sem] renR_rows locsR_rows
theorem c_stable (t:Tbl) (ht:t.cols.length≤1000000) (hk:t.key.length≤1000000) (hN:NamesIn t t.key) (rs:List (List Val)) (hl:rs.length < 20) (hf:RowsFit t rs) :
  ∃ rs',Shuf rs rs'∧R K (.call 276 [.own 0 rs.length,I (rs.length:Int),soF] (soH t rs))=some (.tup [],soH t rs'):=by
 obtain ⟨rs',m,x0⟩:=c_insertion t ht hk hN rs (by omega) hf
 have d1:¬(20:Int)≤(rs.length:Int):=by omega
 have d2:¬(20:Int) < (rs.length:Int):=by omega
 have ml:=m.1
 refine ⟨rs',m,?_⟩
 simp only [soH,tblC] at x0 ⊢
 rw [call_276]
 simp -implicitDefEqProofs only [go_sem,simprocAttr,Tryz.f276,d1]
 rw [RL_eq]
 simp -implicitDefEqProofs only [go_sem,simprocAttr,d1,d2,x0,ml,true_or]
 rw [RL_eq]
 simp -implicitDefEqProofs only [go_sem,simprocAttr,d1,d2,x0,ml,true_or]
theorem c_SortStable (t:Tbl) (ht:t.cols.length≤1000000) (hk:t.key.length≤1000000) (hN:NamesIn t t.key) (rs:List (List Val)) (hl:rs.length < 20) (hf:RowsFit t rs) :
  ∃ rs',Shuf rs rs'∧R K (.call 239 [.own 0 rs.length,soF] (soH t rs))=some (.tup [],soH t rs'):=by
 obtain ⟨rs',m,x0⟩:=c_stable t ht hk hN rs hl hf
 refine ⟨rs',m,?_⟩
 simp only [soH,tblC] at x0 ⊢
 rw [call_239]
 simp -implicitDefEqProofs only [go_sem,simprocAttr,Tryz.f239,x0,true_or]
end Go.Ab
