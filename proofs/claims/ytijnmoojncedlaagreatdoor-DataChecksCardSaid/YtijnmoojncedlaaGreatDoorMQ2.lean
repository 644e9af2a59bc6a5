/- What is proved: contracts of the program's and the reference's functions in the evaluator, and plain laws on them. Conditions: as each states. -/
import Derived.Test.YtijnmoojncedlaaGreatDoorMQ1
set_option linter.unusedSimpArgs false
set_option linter.unusedSectionVars false
set_option linter.unusedVariables false
set_option maxRecDepth 100000
namespace Go.Ab
open Go Go.Proofs
section
variable {L:List Int}
theorem ZtU (nm inm:List UInt8) (uq:Bool) (cols:List Col) (key:List (List UInt8)) (cv kv:AV) (g:Zd) (hs:TbS cols key cv kv g) (a:Int) (is:List Idx) (r i:Int) (ps:List Int) (hp:∀ x∈ps,0≤x∧x < (cols.length:Int)) (hpl:ps.length≤2):∀ (q j:Nat) (ns:List (List UInt8)),ps.length=j+q→ns.length≤j→(∀ n∈ns,n∈cols.map (·.nm)) →
  ∃ ns':List (List UInt8),(ns'.length≤2∧∀ n∈ns',n∈cols.map (·.nm))∧∀ (ks:List It) (Bo:Code) (jj:Int),Zf Tryz.f14 4 Bo→jj=(j:Int) →
  RL K (.run 14 1 (.code Bo::.lp Bo (some ([0,4,5,8,51,52,74,75,76],[])) (6+g.length)::.blk 4 (6+g.length)::ks) [(0,.ptr 0 0),(4,.ptr 1 0),(5,.ptr 2 0),(8,.ptr (4+g.length) 0),(51,I r),(52,I i),(74,.rows (WJ ps)),(75,I (ps.length:Int)),(76,I jj)] (.cells [LR L,I a]::Zog::.cells [.str nm,cv,kv,.nils,.own (3+g.length) is.length]::(g++[.rows 3 (is.map ZT) false,.cells [.str inm,.own (5+g.length) ns.length,.bool uq],.rows 1 (SLs ns) false]))) =
  R K (.run 14 1 ks [(0,.ptr 0 0),(4,.ptr 1 0),(5,.ptr 2 0),(8,.ptr (4+g.length) 0),(51,I r),(52,I i)] (.cells [LR L,I a]::Zog::.cells [.str nm,cv,kv,.nils,.own (3+g.length) is.length]::(g++[.rows 3 (is.map ZT) false,.cells [.str inm,.own (5+g.length) ns'.length,.bool uq],.rows 1 (SLs ns') false])))
 | 0,j,ns,hq,hl,hN=>by
  have d:¬(j:Int) < (ps.length:Int):=by omega
  refine ⟨ns,⟨by omega,hN⟩,fun ks Bo jj hB hj=>?_⟩
  subst hj
  rcases hs with ⟨rfl,rfl,rfl⟩ | ⟨rfl,rfl,rfl⟩ | ⟨rfl,rfl,rfl⟩
  all_goals
   simp only [List.length_cons,List.length_nil,Nat.zero_add,Nat.add_zero,Nat.reduceAdd,List.cons_append,List.nil_append]
   unfold Zf at hB
   simp -implicitDefEqProofs only [go_sem,simprocAttr,Tryz.f14,Zb] at hB
   subst hB
   rw [Zc]
   simp -implicitDefEqProofs only [go_sem,simprocAttr,d,Zy,Zq,YJ]
 | q+1,j,ns,hq,hl,hN=>by
  have d:(j:Int) < (ps.length:Int):=by omega
  have h7:=Zs (i:=j) (n:=ps.length) (by omega) (by omega)
  obtain ⟨x,hx⟩:=Ze (l:=ps) (i:=j) (by omega)
  have hxb:=hp x (List.mem_of_getElem? hx)
  have gx:=Z2 (Zbu hx)
  obtain ⟨c,hc⟩:=Ze (l:=cols) (i:=x.toNat) (by omega)
  have gc:=YR hc
  rw [Int.toNat_of_nonneg hxb.1] at gc
  obtain ⟨ns',p1,ih⟩:=ZtU nm inm uq cols key cv kv g hs a is r i ps hp hpl q (j+1) (ns++[c.nm]) (by omega) (by simp;omega) (fun n hn=>(List.mem_append.1 hn).elim (hN n) fun h=>by rw [List.mem_singleton] at h;rw [h];exact List.mem_map.2 ⟨c,List.mem_of_getElem? hc,rfl⟩)
  refine ⟨ns',p1,fun ks Bo jj hB hj=>?_⟩
  subst hj
  have ih:=ih ks Bo _ hB rfl
  have sa:=ZeA ns c.nm
  have rm:((ns.length+1)*17≤Zg)=True:=eq_true (by unfold Zg;omega)
  simp only [ZO] at gc
  rcases hs with ⟨rfl,rfl,rfl⟩ | ⟨rfl,rfl,rfl⟩ | ⟨rfl,rfl,rfl⟩
  all_goals
   simp only [List.length_cons,List.length_nil,List.length_append,Nat.zero_add,Nat.add_zero,Nat.reduceAdd,List.cons_append,List.nil_append] at ih ⊢
   unfold Zf at hB
   simp -implicitDefEqProofs only [go_sem,simprocAttr,Tryz.f14,Zb] at hB
   subst hB
   rw [Zc]
   simp -implicitDefEqProofs only [go_sem,simprocAttr,d,h7,gx,gc,sa,rm,Yx,Zy,Zq,YJ]
   exact ih
end
def Zji (is:List Idx) (m:Nat):Prop:=is.length≤m∧∀ x∈is,x.nm.length≤100∧x.cols.length≤2
def ZmM (cols:List Col) (is:List Idx):Prop:=∀ x∈is,∀ n∈x.cols,n∈cols.map (·.nm)
section
variable {L:List Int}
theorem ZmF (nm:List UInt8) (cols:List Col) (hc:ColsOk cols 6) (key:List (List UInt8)) (cv kv:AV) (g:Zd) (hs:TbS cols key cv kv g) (r:Nat) (hr:r≤2):∀ (q i:Nat) (is:List Idx) (a B:Int),r=i+q→Gd L a B→(30*q:Int)≤B→Zji is i→ZmM cols is →
  ∃ (is':List Idx) (a':Int),a≤a'∧a'≤a+30*q∧(Zji is' 2∧ZmM cols is')∧∀ (ks:List It) (Bo:Code) (ii:Int),Zf Tryz.f14 2 Bo→ii=(i:Int) →
  RL K (.run 14 1 (.code Bo::.lp Bo (some ([0,4,5,51,52],[])) (4+g.length)::.blk 2 (4+g.length)::ks) [(0,.ptr 0 0),(4,.ptr 1 0),(5,.ptr 2 0),(51,I (r:Int)),(52,I ii)] (.cells [LR L,I a]::Zog::.cells [.str nm,cv,kv,.nils,.own (3+g.length) is.length]::(g++[.rows 3 (is.map ZT) false]))) =
  R K (.run 14 1 ks [(4,.ptr 1 0),(5,.ptr 2 0)] (.cells [LR L,I a']::Zog::.cells [.str nm,cv,kv,.nils,.own (3+g.length) is'.length]::(g++[.rows 3 (is'.map ZT) false])))
 | 0,i,is,a,B,hq,hG,hB',hi,hI=>by
  have d:¬(i:Int) < (r:Int):=by omega
  refine ⟨is,a,by omega,by omega,⟨⟨by have:=hi.1;omega,hi.2⟩,hI⟩,fun ks Bo ii hB hii=>?_⟩
  subst hii
  rcases hs with ⟨rfl,rfl,rfl⟩ | ⟨rfl,rfl,rfl⟩ | ⟨rfl,rfl,rfl⟩
  all_goals
   simp only [List.length_cons,List.length_nil,Nat.zero_add,Nat.add_zero,Nat.reduceAdd,List.cons_append,List.nil_append]
   unfold Zf at hB
   simp -implicitDefEqProofs only [go_sem,simprocAttr,Tryz.f14,Zb] at hB
   subst hB
   rw [Zc]
   simp -implicitDefEqProofs only [go_sem,simprocAttr,d,Zy,Zq,YJ]
 | q+1,i,is,a,B,hq,hG,hB',hi,hI=>by
  have d:(i:Int) < (r:Int):=by omega
  have h7:=Zs (i:=i) (n:=r) (by omega) (by omega)
  obtain ⟨s,es,hsl⟩:=ZfE i (by omega)
  have w1:ZC .i64 (97+(i:Int))=97+(i:Int):=ZV (by omega) (by omega)
  have hc1:=hc.pos
  have hc6:=hc.len
  have x1:=Y5 hG (by omega) 2
  have G1:=hG.step (a+1) (B - 1) (by omega) (by omega)
  generalize (Zw L a 2==0)=uq at *
  obtain ⟨o,a1,p1,p2,p3,x2⟩:=Zth G1 cols.length hc1 (by omega) (by omega)
  have G2:=G1.step a1 (B - 21) (by omega) (by omega)
  obtain ⟨b,hb1,hb2,hb3,hb4⟩:∃ b:Int,1≤b∧b≤2∧b≤(cols.length:Int)∧(if (cols.length:Int) < 2 then (cols.length:Int) else 2)=b:=by
   refine ⟨_,?_,?_,?_,rfl⟩<;>split<;>omega
  have x3:=W1 G2 (by omega) 1 b (by omega) (by omega) (by omega)
  have b3:=X1 L a1 1 b (by omega) (by omega)
  obtain ⟨kk,hkk⟩:∃ k:Nat,Q1 L a1 1 b=(k:Int):=⟨(Q1 L a1 1 b).toNat,by omega⟩
  rw [hkk] at x3 b3
  have G3:=G2.step (a1+1) (B - 22) (by omega) (by omega)
  have hol:=p1.1
  obtain ⟨ns',n1,e4⟩:=ZtU (L:=L) nm (105::s) uq cols key cv kv g hs (a1+1) is (r:Int) (i:Int) (o.take kk) (fun x hx=>p1.2 x (List.mem_of_mem_take hx)) (by rw [List.length_take];omega) (o.take kk).length 0 [] (by omega) (by simp) (by simp)
  have hlt:(o.take kk).length=kk:=by rw [List.length_take];omega
  rw [hlt] at e4
  have hadd:Zji (is++[⟨105::s,ns',uq⟩]) (i+1):=by
   refine ⟨by rw [List.length_append];have:=hi.1;simp;omega,fun x hx=>?_⟩
   rcases List.mem_append.1 hx with h | h
   ·exact hi.2 x h
   ·rw [List.mem_singleton] at h;subst h;exact ⟨by simp;omega,n1.1⟩
  obtain ⟨is',a',q1,q2,q3,ih⟩:=ZmF nm cols hc key cv kv g hs r hr q (i+1) (is++[⟨105::s,ns',uq⟩]) (a1+1) (B - 30) (by omega) (G3.step _ _ (by omega) (by omega)) (by omega) hadd (fun x hx n hn=>(List.mem_append.1 hx).elim (fun h=>hI x h n hn) fun h=>by rw [List.mem_singleton] at h;subst h;exact n1.2 n hn)
  refine ⟨is',a',by omega,by omega,q3,fun ks Bo ii hB hii=>?_⟩
  subst hii
  have ih:=ih ks Bo _ hB rfl
  have hil:=hi.1
  have ia:=ZcL is ⟨105::s,ns',uq⟩
  have rm:((is.length+1)*49≤Zg)=True:=eq_true (by unfold Zg;omega)
  have st:(1+s.length≤XT)=True:=eq_true (by unfold XT;omega)
  have g1:((kk:Int)≤(o.length:Int))=True:=eq_true (by omega)
  have g2:((0:Int)≤(kk:Int))=True:=eq_true (by omega)
  simp only [ZT] at ia
  rcases hs with ⟨rfl,rfl,rfl⟩ | ⟨rfl,rfl,rfl⟩ | ⟨rfl,rfl,rfl⟩
  all_goals
   simp only [List.length_cons,List.length_nil,List.length_append,Nat.zero_add,Nat.add_zero,Nat.reduceAdd,List.cons_append,List.nil_append,ZhR] at ih e4 ⊢
   unfold Zf at hB
   simp -implicitDefEqProofs only [go_sem,simprocAttr,Tryz.f14,Zb] at hB
   subst hB
   rw [Zc]
   simp -implicitDefEqProofs only [go_sem,simprocAttr,d,h7,w1,es,st,x1,x2,x3,hb4,g1,g2,Znq,Zeg,ZjP,hlt,Int.toNat_natCast,Nat.sub_zero,List.length_map,Zy,Zq,YJ]
   rw [e4 _ _ 0 ?_ rfl]
   ·simp -implicitDefEqProofs only [go_sem,simprocAttr,h7,ia,rm,ZT,Yx,List.length_map,Zy,Zq,YJ]
    exact ih
   ·rfl
end
structure GenT (t:Tbl):Prop where
 nm:t.nm.length≤100
 cols:ColsOk t.cols 6
 key:t.key.length≤2
 keyIn:∀ n∈t.key,n∈t.cols.map (·.nm)
 fgn:t.fgn=[]
 idx:Zji t.idx 2
 idxIn:ZmM t.cols t.idx
theorem cols_id:ColsOk [Zjp] 1:=⟨by simp,by simp,by simp,by simp⟩
theorem Zg7:Zji [] 0:=⟨by simp,by simp⟩
section
variable {L:List Int} {a B:Int}
theorem Zse (h:Gd L a B) (hB:200≤B) (nm:List UInt8) (hn:nm.length≤100):∃ (t:Tbl) (a':Int),R K (.call 14 [.ptr 0 0,.str nm] (St L a))=some (ZX t,St L a')∧a≤a'∧a'≤a+200∧GenT t∧t.nm=nm:=by
 have x0:=Y5 h (by omega) 4
 have h1:=h.step (a+1) (B - 1) (by omega) (by omega)
 cases e0:Zw L a 4==0 with
 | false =>
  rw [e0] at x0
  have x1:=W1 h1 (by omega) 0 4 (by omega) (by omega) (by omega)
  have b1:=X1 L (a+1) 0 4 (by omega) (by omega)
  have h2:=h1.step (a+1+1) (B - 2) (by omega) (by omega)
  obtain ⟨r,hr⟩:∃ k:Nat,Q1 L (a+1) 0 4=(k:Int):=⟨(Q1 L (a+1) 0 4).toNat,by omega⟩
  rw [hr] at x1 b1
  cases r with
  | zero =>
   have x2:=ZN h2 (by omega) 3
   have b2:=Zu L (a+1+1) 3 (by omega) (by omega)
   obtain ⟨u,hu⟩:∃ k:Nat,Zw L (a+1+1) 3=(k:Int):=⟨(Zw L (a+1+1) 3).toNat,by omega⟩
   rw [hu] at x2 b2
   have h3:=h2.step (a+1+1+1) (B - 3) (by omega) (by omega)
   obtain ⟨is,a',q1,q2,q3,e2⟩:=ZmF (L:=L) nm [Zjp] ⟨by simp,by simp,by simp,by simp⟩ [idB] _ _ _ (.inl ⟨rfl,rfl,rfl⟩) u (by omega) u 0 [] _ _ (by omega) h3 (by omega) Zg7 (fun x hx=>absurd hx (by simp))
   refine ⟨⟨nm,[Zjp],[idB],[],is⟩,a',?_,by omega,by omega,⟨hn,⟨by simp,by simp,by simp,by simp⟩,by simp,by simp,rfl,q3.1,q3.2⟩,rfl⟩
   simp only [SLs,List.length_nil,Nat.add_zero,List.nil_append,List.map_nil,List.map_cons,ZO] at e2
   rw [Zhf]
   simp -implicitDefEqProofs only [go_sem,simprocAttr,Tryz.f14,x0,x1]
   rw [Zc]
   simp -implicitDefEqProofs only [go_sem,simprocAttr,x2]
   rw [e2 _ _ 0 ?_ rfl]
   ·simp -implicitDefEqProofs only [go_sem,simprocAttr,Za,YJ,List.length_map,or_self]
    rfl
   ·rfl
  | succ r =>
   obtain ⟨s,es,hsl⟩:=ZfE 0 (by omega)
   rw [show (97+((0:Nat):Int))=97 from rfl] at es
   obtain ⟨c,a1,y1,q1,q2,q3⟩:=ZiX h2 (by omega) (99::s)
   have h3:=h2.step a1 (B - 30) (by omega) (by omega)
   obtain ⟨cols,a2,p1,p2,p3,p4,e0⟩:=Zrd (L:=L) nm (r+1) (by omega) _ _ 3 (.inl ⟨rfl,rfl,rfl⟩) r 1 [Zjp,c] a1 (B - 30) 2 (by omega) (by omega) h3 (by omega) (cols_id.add c (by rw [q3];simp;omega))
   have h4:=h3.step a2 (B - 130) (by omega) (by omega)
   have x2:=ZN h4 (by omega) 3
   have b2:=Zu L a2 3 (by omega) (by omega)
   obtain ⟨u,hu⟩:∃ k:Nat,Zw L a2 3=(k:Int):=⟨(Zw L a2 3).toNat,by omega⟩
   rw [hu] at x2 b2
   have h5:=h4.step (a2+1) (B - 131) (by omega) (by omega)
   have hc6:ColsOk cols 6:=⟨by have:=p3.len;omega,p3.pos,p3.nm,p3.id⟩
   obtain ⟨is,a',w1,w2,w3,e2⟩:=ZmF (L:=L) nm cols hc6 [idB] _ _ _ (.inr (.inl ⟨rfl,rfl,rfl⟩)) u (by omega) u 0 [] _ _ (by omega) h5 (by omega) Zg7 (fun x hx=>absurd hx (by simp))
   refine ⟨⟨nm,cols,[idB],[],is⟩,a',?_,by omega,by omega,⟨hn,hc6,by simp,fun n hn=>by rw [List.mem_singleton] at hn;rw [hn];exact hc6.id,rfl,w3.1,w3.2⟩,rfl⟩
   have st:(1+s.length≤XT)=True:=eq_true (by unfold XT;omega)
   have rm:(130≤Zg)=True:=eq_true (by unfold Zg;omega)
   have d:((0:Int) < (r:Int)+1)=True:=eq_true (by omega)
   have c1:(((r+1:Nat)):Int)=(r:Int)+1:=by omega
   simp only [List.length_nil,List.length_cons,Nat.zero_add,Nat.reduceAdd,Nat.add_zero,List.nil_append,List.cons_append,SLs,List.map_nil,List.map_cons,ZO] at e2 e0 y1
   rw [c1] at x1
   simp only [c1] at e0
   rw [Zhf]
   simp -implicitDefEqProofs only [go_sem,simprocAttr,Tryz.f14,x0,x1]
   rw [Zc]
   simp -implicitDefEqProofs only [go_sem,simprocAttr,d,es,st,rm,y1,ZO,Zy]
   rw [e0 _ _ 1 ?_ rfl]
   ·simp -implicitDefEqProofs only [go_sem,simprocAttr,x2,Zy,List.length_map]
    rw [e2 _ _ 0 ?_ rfl]
    ·simp -implicitDefEqProofs only [go_sem,simprocAttr,Za,YJ,List.length_map,or_self]
     rfl
    ·rfl
   ·rfl
 | true =>
  rw [e0] at x0
  obtain ⟨x,hx,y0⟩:=ZaH h1 (by omega) [2,3,1] (by decide) (by decide)
  have h1':=h1.step (a+1+1) (B - 2) (by omega) (by omega)
  have x1:=W1 h1' (by omega) 0 4 (by omega) (by omega) (by omega)
  have b1:=X1 L (a+1+1) 0 4 (by omega) (by omega)
  have h2:=h1'.step (a+1+1+1) (B - 3) (by omega) (by omega)
  obtain ⟨r,hr⟩:∃ k:Nat,Q1 L (a+1+1) 0 4=(k:Int):=⟨(Q1 L (a+1+1) 0 4).toNat,by omega⟩
  rw [hr] at x1 b1
  obtain ⟨cols,a2,p1,p2,p3,p4,e0⟩:=Zrd (L:=L) nm r (by omega) _ _ 5 (.inr ⟨rfl,rfl,rfl⟩) r 0 [Zjp,⟨kB,x,false,⟨0,0,[]⟩⟩] _ (B - 3) 2 (by omega) (by omega) h2 (by omega) (cols_id.add _ (by simp))
  have h4:=h2.step a2 (B - 130) (by omega) (by omega)
  have x2:=ZN h4 (by omega) 3
  have b2:=Zu L a2 3 (by omega) (by omega)
  obtain ⟨u,hu⟩:∃ k:Nat,Zw L a2 3=(k:Int):=⟨(Zw L a2 3).toNat,by omega⟩
  rw [hu] at x2 b2
  have h5:=h4.step (a2+1) (B - 131) (by omega) (by omega)
  have hc6:ColsOk cols 6:=⟨by have:=p3.len;omega,p3.pos,p3.nm,p3.id⟩
  obtain ⟨is,a',w1,w2,w3,e2⟩:=ZmF (L:=L) nm cols hc6 [idB,kB] _ _ _ (.inr (.inr ⟨rfl,rfl,rfl⟩)) u (by omega) u 0 [] _ _ (by omega) h5 (by omega) Zg7 (fun x hx=>absurd hx (by simp))
  refine ⟨⟨nm,cols,[idB,kB],[],is⟩,a',?_,by omega,by omega,⟨hn,hc6,by simp,fun n hn=>p4 n (by simpa using hn),rfl,w3.1,w3.2⟩,rfl⟩
  have rm:(130≤Zg)=True:=eq_true (by unfold Zg;omega)
  have rm2:(34≤Zg)=True:=eq_true (by unfold Zg;omega)
  simp only [List.length_nil,List.length_cons,Nat.zero_add,Nat.reduceAdd,Nat.add_zero,List.nil_append,List.cons_append,SLs,List.map_nil,List.map_cons,ZO] at e2 e0 y0
  rw [Zhf]
  simp -implicitDefEqProofs only [go_sem,simprocAttr,Tryz.f14,x0,y0,x1,rm,rm2]
  rw [e0 _ _ 0 ?_ rfl]
  ·simp -implicitDefEqProofs only [go_sem,simprocAttr,x2,Zy,List.length_map]
   rw [e2 _ _ 0 ?_ rfl]
   ·simp -implicitDefEqProofs only [go_sem,simprocAttr,Za,YJ,List.length_map,or_self]
    rfl
   ·rfl
  ·rfl
end
theorem ZA:∀ l:List Tbl,ZL (l.map Za)=[]
 | []=>rfl
 | x::l=>by simpa [Za,ZL,Zk,Zm] using ZA l
theorem Xw:∀ l:List Fgn,ZL (l.map Zt)=[]
 | []=>rfl
 | x::l=>by simpa [Zt,ZL,Zk,Zm] using Xw l
theorem XW:∀ l:List Tbl,YB 5 (l.map Za)=true
 | []=>rfl
 | c::l=>by simpa [YB,Za] using XW l
theorem Xb:∀ l:List Fgn,YB 3 (l.map Zt)=true
 | []=>rfl
 | c::l=>by simpa [YB,Zt] using Xb l
theorem Wn:∀ l:List Idx,YB 3 (l.map ZT)=true
 | []=>rfl
 | c::l=>by simpa [YB,ZT] using Wn l
theorem ZpH (l:List Tbl) (c:Tbl):l.map Za++[Za c]=(l++[c]).map Za:=by simp
theorem Zcy (l:List Fgn) (c:Fgn):l.map Zt++[Zt c]=(l++[c]).map Zt:=by simp
theorem JG {α:Type} {f:α→List AV} {l:List α} (h:1≤l.length):(l.map f).isEmpty=false:=by
 cases l with
 | nil=>simp at h
 | cons a l=>rfl
theorem Zkt (x:List Tbl) (h:1≤x.length) (hl:x.length≤1000000):R K (.call 19 [.rows (x.map Za)] [])=some (.own 0 x.length,[.rows 5 (x.map Za) true]):=by
 have e:=JG (f:=Za) h
 have rm:(x.length*113≤Zg)=True:=eq_true (by unfold Zg;omega)
 have d:(0 < x.length)=True:=eq_true (by omega)
 have hp:K.prim 19 [.rows (x.map Za)]=none:=by
  cases x with
  | nil=>simp at h
  | cons a x=>rfl
 rw [Zs6 hp]
 simp -implicitDefEqProofs only [go_sem,simprocAttr,Tryz.f19,e,rm,d,XW,ZA,List.length_map,List.length_nil,Nat.zero_add,List.nil_append]
theorem Zcs (x:List Fgn) (h:1≤x.length) (hl:x.length≤1000000):R K (.call 21 [.rows (x.map Zt)] [])=some (.own 0 x.length,[.rows 3 (x.map Zt) false]):=by
 have e:=JG (f:=Zt) h
 have rm:(x.length*57≤Zg)=True:=eq_true (by unfold Zg;omega)
 have d:(0 < x.length)=True:=eq_true (by omega)
 have hp:K.prim 21 [.rows (x.map Zt)]=none:=by
  cases x with
  | nil=>simp at h
  | cons a x=>rfl
 rw [Zsn hp]
 simp -implicitDefEqProofs only [go_sem,simprocAttr,Tryz.f21,e,rm,d,Xb,Xw,List.length_map,List.length_nil,Nat.zero_add,List.nil_append]
theorem JH:R K (.call 21 [.rows []] [])=some (.lit [],[]):=ZaG rfl
theorem Zb8 (x:List Idx) (h:1≤x.length) (hl:x.length≤1000000):R K (.call 35 [.rows (x.map ZT)] [])=some (.own 0 x.length,[.rows 3 (x.map ZT) false]):=by
 have e:=JG (f:=ZT) h
 have rm:(x.length*49≤Zg)=True:=eq_true (by unfold Zg;omega)
 have d:(0 < x.length)=True:=eq_true (by omega)
 have hp:K.prim 35 [.rows (x.map ZT)]=none:=by
  cases x with
  | nil=>simp at h
  | cons a x=>rfl
 rw [Zr6 hp]
 simp -implicitDefEqProofs only [go_sem,simprocAttr,Tryz.f35,e,rm,d,Wn,YJ,List.length_map,List.length_nil,Nat.zero_add,List.nil_append]
theorem Zbj:R K (.call 35 [.rows []] [])=some (.lit [],[]):=ZaG rfl
theorem ZqV (x:List Col) (h:1≤x.length) (hl:x.length≤1000000):R K (.call 34 [.rows (x.map ZO)] [])=some (.own 0 x.length,[.rows 6 (x.map ZO) true]):=by
 have e:=JG (f:=ZO) h
 have rm:(x.length*65≤Zg)=True:=eq_true (by unfold Zg;omega)
 have d:(0 < x.length)=True:=eq_true (by omega)
 have hp:K.prim 34 [.rows (x.map ZO)]=none:=by
  cases x with
  | nil=>simp at h
  | cons a x=>rfl
 rw [Zsb hp]
 simp -implicitDefEqProofs only [go_sem,simprocAttr,Tryz.f34,e,rm,d,Wi,Zy,List.length_map,List.length_nil,Nat.zero_add,List.nil_append]
def Zu4 (m:Nat) (x:List Tbl):Prop:=x.length=m∧(∀ t∈x,GenT t)∧∀ (i:Nat) (t:Tbl),x[i]? = some t→t.nm=116::(Utf8.encode (ZC .i32 (97+(i:Int)))).data.toList
section
variable {L:List Int}
theorem ZtQ (n:Nat) (hn:n≤3):∀ (q j:Nat) (x:List Tbl) (a B:Int),n=j+q→Gd L a B→(200*q:Int)≤B→Zu4 j x →
  ∃ (x':List Tbl) (a':Int),a≤a'∧a'≤a+200*q∧Zu4 n x'∧∀ (ks:List It) (Bo:Code) (jj:Int),Zf Tryz.f4 0 Bo→jj=(j:Int) →
  RL K (.run 4 1 (.code Bo::.lp Bo (some ([0,2,3,16,17],[])) 4::.blk 0 4::ks) [(0,.ptr 0 0),(2,.ptr 1 0),(3,.ptr 2 0),(16,I (n:Int)),(17,I jj)] [.cells [LR L,I a],.cells [.nils],.cells [.own 3 x.length],.rows 5 (x.map Za) false]) =
  R K (.run 4 1 ks [(0,.ptr 0 0),(2,.ptr 1 0),(3,.ptr 2 0)] [.cells [LR L,I a'],.cells [.nils],.cells [.own 3 x'.length],.rows 5 (x'.map Za) false])
 | 0,j,x,a,B,hq,hG,hB',hx=>by
  have d:¬(j:Int) < (n:Int):=by omega
  refine ⟨x,a,by omega,by omega,⟨by have:=hx.1;omega,hx.2.1,hx.2.2⟩,fun ks Bo jj hB hj=>?_⟩
  subst hj
  unfold Zf at hB
  simp -implicitDefEqProofs only [go_sem,simprocAttr,Tryz.f4,Zb] at hB
  subst hB
  rw [Zc]
  simp -implicitDefEqProofs only [go_sem,simprocAttr,d,ZA]
 | q+1,j,x,a,B,hq,hG,hB',hx=>by
  have d:(j:Int) < (n:Int):=by omega
  have h7:=Zs (i:=j) (n:=n) (by omega) (by omega)
  obtain ⟨s,es,hsl⟩:=ZfE j (by omega)
  have w1:ZC .i64 (97+(j:Int))=97+(j:Int):=ZV (by omega) (by omega)
  obtain ⟨t,a1,x1,q1,q2,q3,q4⟩:=Zse hG (by omega) (116::s) (by simp;omega)
  have hxn:∀ (i:Nat) (u:Tbl),(x++[t])[i]? = some u→u.nm=116::(Utf8.encode (ZC .i32 (97+(i:Int)))).data.toList:=by
   intro i u hu
   by_cases hi:i < x.length
   ·rw [List.getElem?_append_left hi] at hu
    exact hx.2.2 i u hu
   ·rw [List.getElem?_append_right (by omega)] at hu
    obtain ⟨k,hk⟩:∃ k,i=x.length+k:=⟨i - x.length,by omega⟩
    subst hk
    cases k with
    | zero =>
     have hjl:=hx.1
     simp only [Nat.add_zero,Nat.sub_self,List.getElem?_cons_zero,Option.some.injEq] at hu
     rw [←hu,q4,Nat.add_zero,hjl,es]
    | succ k=>simp at hu
  obtain ⟨x',a',p1,p2,p3,ih⟩:=ZtQ n hn q (j+1) (x++[t]) a1 (B - 200) (by omega) (hG.step _ _ (by omega) (by omega)) (by omega) ⟨by rw [List.length_append];have:=hx.1;simp;omega,fun u hu=>by
   rcases List.mem_append.1 hu with h | h
   ·exact hx.2.1 u h
   ·rw [List.mem_singleton] at h;rw [h];exact q3,hxn⟩
  refine ⟨x',a',by omega,by omega,p3,fun ks Bo jj hB hj=>?_⟩
  subst hj
  have ih:=ih ks Bo _ hB rfl
  have hxl:=hx.1
  have ta:=ZpH x t
  have rm:((x.length+1)*113≤Zg)=True:=eq_true (by unfold Zg;omega)
  have st:(1+s.length≤XT)=True:=eq_true (by unfold XT;omega)
  simp only [List.length_append,List.length_cons,List.length_nil,Nat.zero_add,Za] at ih x1 ta
  unfold Zf at hB
  simp -implicitDefEqProofs only [go_sem,simprocAttr,Tryz.f4,Zb] at hB
  subst hB
  rw [Zc]
  simp -implicitDefEqProofs only [go_sem,simprocAttr,d,h7,w1,es,st,x1,ta,rm,Za,ZA,XW,List.length_map]
  exact ih
end
theorem ZHh (n:List UInt8) (c:Col):R K (.call 17 [Zan c,.ptr 0 0] (nmH n))=some (.bool (c.nm==n),nmH n):=by
 rw [Zr8]
 simp -implicitDefEqProofs only [go_sem,simprocAttr,Tryz.f17,ZO]
theorem ZJt (n:List UInt8) (c:Col):Yv nlA (R K) (nmH n) [Zan c] (.fn 17 [.ptr 0 0])=some (.bool (c.nm==n),nmH n):=by
 have hk:=ZHh n c
 simp only [Zan,ZO] at hk ⊢
 simp -implicitDefEqProofs only [go_sem,simprocAttr,hk]
abbrev scH (L:List Int) (a:Int) (x:List Tbl) (u:Tbl) (fnm:List UInt8) (ns:List (List UInt8)):Zd:=[.cells [LR L,I a],.cells [.nils],.cells [.rows (x.map Za)],.hole,.cells (Za u),.cells [.str fnm,.own 6 ns.length,.str u.nm],.rows 1 (SLs ns) false]
section
variable {L:List Int}
theorem Zm3 (x:List Tbl) (t u:Tbl) (fnm k:List UInt8) (kd r p w:Int) (htl:t.cols.length≤1000) (c0:Nat) (hc0:c0≤1000) (ns:List (List UInt8)) (hns:ns.length≤c0):∀ (q j:Nat) (a B:Int),t.cols.length=j+q→Gd L a B→(q:Int)≤B →
  ∃ (ns':List (List UInt8)) (a':Int),a≤a'∧a'≤a+q∧ns'.length≤c0+1∧∀ (ks:List It) (Bo:Code) (jj:Int),Zf Tryz.f4 6 Bo→jj=(j:Int) →
  RL K (.run 4 1 (.code Bo::.lp Bo (some ([0,2,3,5,6,7,10,34,35,67,68,69,85,86,87],[])) 8::.blk 6 8::ks) [(0,.ptr 0 0),(2,.ptr 1 0),(3,.ptr 2 0),(5,.rptr (Za t) 0),(6,.ptr 4 0),(7,.ptr 5 0),(10,I kd),(34,I r),(35,I p),(67,.rows (SLs u.key)),(68,I (u.key.length:Int)),(69,I w),(85,.rows (t.cols.map ZO)),(86,I (t.cols.length:Int)),(87,I jj)] (scH L a x u fnm ns++[.cells [.str k]])) =
  R K (.run 4 1 ks [(0,.ptr 0 0),(2,.ptr 1 0),(3,.ptr 2 0),(5,.rptr (Za t) 0),(6,.ptr 4 0),(7,.ptr 5 0),(34,I r),(35,I p),(67,.rows (SLs u.key)),(68,I (u.key.length:Int)),(69,I w)] (scH L a' x u fnm ns'++[.cells [.str k]]))
 | 0,j,a,B,hq,hG,hB'=>by
  have d:¬(j:Int) < (t.cols.length:Int):=by omega
  refine ⟨ns,a,by omega,by omega,by omega,fun ks Bo jj hB hj=>?_⟩
  subst hj
  unfold Zf at hB
  simp -implicitDefEqProofs only [go_sem,simprocAttr,Tryz.f4,Zb] at hB
  subst hB
  rw [Zc]
  simp -implicitDefEqProofs only [go_sem,simprocAttr,d,Zq,scH,Za]
 | q+1,j,a,B,hq,hG,hB'=>by
  have d:(j:Int) < (t.cols.length:Int):=by omega
  have h7:=Zs (i:=j) (n:=t.cols.length) (by omega) (by omega)
  obtain ⟨c,hc⟩:=Ze (l:=t.cols) (i:=j) (by omega)
  have gc:=YR hc
  have hcn:=Xx c.nm ns (by omega)
  have rm:((ns.length+1)*17≤Zg)=True:=eq_true (by unfold Zg;omega)
  have sa:=ZeA ns c.nm
  simp only [ZO] at gc
  cases e1:(c.kd==kd) with
  | false =>
   obtain ⟨ns',a',p1,p2,p3,ih⟩:=Zm3 x t u fnm k kd r p w htl c0 hc0 ns hns q (j+1) a B (by omega) hG (by omega)
   refine ⟨ns',a',p1,by omega,p3,fun ks Bo jj hB hj=>?_⟩
   subst hj
   have ih:=ih ks Bo _ hB rfl
   simp only [scH,Za,List.cons_append,List.nil_append] at ih ⊢
   unfold Zf at hB
   simp -implicitDefEqProofs only [go_sem,simprocAttr,Tryz.f4,Zb] at hB
   subst hB
   rw [Zc]
   simp -implicitDefEqProofs only [go_sem,simprocAttr,d,h7,gc,e1,ZO,Za,Zq]
   exact ih
  | true =>
   cases e2:ns.contains c.nm with
   | true =>
    rw [e2] at hcn
    obtain ⟨ns',a',p1,p2,p3,ih⟩:=Zm3 x t u fnm k kd r p w htl c0 hc0 ns hns q (j+1) a B (by omega) hG (by omega)
    refine ⟨ns',a',p1,by omega,p3,fun ks Bo jj hB hj=>?_⟩
    subst hj
    have ih:=ih ks Bo _ hB rfl
    simp only [scH,Za,List.cons_append,List.nil_append] at ih ⊢
    unfold Zf at hB
    simp -implicitDefEqProofs only [go_sem,simprocAttr,Tryz.f4,Zb] at hB
    subst hB
    rw [Zc]
    simp -implicitDefEqProofs only [go_sem,simprocAttr,d,h7,gc,e1,hcn,Yx,ZO,Za,Zq]
    exact ih
   | false =>
    rw [e2] at hcn
    cases e3:(c.nm==[105,100]) with
    | false =>
     refine ⟨ns++[c.nm],a,by omega,by omega,by simp;omega,fun ks Bo jj hB hj=>?_⟩
     subst hj
     simp only [scH,Za,List.cons_append,List.nil_append,List.length_append,List.length_cons,List.length_nil,Nat.zero_add]
     unfold Zf at hB
     simp -implicitDefEqProofs only [go_sem,simprocAttr,Tryz.f4,Zb] at hB
     subst hB
     rw [Zc]
     simp -implicitDefEqProofs only [go_sem,simprocAttr,d,h7,gc,e1,e3,hcn,rm,sa,bne,Yx,ZO,Za,Zq]
    | true =>
     have x0:=Y5 hG (by omega) 6
     cases e4:Zw L a 6==0 with
     | true =>
      rw [e4] at x0
      refine ⟨ns++[c.nm],a+1,by omega,by omega,by simp;omega,fun ks Bo jj hB hj=>?_⟩
      subst hj
      simp only [scH,Za,List.cons_append,List.nil_append,List.length_append,List.length_cons,List.length_nil,Nat.zero_add]
      unfold Zf at hB
      simp -implicitDefEqProofs only [go_sem,simprocAttr,Tryz.f4,Zb] at hB
      subst hB
      rw [Zc]
      simp -implicitDefEqProofs only [go_sem,simprocAttr,d,h7,gc,e1,e3,x0,hcn,rm,sa,bne,Yx,ZO,Za,Zq]
     | false =>
      rw [e4] at x0
      obtain ⟨ns',a',p1,p2,p3,ih⟩:=Zm3 x t u fnm k kd r p w htl c0 hc0 ns hns q (j+1) (a+1) (B - 1) (by omega) (hG.step _ _ (by omega) (by omega)) (by omega)
      refine ⟨ns',a',by omega,by omega,p3,fun ks Bo jj hB hj=>?_⟩
      subst hj
      have ih:=ih ks Bo _ hB rfl
      simp only [scH,Za,List.cons_append,List.nil_append] at ih ⊢
      unfold Zf at hB
      simp -implicitDefEqProofs only [go_sem,simprocAttr,Tryz.f4,Zb] at hB
      subst hB
      rw [Zc]
      simp -implicitDefEqProofs only [go_sem,simprocAttr,d,h7,gc,e1,e3,x0,hcn,bne,Yx,ZO,Za,Zq]
      exact ih
theorem Ztq (x:List Tbl) (t u:Tbl) (fnm:List UInt8) (r p:Int) (htl:t.cols.length≤1000) (hul:u.cols.length≤1000) (hul2:u.key.length≤100) (hK:∀ n∈u.key,n∈u.cols.map (·.nm)):∀ (q j:Nat) (ns:List (List UInt8)) (a B:Int),u.key.length=j+q→Gd L a B→(1000*q:Int)≤B→ns.length≤j →
  ∃ (ns':List (List UInt8)) (a':Int),a≤a'∧a'≤a+1000*q∧ns'.length≤u.key.length∧∀ (ks:List It) (Bo:Code) (jj:Int),Zf Tryz.f4 4 Bo→jj=(j:Int) →
  RL K (.run 4 1 (.code Bo::.lp Bo (some ([0,2,3,5,6,7,34,35,67,68,69],[])) 7::.blk 4 7::ks) [(0,.ptr 0 0),(2,.ptr 1 0),(3,.ptr 2 0),(5,.rptr (Za t) 0),(6,.ptr 4 0),(7,.ptr 5 0),(34,I r),(35,I p),(67,.rows (SLs u.key)),(68,I (u.key.length:Int)),(69,I jj)] (scH L a x u fnm ns)) =
  R K (.run 4 1 ks [(0,.ptr 0 0),(2,.ptr 1 0),(3,.ptr 2 0),(5,.rptr (Za t) 0),(7,.ptr 5 0),(34,I r),(35,I p)] (scH L a' x u fnm ns'))
 | 0,j,ns,a,B,hq,hG,hB',hn=>by
  have d:¬(j:Int) < (u.key.length:Int):=by omega
  refine ⟨ns,a,by omega,by omega,by omega,fun ks Bo jj hB hj=>?_⟩
  subst hj
  unfold Zf at hB
  simp -implicitDefEqProofs only [go_sem,simprocAttr,Tryz.f4,Zb] at hB
  subst hB
  rw [Zc]
  simp -implicitDefEqProofs only [go_sem,simprocAttr,d,Zq,scH,Za]
 | q+1,j,ns,a,B,hq,hG,hB',hn=>by
  have d:(j:Int) < (u.key.length:Int):=by omega
  have h7:=Zs (i:=j) (n:=u.key.length) (by omega) (by omega)
  obtain ⟨k,hk⟩:=Ze (l:=u.key) (i:=j) (by omega)
  have gk:=Wg hk
  have hm:=hK k (List.mem_of_getElem? hk)
  have hnot:¬ixN k (u.cols.map (·.nm)) 0 < 0:=by
   intro h
   rcases J7 k (u.cols.map (·.nm)) 0 with h1 | h1
   ·exact (W2 k (u.cols.map (·.nm)) 0).1 h1 hm
   ·omega
  obtain ⟨b,cc,hb,hcc⟩:=Jb (t:=u) hnot
  have gc:=YR hcc
  have hi:=ZhK (.fn 17 [.ptr 0 0]) (nmH k) k (ZaN k) u.cols (by omega) (ZJt k)
  rw [hb] at hi
  obtain ⟨ns1,a1,p1,p2,p3,e6⟩:=Zm3 (L:=L) x t u fnm k cc.kd r p (j:Int) htl j (by omega) ns hn t.cols.length 0 a B (by omega) hG (by omega)
  obtain ⟨ns',a',q1,q2,q3,ih⟩:=Ztq x t u fnm r p htl hul hul2 hK q (j+1) ns1 a1 (B - 1000) (by omega) (hG.step _ _ (by omega) (by omega)) (by omega) p3
  refine ⟨ns',a',by omega,by omega,q3,fun ks Bo jj hB hj=>?_⟩
  subst hj
  have ih:=ih ks Bo _ hB rfl
  simp only [nmH] at hi
  simp only [ZO] at gc
  simp only [scH,Za,List.cons_append,List.nil_append] at ih e6 ⊢
  unfold Zf at hB
  simp -implicitDefEqProofs only [go_sem,simprocAttr,Tryz.f4,Zb] at hB
  subst hB
  rw [Zc]
  simp -implicitDefEqProofs only [go_sem,simprocAttr,d,h7,gk,gc,hi,ZO,Za,Zq,List.length_map]
  rw [e6 _ _ 0 ?_ rfl]
  ·simp -implicitDefEqProofs only [go_sem,simprocAttr,h7,Zq]
   exact ih
  ·rfl
end
structure SzT (t:Tbl) (m:Nat):Prop where
 nm:t.nm.length≤100
 c1:1≤t.cols.length
 cl:t.cols.length≤6
 cn:∀ c∈t.cols,c.nm.length≤100
 key:t.key.length≤2
 fl:t.fgn.length≤m
 fg:∀ f∈t.fgn,f.nm.length≤100∧f.cols.length≤2
 il:t.idx.length≤m+2
 ix:∀ f∈t.idx,f.nm.length≤100∧f.cols.length≤2
theorem SzT.more {t:Tbl} {m m':Nat} (h:SzT t m) (e:m≤m'):SzT t m':=⟨h.nm,h.c1,h.cl,h.cn,h.key,by have:=h.fl;omega,h.fg,by have:=h.il;omega,h.ix⟩
structure SzX (x:List Tbl) (m:Nat):Prop where
 l1:1≤x.length
 l3:x.length≤3
 tbl:∀ t∈x,SzT t m
theorem SzX.fit {x:List Tbl} {m:Nat} (h:SzX x m) (hm:m≤1000):FitX x:=by
 refine ⟨by have:=h.l3;omega,fun t ht=>?_⟩
 have s:=h.tbl t ht
 exact ⟨by have:=s.nm;omega,by have:=s.cl;omega,by have:=s.key;omega,by have:=s.fl;omega,by have:=s.il;omega,
  fun c hc=>by have:=s.cn c hc;omega,fun f hf=>by have:=s.fg f hf;exact ⟨by omega,by omega⟩,fun f hf=>by have:=s.ix f hf;exact ⟨by omega,by omega⟩⟩
theorem SzX.set {x:List Tbl} {m:Nat} (h:SzX x m) (i:Nat) {t:Tbl} (ht:SzT t m):SzX (x.set i t) m:=by
 refine ⟨by rw [List.length_set];exact h.l1,by rw [List.length_set];exact h.l3,fun u hu=>?_⟩
 rcases List.mem_or_eq_of_mem_set hu with h1 | h1
 ·exact h.tbl u h1
 ·rw [h1];exact ht
theorem SzX.more {x:List Tbl} {m m':Nat} (h:SzX x m) (e:m≤m'):SzX x m':=⟨h.l1,h.l3,fun t ht=>(h.tbl t ht).more e⟩
def Zqp (x:List Tbl):Prop:=∀ t∈x,∀ n∈t.key,n∈t.cols.map (·.nm)
theorem Zvx {t:Tbl} (h:GenT t):SzT t 0:=⟨h.nm,h.cols.pos,h.cols.len,h.cols.nm,h.key,by rw [h.fgn];simp,by rw [h.fgn];simp,by have:=h.idx.1;omega,h.idx.2⟩
theorem Zti (x:List Tbl) (b:Nat) (nm:List UInt8) (cols:List Col) (key:List (List UInt8)) (fgn:List Fgn) (idx:List Idx) :
  (x.map Za).set b [.str nm,.rows (cols.map ZO),.rows (SLs key),.rows (fgn.map Zt),.rows (idx.map ZT)]=(x.set b ⟨nm,cols,key,fgn,idx⟩).map Za:=by
 rw [List.map_set]
 rfl
def ZuT (x:List Tbl):Prop:=∀ t∈x,ZmM t.cols t.idx
structure MadeX (x:List Tbl):Prop where
 sz:SzX x 3
 right:RightX x
 idx:ZuT x
theorem Zku:∀ i j:Fin 3,(Utf8.encode (ZC .i32 (97+(i.val:Int)))).data.toList=(Utf8.encode (ZC .i32 (97+(j.val:Int)))).data.toList→i=j:=by decide
theorem ZkY {n:Nat} {x:List Tbl} (hn:n≤3) (h:Zu4 n x):RightX x:=by
 have e:∀ i,i < x.length→nmA (x.map (·.nm)) i=116::(Utf8.encode (ZC .i32 (97+(i:Int)))).data.toList:=fun i hi=>by
  have:=h.2.2 i x[i] (List.getElem?_eq_getElem hi)
  simpa [nmA,hi] using this
 refine ⟨fun i j hi hj hij=>?_,fun t ht=>⟨fun n hn=>?_,fun f hf=>?_⟩,fun t ht f hf=>?_⟩
 ·rw [e i hi,e j hj] at hij
  have hl:=h.1
  have:=Zku ⟨i,by omega⟩ ⟨j,by omega⟩ (by simpa using hij)
  simpa using this
 ·intro hlt
  rcases J7 n (t.cols.map (·.nm)) 0 with h1 | h1
  ·exact (W2 n (t.cols.map (·.nm)) 0).1 h1 ((h.2.1 t ht).keyIn n hn)
  ·omega
 ·rw [(h.2.1 t ht).fgn] at hf
  simp at hf
 ·rw [(h.2.1 t ht).fgn] at hf
  simp at hf
section
variable {L:List Int}
theorem Zpy (r:Nat) (hr:r≤3):∀ (q j:Nat) (x:List Tbl) (a B:Int),r=j+q→Gd L a B→(10000*q:Int)≤B→SzX x j→Zqp x→RightX x→ZuT x →
  ∃ (x':List Tbl) (a':Int),a≤a'∧a'≤a+10000*q∧MadeX x'∧∀ (ks:List It) (Bo:Code) (jj:Int),Zf Tryz.f4 2 Bo→jj=(j:Int) →
  RL K (.run 4 1 (.code Bo::.lp Bo (some ([0,2,3,34,35],[])) 4::.blk 2 4::ks) [(0,.ptr 0 0),(2,.ptr 1 0),(3,.ptr 2 0),(34,I (r:Int)),(35,I jj)] [.cells [LR L,I a],.cells [.nils],.cells [.rows (x.map Za)],.hole]) =
  R K (.run 4 1 ks [(2,.ptr 1 0),(3,.ptr 2 0)] [.cells [LR L,I a'],.cells [.nils],.cells [.rows (x'.map Za)],.hole])
 | 0,j,x,a,B,hq,hG,hB',hx,hK,hR,hI=>by
  have d:¬(j:Int) < (r:Int):=by omega
  refine ⟨x,a,by omega,by omega,⟨hx.more (by omega),hR,hI⟩,fun ks Bo jj hB hj=>?_⟩
  subst hj
  unfold Zf at hB
  simp -implicitDefEqProofs only [go_sem,simprocAttr,Tryz.f4,Zb] at hB
  subst hB
  rw [Zc]
  simp -implicitDefEqProofs only [go_sem,simprocAttr,d]
 | q+1,j,x,a,B,hq,hG,hB',hx,hK,hR,hI=>by
  have d:(j:Int) < (r:Int):=by omega
  have h7:=Zs (i:=j) (n:=r) (by omega) (by omega)
  have hl1:=hx.l1
  have hl3:=hx.l3
  have x0:=ZN hG (by omega) (x.length:Int)
  have b0:=Zu L a (x.length:Int) (by omega) (by omega)
  obtain ⟨i,hi⟩:∃ k:Nat,Zw L a (x.length:Int)=(k:Int):=⟨(Zw L a (x.length:Int)).toNat,by omega⟩
  rw [hi] at x0 b0
  have G1:=hG.step (a+1) (B - 1) (by omega) (by omega)
  have x1:=ZN G1 (by omega) (x.length:Int)
  have b1:=Zu L (a+1) (x.length:Int) (by omega) (by omega)
  obtain ⟨k,hk⟩:∃ k:Nat,Zw L (a+1) (x.length:Int)=(k:Int):=⟨(Zw L (a+1) (x.length:Int)).toNat,by omega⟩
  rw [hk] at x1 b1
  have G2:=G1.step (a+1+1) (B - 2) (by omega) (by omega)
  obtain ⟨t,ht⟩:=Ze (l:=x) (i:=i) (by omega)
  obtain ⟨u,hu⟩:=Ze (l:=x) (i:=k) (by omega)
  have gt:=ZG ht
  have gu:=ZG hu
  have mt:=List.mem_of_getElem? ht
  have mu:=List.mem_of_getElem? hu
  have st:=hx.tbl t mt
  have su:=hx.tbl u mu
  have tfl:=st.fl
  have tcl:=st.cl
  have ucl:=su.cl
  have uk:=su.key
  obtain ⟨s,es,hsl⟩:=ZfE t.fgn.length (by omega)
  have w1:ZC .i64 (97+(t.fgn.length:Int))=97+(t.fgn.length:Int):=ZV (by omega) (by omega)
  have sm:(1+s.length≤XT)=True:=eq_true (by unfold XT;omega)
  obtain ⟨ns,a1,p1,p2,p3,e4⟩:=Ztq (L:=L) x t u (102::s) (r:Int) (j:Int) (by omega) (by omega) (by omega) (hK u mu) u.key.length 0 [] (a+1+1) (B - 2) (by omega) G2 (by omega) (by simp)
  have G3:=G2.step a1 (B - 5000) (by omega) (by omega)
  have hnot:¬ixN t.nm (x.map (·.nm)) 0 < 0:=by
   intro h
   rcases J7 t.nm (x.map (·.nm)) 0 with h1 | h1
   ·exact (W2 t.nm (x.map (·.nm)) 0).1 h1 (List.mem_map.2 ⟨t,mt,rfl⟩)
   ·omega
  obtain ⟨b,v,hb,hv⟩:=Zcx hnot
  have xt:=Yu x t.nm (by omega)
  rw [hb] at xt
  have mv:=List.mem_of_getElem? hv
  have sv:=hx.tbl v mv
  have gv:=ZG hv
  have gv2:(x.map Za)[b]? = some (Za v):=by simp [hv]
  have cT:=Zkt x hl1 (by omega)
  have hN:SzX (x.set b ⟨v.nm,v.cols,v.key,t.fgn++[⟨102::s,ns,u.nm⟩],v.idx⟩) (j+1):=by
   refine (hx.more (by omega)).set b ⟨sv.nm,sv.c1,sv.cl,sv.cn,sv.key,by simp;omega,fun f hf=>?_,by have:=sv.il;show v.idx.length≤_;omega,sv.ix⟩
   rcases List.mem_append.1 hf with h | h
   ·exact st.fg f h
   ·rw [List.mem_singleton] at h;subst h;exact ⟨by simp;omega,by show ns.length≤2;omega⟩
  have hKN:Zqp (x.set b ⟨v.nm,v.cols,v.key,t.fgn++[⟨102::s,ns,u.nm⟩],v.idx⟩):=by
   intro y hy
   rcases List.mem_or_eq_of_mem_set hy with h1 | h1
   ·exact hK y h1
   ·rw [h1];exact hK v mv
  have hIN:ZuT (x.set b ⟨v.nm,v.cols,v.key,t.fgn++[⟨102::s,ns,u.nm⟩],v.idx⟩):=by
   intro y hy
   rcases List.mem_or_eq_of_mem_set hy with h1 | h1
   ·exact hI y h1
   ·rw [h1];exact hI v mv
  have xF:=ZbD _ (hN.fit (by omega))
  have fa:=Zcy t.fgn ⟨102::s,ns,u.nm⟩
  have se:=Zti x b v.nm v.cols v.key (t.fgn++[⟨102::s,ns,u.nm⟩]) v.idx
  have rm:((t.fgn.length+1)*57≤Zg)=True:=eq_true (by unfold Zg;omega)
  have rm1:(57≤Zg)=True:=eq_true (by unfold Zg;omega)
  have tb:((b:Int).toNat)=b:=Int.toNat_natCast b
  have c1:t.fgn=[]∨1≤t.fgn.length:=by
   cases t.fgn with
   | nil=>exact .inl rfl
   | cons a b=>exact .inr (by simp)
  simp only [Za,Zt] at gt gu gv gv2 fa
  simp only [scH,Za,ZhR,List.length_nil] at e4
  have yl:(x.set b ⟨v.nm,v.cols,v.key,t.fgn++[⟨102::s,ns,u.nm⟩],v.idx⟩).length=x.length:=List.length_set
  generalize (x.set b ⟨v.nm,v.cols,v.key,t.fgn++[⟨102::s,ns,u.nm⟩],v.idx⟩)=y at *
  obtain ⟨x',a',q1,q2,q3,ih⟩:∃ (x':List Tbl) (a':Int),a1≤a'∧a'≤a1+10000*q∧MadeX x'∧∀ (ks:List It) (Bo:Code) (jj:Int),Zf Tryz.f4 2 Bo→jj=((j+1:Nat):Int) →
    RL K (.run 4 1 (.code Bo::.lp Bo (some ([0,2,3,34,35],[])) 4::.blk 2 4::ks) [(0,.ptr 0 0),(2,.ptr 1 0),(3,.ptr 2 0),(34,I (r:Int)),(35,I jj)] [.cells [LR L,I a1],.cells [.nils],.cells [.rows ((if WL y=0 then y else x).map Za)],.hole]) =
    R K (.run 4 1 ks [(2,.ptr 1 0),(3,.ptr 2 0)] [.cells [LR L,I a'],.cells [.nils],.cells [.rows (x'.map Za)],.hole]):=by
   split
   ·rename_i h0
    exact Zpy r hr q (j+1) y a1 (B - 10000) (by omega) (G3.step _ _ (by omega) (by omega)) (by omega) hN hKN (Zdi h0) hIN
   ·exact Zpy r hr q (j+1) x a1 (B - 10000) (by omega) (G3.step _ _ (by omega) (by omega)) (by omega) (hx.more (by omega)) hK hR hI
  refine ⟨x',a',by omega,by omega,q3,fun ks Bo jj hB hj=>?_⟩
  subst hj
  have ih:=ih ks Bo _ hB rfl
  have e0:(WL y==0)=decide (WL y=0):=rfl
  rcases c1 with c1 | c1
  ·have es0:=es
   rw [c1] at es0 se
   rw [show (97+(([]:List Fgn).length:Int))=97 from rfl] at es0
   simp only [List.nil_append,List.map_cons,List.map_nil,Zt] at se
   simp only [c1,List.map_nil] at e4 gt
   by_cases h0:WL y=0
   ·rw [if_pos h0] at ih
    have d0:(WL y==0)=true:=by simpa using h0
    unfold Zf at hB
    simp -implicitDefEqProofs only [go_sem,simprocAttr,Tryz.f4,Zb] at hB
    subst hB
    rw [Zc]
    simp -implicitDefEqProofs only [go_sem,simprocAttr,d,h7,x0,x1,gt,gu,es0,sm,c1,List.length_nil,List.map_nil,Za,Zt,List.length_map,ZA]
    rw [e4 _ _ 0 ?_ rfl]
    ·simp -implicitDefEqProofs only [go_sem,simprocAttr,h7,Za,Zt,cT,xt,JH,c1,List.length_nil,List.map_nil,gv,gv2,se,rm1,d0,xF,tb,yl,Yx,List.length_map,XW,Xb,ZA,Xw,Zq,Nat.zero_add,Nat.one_mul,List.nil_append]
     exact ih
    ·rfl
   ·rw [if_neg h0] at ih
    have d0:(WL y==0)=false:=by simpa using h0
    unfold Zf at hB
    simp -implicitDefEqProofs only [go_sem,simprocAttr,Tryz.f4,Zb] at hB
    subst hB
    rw [Zc]
    simp -implicitDefEqProofs only [go_sem,simprocAttr,d,h7,x0,x1,gt,gu,es0,sm,c1,List.length_nil,List.map_nil,Za,Zt,List.length_map,ZA]
    rw [e4 _ _ 0 ?_ rfl]
    ·simp -implicitDefEqProofs only [go_sem,simprocAttr,h7,Za,Zt,cT,xt,JH,c1,List.length_nil,List.map_nil,gv,gv2,se,rm1,d0,xF,tb,yl,Yx,List.length_map,XW,Xb,ZA,Xw,Zq,Nat.zero_add,Nat.one_mul,List.nil_append]
     exact ih
    ·rfl
  ·have cF:=Zcs t.fgn c1 (by omega)
   by_cases h0:WL y=0
   ·rw [if_pos h0] at ih
    have d0:(WL y==0)=true:=by simpa using h0
    unfold Zf at hB
    simp -implicitDefEqProofs only [go_sem,simprocAttr,Tryz.f4,Zb] at hB
    subst hB
    rw [Zc]
    simp -implicitDefEqProofs only [go_sem,simprocAttr,d,h7,x0,x1,gt,gu,es,w1,sm,Za,Zt,List.length_map,ZA]
    rw [e4 _ _ 0 ?_ rfl]
    ·simp -implicitDefEqProofs only [go_sem,simprocAttr,h7,Za,Zt,cT,xt,cF,gv,gv2,fa,se,rm,d0,xF,tb,yl,Yx,List.length_map,XW,Xb,ZA,Xw,Zq]
     exact ih
    ·rfl
   ·rw [if_neg h0] at ih
    have d0:(WL y==0)=false:=by simpa using h0
    unfold Zf at hB
    simp -implicitDefEqProofs only [go_sem,simprocAttr,Tryz.f4,Zb] at hB
    subst hB
    rw [Zc]
    simp -implicitDefEqProofs only [go_sem,simprocAttr,d,h7,x0,x1,gt,gu,es,w1,sm,Za,Zt,List.length_map,ZA]
    rw [e4 _ _ 0 ?_ rfl]
    ·simp -implicitDefEqProofs only [go_sem,simprocAttr,h7,Za,Zt,cT,xt,cF,gv,gv2,fa,se,rm,d0,xF,tb,yl,Yx,List.length_map,XW,Xb,ZA,Xw,Zq]
     exact ih
    ·rfl
theorem ZoG {a B:Int} (h:Gd L a B) (hB:50000≤B):∃ (x:List Tbl) (a':Int),R K (.call 4 [.ptr 0 0] (St L a))=some (WI x,St L a')∧a≤a'∧a'≤a+50000∧MadeX x:=by
 have x0:=W1 h (by omega) 1 3 (by omega) (by omega) (by omega)
 have b0:=X1 L a 1 3 (by omega) (by omega)
 obtain ⟨n,hn⟩:∃ k:Nat,Q1 L a 1 3=(k:Int):=⟨(Q1 L a 1 3).toNat,by omega⟩
 rw [hn] at x0 b0
 have h1:=h.step (a+1) (B - 1) (by omega) (by omega)
 obtain ⟨x,a1,p1,p2,p3,e0⟩:=ZtQ (L:=L) n (by omega) n 0 [] (a+1) (B - 1) (by omega) h1 (by omega) ⟨rfl,by simp,by simp⟩
 have h2:=h1.step a1 (B - 1000) (by omega) (by omega)
 have x1:=ZN h2 (by omega) 4
 have b1:=Zu L a1 4 (by omega) (by omega)
 obtain ⟨r,hr⟩:∃ k:Nat,Zw L a1 4=(k:Int):=⟨(Zw L a1 4).toNat,by omega⟩
 rw [hr] at x1 b1
 have h3:=h2.step (a1+1) (B - 1001) (by omega) (by omega)
 have hxl:=p3.1
 obtain ⟨x',a',q1,q2,q3,e2⟩:=Zpy (L:=L) r (by omega) r 0 x (a1+1) (B - 1001) (by omega) h3 (by omega) ⟨by omega,by omega,fun t ht=>Zvx (p3.2.1 t ht)⟩ (fun t ht=>(p3.2.1 t ht).keyIn) (ZkY (by omega) p3) (fun t ht=>(p3.2.1 t ht).idxIn)
 refine ⟨x',a',?_,by omega,by omega,q3⟩
 simp only [List.length_nil,List.map_nil] at e0
 rw [Zv6]
 simp -implicitDefEqProofs only [go_sem,simprocAttr,Tryz.f4,x0]
 rw [e0 _ _ 0 ?_ rfl]
 ·simp -implicitDefEqProofs only [go_sem,simprocAttr,x1,ZA,List.length_map]
  rw [e2 _ _ 0 ?_ rfl]
  ·simp -implicitDefEqProofs only [go_sem,simprocAttr]
  ·rfl
 ·rfl
end
theorem ZgM {f:List AV→Option (List AV)} (hf:∀ u:Tbl,f (Za u)=some (Za u)):∀ x:List Tbl,ZZ f (x.map Za)=some (x.map Za)
 | []=>rfl
 | v::x=>by
  simp only [List.map_cons,ZZ,hf]
  rw [ZgM hf x]
  simp [Za,Zk,Zm,Zl,ZB]
theorem Zfc {f:List AV→Option (List AV)} {RO:List AV} {t:Tbl} (hf:∀ u:Tbl,f (Za u)=some (Za u)) (hR:f RO=some (Za t)) (hl:RO.length=5):∀ (x:List Tbl) (i:Nat),i < x.length→ZZ f ((x.map Za).set i RO)=some ((x.set i t).map Za)
 | [],i,h=>by simp at h
 | u::x,0,_=>by
  simp only [List.map_cons,List.set_cons_zero,ZZ,hR,ZgM hf x]
  rw [if_pos ⟨rfl,by rw [hl];rfl,rfl⟩]
 | u::x,i+1,h=>by
  have ih:=Zfc hf hR hl x i (by simpa using h)
  simp only [List.map_cons,List.set_cons_succ,ZZ,hf]
  rw [ih]
  simp [Za,Zk,Zm,Zl,ZB]
theorem Zi2 {RO:List AV} {l:Nat} (hl:l∈Zk RO):∀ (x:List Tbl) (i:Nat),i < x.length→ZL ((x.map Za).set i RO)≠[]
 | [],i,h=>by simp at h
 | u::x,0,_=>by
  intro e
  simp only [List.map_cons,List.set_cons_zero,ZL,List.append_eq_nil_iff] at e
  rw [e.1] at hl
  simp at hl
 | u::x,i+1,h=>by
  intro e
  simp only [List.map_cons,List.set_cons_succ,ZL,List.append_eq_nil_iff] at e
  exact Zi2 hl x i (by simpa using h) e.2
theorem Znx (x:List Tbl) (i:Nat) (hi:i < x.length) (nm:List UInt8) (cols:List Col) (key:List (List UInt8)) (fgn:List Fgn) (idx:List Idx) (h:Zd) (h4:h[4]? = some (.rows 6 (cols.map ZO) true)) :
  (if ZL ((x.map Za).set i [.str nm,.own 4 cols.length,.rows (SLs key),.rows (fgn.map Zt),.rows (idx.map ZT)])=[] then some ((x.map Za).set i [.str nm,.own 4 cols.length,.rows (SLs key),.rows (fgn.map Zt),.rows (idx.map ZT)]) else ZZ (Z7 (Xu (ZZ (Z7 (Xu fun _=>none) false 1 h))) false 1 h) ((x.map Za).set i [.str nm,.own 4 cols.length,.rows (SLs key),.rows (fgn.map Zt),.rows (idx.map ZT)])) =
  some ((x.set i ⟨nm,cols,key,fgn,idx⟩).map Za):=by
 rw [if_neg (Zi2 (l:=4) (by simp [Zk,Zm]) x i hi)]
 refine Zfc (f:=Z7 (Xu (ZZ (Z7 (Xu fun _=>none) false 1 h))) false 1 h) (RO:=[.str nm,.own 4 cols.length,.rows (SLs key),.rows (fgn.map Zt),.rows (idx.map ZT)]) (fun u=>rfl) ?_ rfl x i hi
 simp only [Z7,Yf,h4,List.length_map,Xu,Zy,if_true,Za]
 simp
theorem XR {α:Type} (a:α) (l:List α):at? (a::l) 0=some a:=rfl
theorem XV {α:Type} (a b:α) (l:List α):at? (a::b::l) 1=some b:=rfl
theorem XS {α:Type} (a b c:α) (l:List α):at? (a::b::c::l) 2=some c:=rfl
theorem XY {α:Type} (a b c d:α) (l:List α):at? (a::b::c::d::l) 3=some d:=rfl
theorem ZcH (l:List Col) (j:Nat) (c:Col):(l.map ZO).set j [.str c.nm,.int .i64 c.kd,.bool c.nl,.int .i64 c.df.k,.int .i64 c.df.n,.str c.df.s]=(l.set j c).map ZO:=by
 rw [List.map_set]
 rfl
section
variable {L:List Int} {a B:Int}
set_option maxHeartbeats 4000000 in
theorem Zow (h:Gd L a B) (hB:1000≤B) (x:List Tbl) (m:Nat) (hm:m≤100) (hx:SzX x m):∃ (x':List Tbl) (a':Int),R K (.call 9 [.ptr 0 0,WI x] (St L a))=some (WI x',St L a')∧a≤a'∧a'≤a+1000∧SzX x' (m+1):=by
 have h1:=hx.l1
 have hl3:=hx.l3
 have cT:=Zkt x h1 (by omega)
 have x0:=ZN h (by omega) (x.length:Int)
 have b0:=Zu L a (x.length:Int) (by omega) (by omega)
 obtain ⟨i,hi⟩:∃ k:Nat,Zw L a (x.length:Int)=(k:Int):=⟨(Zw L a (x.length:Int)).toNat,by omega⟩
 rw [hi] at x0 b0
 have hil:i < x.length:=by omega
 obtain ⟨t,ht⟩:=Ze (l:=x) (i:=i) (by omega)
 have st:=hx.tbl t (List.mem_of_getElem? ht)
 have gt:=ZG ht
 have gt2:(x.map Za)[i]? = some (Za t):=by simp [ht]
 have h2:=h.step (a+1) (B - 1) (by omega) (by omega)
 have x1:=ZN h2 (by omega) 8
 have b1:=Zu L (a+1) 8 (by omega) (by omega)
 have h3:=h2.step (a+1+1) (B - 2) (by omega) (by omega)
 have z:((x.length:Int)==0)=false:=by rw [←Bool.not_eq_true,beq_iff_eq];omega
 have tc1:=st.c1
 have tcl:=st.cl
 have cC:=ZqV t.cols tc1 (by omega)
 have gs:∀ R,((x.map Za).set i R)[i]? = some R:=fun R=>by rw [List.getElem?_set_self (by rw [List.length_map];exact hil)]
 have ss:∀ R R',((x.map Za).set i R).set i R'=(x.map Za).set i R':=fun R R'=>List.set_set ..
 have ls:∀ R,((x.map Za).set i R).length=x.length:=fun R=>by rw [List.length_set,List.length_map]
 have lv:=Znx x i hil
 have SZ:∀ t',SzT t' (m+1)→SzX (x.set i t') (m+1):=fun t' ht'=>(hx.more (by omega)).set i ht'
 have s2:=st.more (Nat.le_succ m)
 simp only [Za] at gt gt2
 generalize Zw L (a+1) 8=c at *
 have c8:c=0∨c=1∨c=2∨c=3∨c=4∨c=5∨c=6∨c=7:=by omega
 rcases c8 with rfl | rfl | rfl | rfl | rfl | rfl | rfl | rfl
 ·have x2:=ZN h3 (by omega) 6
  obtain ⟨s,hs,hg⟩:=ZaP (l:=[[],[116,97],[116,98],[84],[116,95],[95,116]]) (Zu L (a+1+1) 6 (by omega) (by omega))
  have hsl:s.length≤5:=(by decide:∀ x∈([[],[116,97],[116,98],[84],[116,95],[95,116]]:List (List UInt8)),x.length≤5) s hs
  simp only [List.map] at hg
  refine ⟨x.set i ⟨s,t.cols,t.key,t.fgn,t.idx⟩,a+1+1+1,?_,by omega,by omega,SZ _ ⟨by show s.length≤100;omega,s2.c1,s2.cl,s2.cn,s2.key,s2.fl,s2.fg,s2.il,s2.ix⟩⟩
  rw [YZ]
  simp -implicitDefEqProofs only [go_sem,simprocAttr,Tryz.f9,z,cT,x0,x1,x2,hg,gt,gt2,gs,ss,ls,lv,cC,Za,Int.toNat_natCast,List.length_map,ZA,Zy,true_or,XR,XV,XS,XY]
 ·have x2:=ZN h3 (by omega) 4
  have b2:=Zu L (a+1+1) 4 (by omega) (by omega)
  generalize Zw L (a+1+1) 4=d at *
  have d4:d=0∨d=1∨d=2∨d=3:=by omega
  rcases d4 with rfl | rfl | rfl | rfl
  ·refine ⟨x.set i ⟨t.nm,t.cols,[],t.fgn,t.idx⟩,a+1+1+1,?_,by omega,by omega,SZ _ ⟨s2.nm,s2.c1,s2.cl,s2.cn,by simp,s2.fl,s2.fg,s2.il,s2.ix⟩⟩
   have lv:=lv t.nm t.cols [] t.fgn t.idx
   rw [ZhR] at lv
   rw [YZ]
   simp -implicitDefEqProofs only [go_sem,simprocAttr,Tryz.f9,z,cT,x0,x1,x2,gt,gt2,gs,ss,ls,lv,cC,Za,Int.toNat_natCast,List.length_map,ZA,Zy,true_or,XR,XV,XS,XY]
  ·refine ⟨x.set i ⟨t.nm,t.cols,[[105,100],[105,100]],t.fgn,t.idx⟩,a+1+1+1,?_,by omega,by omega,SZ _ ⟨s2.nm,s2.c1,s2.cl,s2.cn,by simp,s2.fl,s2.fg,s2.il,s2.ix⟩⟩
   have lv:=lv t.nm t.cols [[105,100],[105,100]] t.fgn t.idx
   simp only [SLs,List.map_cons,List.map_nil] at lv
   rw [YZ]
   simp -implicitDefEqProofs only [go_sem,simprocAttr,Tryz.f9,z,cT,x0,x1,x2,gt,gt2,gs,ss,ls,lv,cC,Za,Int.toNat_natCast,List.length_map,ZA,Zy,true_or,XR,XV,XS,XY]
  ·refine ⟨x.set i ⟨t.nm,t.cols,[[122,122]],t.fgn,t.idx⟩,a+1+1+1,?_,by omega,by omega,SZ _ ⟨s2.nm,s2.c1,s2.cl,s2.cn,by simp,s2.fl,s2.fg,s2.il,s2.ix⟩⟩
   have lv:=lv t.nm t.cols [[122,122]] t.fgn t.idx
   simp only [SLs,List.map_cons,List.map_nil] at lv
   rw [YZ]
   simp -implicitDefEqProofs only [go_sem,simprocAttr,Tryz.f9,z,cT,x0,x1,x2,gt,gt2,gs,ss,ls,lv,cC,Za,Int.toNat_natCast,List.length_map,ZA,Zy,true_or,XR,XV,XS,XY]
  ·refine ⟨x.set i ⟨t.nm,t.cols,[[99,97]],t.fgn,t.idx⟩,a+1+1+1,?_,by omega,by omega,SZ _ ⟨s2.nm,s2.c1,s2.cl,s2.cn,by simp,s2.fl,s2.fg,s2.il,s2.ix⟩⟩
   have lv:=lv t.nm t.cols [[99,97]] t.fgn t.idx
   simp only [SLs,List.map_cons,List.map_nil] at lv
   rw [YZ]
   simp -implicitDefEqProofs only [go_sem,simprocAttr,Tryz.f9,z,cT,x0,x1,x2,gt,gt2,gs,ss,ls,lv,cC,Za,Int.toNat_natCast,List.length_map,ZA,Zy,true_or,XR,XV,XS,XY]
 ·have x2:=ZN h3 (by omega) (t.cols.length:Int)
  have b2:=Zu L (a+1+1) (t.cols.length:Int) (by omega) (by omega)
  obtain ⟨j,hj⟩:∃ k:Nat,Zw L (a+1+1) (t.cols.length:Int)=(k:Int):=⟨(Zw L (a+1+1) (t.cols.length:Int)).toNat,by omega⟩
  rw [hj] at x2 b2
  have h4:=h3.step (a+1+1+1) (B - 3) (by omega) (by omega)
  have x3:=W1 h4 (by omega) (-1) 5 (by omega) (by omega) (by omega)
  obtain ⟨e,he⟩:=Ze (l:=t.cols) (i:=j) (by omega)
  have ge:=YR he
  have ge2:(t.cols.map ZO)[j]? = some (ZO e):=by simp [he]
  generalize Q1 L (a+1+1+1) (-1) 5=kd at *
  have cs:=ZcH t.cols j { e with kd:=kd }
  have lv:=lv t.nm (t.cols.set j { e with kd:=kd }) t.key t.fgn t.idx
  simp only [List.length_set] at lv
  have me:=List.mem_of_getElem? he
  simp only [ZO] at ge ge2 cs
  refine ⟨x.set i ⟨t.nm,t.cols.set j { e with kd:=kd },t.key,t.fgn,t.idx⟩,a+1+1+1+1,?_,by omega,by omega,SZ _ ⟨s2.nm,by rw [List.length_set];exact s2.c1,by rw [List.length_set];exact s2.cl,fun c hc=>by
   rcases List.mem_or_eq_of_mem_set hc with h1 | h1
   ·exact s2.cn c h1
   ·rw [h1];exact s2.cn e me,s2.key,s2.fl,s2.fg,s2.il,s2.ix⟩⟩
  rw [YZ]
  simp -implicitDefEqProofs only [go_sem,simprocAttr,Tryz.f9,z,cT,x0,x1,x2,x3,ge,ge2,cs,gt,gt2,gs,ss,ls,lv,cC,Za,ZO,Int.toNat_natCast,List.length_map,ZA,Zy,true_or,XR,XV,XS,XY]
 ·have x2:=ZN h3 (by omega) (t.cols.length:Int)
  have b2:=Zu L (a+1+1) (t.cols.length:Int) (by omega) (by omega)
  obtain ⟨j,hj⟩:∃ k:Nat,Zw L (a+1+1) (t.cols.length:Int)=(k:Int):=⟨(Zw L (a+1+1) (t.cols.length:Int)).toNat,by omega⟩
  rw [hj] at x2 b2
  have h4:=h3.step (a+1+1+1) (B - 3) (by omega) (by omega)
  obtain ⟨e,he⟩:=Ze (l:=t.cols) (i:=j) (by omega)
  have ge:=YR he
  have ge2:(t.cols.map ZO)[j]? = some (ZO e):=by simp [he]
  have me:=List.mem_of_getElem? he
  have x3:=ZN h4 (by omega) 4
  obtain ⟨s,hs,hg⟩:=ZaP (l:=[[],[105,100],[99,97],[65]]) (Zu L (a+1+1+1) 4 (by omega) (by omega))
  have hsl:s.length≤5:=(by decide:∀ x∈([[],[105,100],[99,97],[65]]:List (List UInt8)),x.length≤5) s hs
  simp only [List.map] at hg
  have cs:=ZcH t.cols j { e with nm:=s }
  have lv:=lv t.nm (t.cols.set j { e with nm:=s }) t.key t.fgn t.idx
  simp only [List.length_set] at lv
  simp only [ZO] at ge ge2 cs
  refine ⟨x.set i ⟨t.nm,t.cols.set j { e with nm:=s },t.key,t.fgn,t.idx⟩,a+1+1+1+1,?_,by omega,by omega,SZ _ ⟨s2.nm,by rw [List.length_set];exact s2.c1,by rw [List.length_set];exact s2.cl,fun c hc=>by
   rcases List.mem_or_eq_of_mem_set hc with h1 | h1
   ·exact s2.cn c h1
   ·rw [h1];show s.length≤100;omega,s2.key,s2.fl,s2.fg,s2.il,s2.ix⟩⟩
  rw [YZ]
  simp -implicitDefEqProofs only [go_sem,simprocAttr,Tryz.f9,z,cT,x0,x1,x2,x3,hg,ge,ge2,cs,gt,gt2,gs,ss,ls,lv,cC,Za,ZO,Int.toNat_natCast,List.length_map,ZA,Zy,true_or,XR,XV,XS,XY]
 ·obtain ⟨e,he⟩:=Ze (l:=t.cols) (i:=0) (by omega)
  have ge:=YR he
  have ge2:(t.cols.map ZO)[0]? = some (ZO e):=by simp [he]
  have me:=List.mem_of_getElem? he
  have cs:=ZcH t.cols 0 { e with nl:=true }
  have lv:=lv t.nm (t.cols.set 0 { e with nl:=true }) t.key t.fgn t.idx
  simp only [List.length_set] at lv
  have z0:at? (t.cols.map ZO) 0=some (ZO e):=ge
  simp only [ZO] at z0 ge2 cs
  refine ⟨x.set i ⟨t.nm,t.cols.set 0 { e with nl:=true },t.key,t.fgn,t.idx⟩,a+1+1,?_,by omega,by omega,SZ _ ⟨s2.nm,by rw [List.length_set];exact s2.c1,by rw [List.length_set];exact s2.cl,fun c hc=>by
   rcases List.mem_or_eq_of_mem_set hc with h1 | h1
   ·exact s2.cn c h1
   ·rw [h1];exact s2.cn e me,s2.key,s2.fl,s2.fg,s2.il,s2.ix⟩⟩
  rw [YZ]
  simp -implicitDefEqProofs only [go_sem,simprocAttr,Tryz.f9,z,cT,x0,x1,z0,ge2,cs,gt,gt2,gs,ss,ls,lv,cC,Za,ZO,Int.toNat_natCast,List.length_map,ZA,Zy,true_or,XR,XV,XS,XY]
 ·have c1:t.idx=[]∨1≤t.idx.length:=by
   cases t.idx with
   | nil=>exact .inl rfl
   | cons a b=>exact .inr (by simp)
  have til:=st.il
  have rm:((t.idx.length+1)*49≤Zg)=True:=eq_true (by unfold Zg;omega)
  have rm1:(49≤Zg)=True:=eq_true (by unfold Zg;omega)
  have x2:=ZN h3 (by omega) 3
  obtain ⟨s,hs,hg⟩:=ZaP (l:=[[105,97],[122],[65]]) (Zu L (a+1+1) 3 (by omega) (by omega))
  have hsl:s.length≤5:=(by decide:∀ x∈([[105,97],[122],[65]]:List (List UInt8)),x.length≤5) s hs
  simp only [List.map] at hg
  have h4:=h3.step (a+1+1+1) (B - 3) (by omega) (by omega)
  have x3:=ZN h4 (by omega) 4
  have b3:=Zu L (a+1+1+1) 4 (by omega) (by omega)
  generalize Zw L (a+1+1+1) 4=d at *
  generalize Zw L (a+1+1) 3=d0 at *
  have d4:d=0∨d=1∨d=2∨d=3:=by omega
  have key:∀ ns:List (List UInt8),ns.length≤2→SzX (x.set i ⟨t.nm,t.cols,t.key,t.fgn,t.idx++[⟨s,ns,false⟩]⟩) (m+1):=fun ns hn=>SZ _ ⟨s2.nm,s2.c1,s2.cl,s2.cn,s2.key,s2.fl,s2.fg,by show (t.idx++_).length≤_;simp;omega,fun f hf=>by
   rcases List.mem_append.1 hf with h | h
   ·exact s2.ix f h
   ·rw [List.mem_singleton] at h;subst h;exact ⟨by show s.length≤100;omega,hn⟩⟩
  rcases d4 with rfl | rfl | rfl | rfl
  ·refine ⟨x.set i ⟨t.nm,t.cols,t.key,t.fgn,t.idx++[⟨s,[],false⟩]⟩,a+1+1+1+1,?_,by omega,by omega,key _ (by simp)⟩
   have lv:=lv t.nm t.cols t.key t.fgn (t.idx++[⟨s,[],false⟩])
   have ia:=ZcL t.idx ⟨s,[],false⟩
   simp only [ZT,SLs,List.map_cons,List.map_nil] at ia
   rcases c1 with c1 | c1
   ·rw [c1] at lv
    simp only [List.nil_append,List.map_cons,List.map_nil,ZT,SLs] at lv
    simp only [c1,List.map_nil] at gt gt2
    simp only [c1]
    rw [YZ]
    simp -implicitDefEqProofs only [go_sem,simprocAttr,Tryz.f9,z,cT,x0,x1,x2,x3,hg,rm1,Zbj,c1,gt,gt2,gs,ss,ls,lv,cC,Za,ZT,Int.toNat_natCast,List.length_map,List.map_nil,List.length_nil,List.nil_append,Nat.zero_add,Nat.one_mul,ZA,Zy,true_or,XR,XV,XS,XY]
   ·have cI:=Zb8 t.idx c1 (by omega)
    rw [YZ]
    simp -implicitDefEqProofs only [go_sem,simprocAttr,Tryz.f9,z,cT,x0,x1,x2,x3,hg,rm,cI,ia,gt,gt2,gs,ss,ls,lv,cC,Za,ZT,Int.toNat_natCast,List.length_map,ZA,Zy,YJ,Wn,true_or,XR,XV,XS,XY]
  ·refine ⟨x.set i ⟨t.nm,t.cols,t.key,t.fgn,t.idx++[⟨s,[[105,100]],false⟩]⟩,a+1+1+1+1,?_,by omega,by omega,key _ (by simp)⟩
   have lv:=lv t.nm t.cols t.key t.fgn (t.idx++[⟨s,[[105,100]],false⟩])
   have ia:=ZcL t.idx ⟨s,[[105,100]],false⟩
   simp only [ZT,SLs,List.map_cons,List.map_nil] at ia
   rcases c1 with c1 | c1
   ·rw [c1] at lv
    simp only [List.nil_append,List.map_cons,List.map_nil,ZT,SLs] at lv
    simp only [c1,List.map_nil] at gt gt2
    simp only [c1]
    rw [YZ]
    simp -implicitDefEqProofs only [go_sem,simprocAttr,Tryz.f9,z,cT,x0,x1,x2,x3,hg,rm1,Zbj,c1,gt,gt2,gs,ss,ls,lv,cC,Za,ZT,Int.toNat_natCast,List.length_map,List.map_nil,List.length_nil,List.nil_append,Nat.zero_add,Nat.one_mul,ZA,Zy,true_or,XR,XV,XS,XY]
   ·have cI:=Zb8 t.idx c1 (by omega)
    rw [YZ]
    simp -implicitDefEqProofs only [go_sem,simprocAttr,Tryz.f9,z,cT,x0,x1,x2,x3,hg,rm,cI,ia,gt,gt2,gs,ss,ls,lv,cC,Za,ZT,Int.toNat_natCast,List.length_map,ZA,Zy,YJ,Wn,true_or,XR,XV,XS,XY]
  ·refine ⟨x.set i ⟨t.nm,t.cols,t.key,t.fgn,t.idx++[⟨s,[[122,122]],false⟩]⟩,a+1+1+1+1,?_,by omega,by omega,key _ (by simp)⟩
   have lv:=lv t.nm t.cols t.key t.fgn (t.idx++[⟨s,[[122,122]],false⟩])
   have ia:=ZcL t.idx ⟨s,[[122,122]],false⟩
   simp only [ZT,SLs,List.map_cons,List.map_nil] at ia
   rcases c1 with c1 | c1
   ·rw [c1] at lv
    simp only [List.nil_append,List.map_cons,List.map_nil,ZT,SLs] at lv
    simp only [c1,List.map_nil] at gt gt2
    simp only [c1]
    rw [YZ]
    simp -implicitDefEqProofs only [go_sem,simprocAttr,Tryz.f9,z,cT,x0,x1,x2,x3,hg,rm1,Zbj,c1,gt,gt2,gs,ss,ls,lv,cC,Za,ZT,Int.toNat_natCast,List.length_map,List.map_nil,List.length_nil,List.nil_append,Nat.zero_add,Nat.one_mul,ZA,Zy,true_or,XR,XV,XS,XY]
   ·have cI:=Zb8 t.idx c1 (by omega)
    rw [YZ]
    simp -implicitDefEqProofs only [go_sem,simprocAttr,Tryz.f9,z,cT,x0,x1,x2,x3,hg,rm,cI,ia,gt,gt2,gs,ss,ls,lv,cC,Za,ZT,Int.toNat_natCast,List.length_map,ZA,Zy,YJ,Wn,true_or,XR,XV,XS,XY]
  ·refine ⟨x.set i ⟨t.nm,t.cols,t.key,t.fgn,t.idx++[⟨s,[[105,100],[105,100]],false⟩]⟩,a+1+1+1+1,?_,by omega,by omega,key _ (by simp)⟩
   have lv:=lv t.nm t.cols t.key t.fgn (t.idx++[⟨s,[[105,100],[105,100]],false⟩])
   have ia:=ZcL t.idx ⟨s,[[105,100],[105,100]],false⟩
   simp only [ZT,SLs,List.map_cons,List.map_nil] at ia
   rcases c1 with c1 | c1
   ·rw [c1] at lv
    simp only [List.nil_append,List.map_cons,List.map_nil,ZT,SLs] at lv
    simp only [c1,List.map_nil] at gt gt2
    simp only [c1]
    rw [YZ]
    simp -implicitDefEqProofs only [go_sem,simprocAttr,Tryz.f9,z,cT,x0,x1,x2,x3,hg,rm1,Zbj,c1,gt,gt2,gs,ss,ls,lv,cC,Za,ZT,Int.toNat_natCast,List.length_map,List.map_nil,List.length_nil,List.nil_append,Nat.zero_add,Nat.one_mul,ZA,Zy,true_or,XR,XV,XS,XY]
   ·have cI:=Zb8 t.idx c1 (by omega)
    rw [YZ]
    simp -implicitDefEqProofs only [go_sem,simprocAttr,Tryz.f9,z,cT,x0,x1,x2,x3,hg,rm,cI,ia,gt,gt2,gs,ss,ls,lv,cC,Za,ZT,Int.toNat_natCast,List.length_map,ZA,Zy,YJ,Wn,true_or,XR,XV,XS,XY]
 ·have c1:t.fgn=[]∨1≤t.fgn.length:=by
   cases t.fgn with
   | nil=>exact .inl rfl
   | cons a b=>exact .inr (by simp)
  have til:=st.fl
  have rm:((t.fgn.length+1)*57≤Zg)=True:=eq_true (by unfold Zg;omega)
  have rm1:(57≤Zg)=True:=eq_true (by unfold Zg;omega)
  have x2:=ZN h3 (by omega) 2
  obtain ⟨s,hs,hg⟩:=ZaP (l:=[[102,97],[122]]) (Zu L (a+1+1) 2 (by omega) (by omega))
  have hsl:s.length≤5:=(by decide:∀ x∈([[102,97],[122]]:List (List UInt8)),x.length≤5) s hs
  simp only [List.map] at hg
  have h4:=h3.step (a+1+1+1) (B - 3) (by omega) (by omega)
  have x3:=ZN h4 (by omega) 2
  obtain ⟨s',hs',hg'⟩:=ZaP (l:=[[116,97],[122,122]]) (Zu L (a+1+1+1) 2 (by omega) (by omega))
  simp only [List.map] at hg'
  have h5:=h4.step (a+1+1+1+1) (B - 4) (by omega) (by omega)
  have x4:=ZN h5 (by omega) 3
  have b4:=Zu L (a+1+1+1+1) 3 (by omega) (by omega)
  generalize Zw L (a+1+1+1+1) 3=d at *
  generalize Zw L (a+1+1+1) 2=d1 at *
  generalize Zw L (a+1+1) 2=d0 at *
  have d4:d=0∨d=1∨d=2:=by omega
  have key:∀ ns:List (List UInt8),ns.length≤2→SzX (x.set i ⟨t.nm,t.cols,t.key,t.fgn++[⟨s,ns,s'⟩],t.idx⟩) (m+1):=fun ns hn=>SZ _ ⟨s2.nm,s2.c1,s2.cl,s2.cn,s2.key,by show (t.fgn++_).length≤_;simp;omega,fun f hf=>by
   rcases List.mem_append.1 hf with h | h
   ·exact s2.fg f h
   ·rw [List.mem_singleton] at h;subst h;exact ⟨by show s.length≤100;omega,hn⟩,s2.il,s2.ix⟩
  rcases d4 with rfl | rfl | rfl
  ·refine ⟨x.set i ⟨t.nm,t.cols,t.key,t.fgn++[⟨s,[],s'⟩],t.idx⟩,a+1+1+1+1+1,?_,by omega,by omega,key _ (by simp)⟩
   have lv:=lv t.nm t.cols t.key (t.fgn++[⟨s,[],s'⟩]) t.idx
   have ia:=Zcy t.fgn ⟨s,[],s'⟩
   simp only [Zt,SLs,List.map_cons,List.map_nil] at ia
   rcases c1 with c1 | c1
   ·rw [c1] at lv
    simp only [List.nil_append,List.map_cons,List.map_nil,Zt,SLs] at lv
    simp only [c1,List.map_nil] at gt gt2
    simp only [c1]
    rw [YZ]
    simp -implicitDefEqProofs only [go_sem,simprocAttr,Tryz.f9,z,cT,x0,x1,x2,x3,x4,hg,hg',rm1,JH,c1,gt,gt2,gs,ss,ls,lv,cC,Za,Zt,Int.toNat_natCast,List.length_map,List.map_nil,List.length_nil,List.nil_append,Nat.zero_add,Nat.one_mul,ZA,Zy,true_or,XR,XV,XS,XY]
   ·have cF:=Zcs t.fgn c1 (by omega)
    rw [YZ]
    simp -implicitDefEqProofs only [go_sem,simprocAttr,Tryz.f9,z,cT,x0,x1,x2,x3,x4,hg,hg',rm,cF,ia,gt,gt2,gs,ss,ls,lv,cC,Za,Zt,Int.toNat_natCast,List.length_map,ZA,Zy,Xw,Xb,true_or,XR,XV,XS,XY]
  ·refine ⟨x.set i ⟨t.nm,t.cols,t.key,t.fgn++[⟨s,[[105,100]],s'⟩],t.idx⟩,a+1+1+1+1+1,?_,by omega,by omega,key _ (by simp)⟩
   have lv:=lv t.nm t.cols t.key (t.fgn++[⟨s,[[105,100]],s'⟩]) t.idx
   have ia:=Zcy t.fgn ⟨s,[[105,100]],s'⟩
   simp only [Zt,SLs,List.map_cons,List.map_nil] at ia
   rcases c1 with c1 | c1
   ·rw [c1] at lv
    simp only [List.nil_append,List.map_cons,List.map_nil,Zt,SLs] at lv
    simp only [c1,List.map_nil] at gt gt2
    simp only [c1]
    rw [YZ]
    simp -implicitDefEqProofs only [go_sem,simprocAttr,Tryz.f9,z,cT,x0,x1,x2,x3,x4,hg,hg',rm1,JH,c1,gt,gt2,gs,ss,ls,lv,cC,Za,Zt,Int.toNat_natCast,List.length_map,List.map_nil,List.length_nil,List.nil_append,Nat.zero_add,Nat.one_mul,ZA,Zy,true_or,XR,XV,XS,XY]
   ·have cF:=Zcs t.fgn c1 (by omega)
    rw [YZ]
    simp -implicitDefEqProofs only [go_sem,simprocAttr,Tryz.f9,z,cT,x0,x1,x2,x3,x4,hg,hg',rm,cF,ia,gt,gt2,gs,ss,ls,lv,cC,Za,Zt,Int.toNat_natCast,List.length_map,ZA,Zy,Xw,Xb,true_or,XR,XV,XS,XY]
  ·refine ⟨x.set i ⟨t.nm,t.cols,t.key,t.fgn++[⟨s,[[99,97]],s'⟩],t.idx⟩,a+1+1+1+1+1,?_,by omega,by omega,key _ (by simp)⟩
   have lv:=lv t.nm t.cols t.key (t.fgn++[⟨s,[[99,97]],s'⟩]) t.idx
   have ia:=Zcy t.fgn ⟨s,[[99,97]],s'⟩
   simp only [Zt,SLs,List.map_cons,List.map_nil] at ia
   rcases c1 with c1 | c1
   ·rw [c1] at lv
    simp only [List.nil_append,List.map_cons,List.map_nil,Zt,SLs] at lv
    simp only [c1,List.map_nil] at gt gt2
    simp only [c1]
    rw [YZ]
    simp -implicitDefEqProofs only [go_sem,simprocAttr,Tryz.f9,z,cT,x0,x1,x2,x3,x4,hg,hg',rm1,JH,c1,gt,gt2,gs,ss,ls,lv,cC,Za,Zt,Int.toNat_natCast,List.length_map,List.map_nil,List.length_nil,List.nil_append,Nat.zero_add,Nat.one_mul,ZA,Zy,true_or,XR,XV,XS,XY]
   ·have cF:=Zcs t.fgn c1 (by omega)
    rw [YZ]
    simp -implicitDefEqProofs only [go_sem,simprocAttr,Tryz.f9,z,cT,x0,x1,x2,x3,x4,hg,hg',rm,cF,ia,gt,gt2,gs,ss,ls,lv,cC,Za,Zt,Int.toNat_natCast,List.length_map,ZA,Zy,Xw,Xb,true_or,XR,XV,XS,XY]
 ·have x2:=ZN h3 (by omega) (t.cols.length:Int)
  have b2:=Zu L (a+1+1) (t.cols.length:Int) (by omega) (by omega)
  obtain ⟨j,hj⟩:∃ k:Nat,Zw L (a+1+1) (t.cols.length:Int)=(k:Int):=⟨(Zw L (a+1+1) (t.cols.length:Int)).toNat,by omega⟩
  rw [hj] at x2 b2
  have h4:=h3.step (a+1+1+1) (B - 3) (by omega) (by omega)
  obtain ⟨e,he⟩:=Ze (l:=t.cols) (i:=j) (by omega)
  have ge:=YR he
  have ge2:(t.cols.map ZO)[j]? = some (ZO e):=by simp [he]
  have me:=List.mem_of_getElem? he
  obtain ⟨v,a1,x3,q1,q2,_⟩:=ZfK h4 (by omega)
  have cs:=ZcH t.cols j { e with df:=v }
  have lv:=lv t.nm (t.cols.set j { e with df:=v }) t.key t.fgn t.idx
  simp only [List.length_set] at lv
  simp only [ZO] at ge ge2 cs
  simp only [enc] at x3
  refine ⟨x.set i ⟨t.nm,t.cols.set j { e with df:=v },t.key,t.fgn,t.idx⟩,a1,?_,by omega,by omega,SZ _ ⟨s2.nm,by rw [List.length_set];exact s2.c1,by rw [List.length_set];exact s2.cl,fun c hc=>by
   rcases List.mem_or_eq_of_mem_set hc with h1 | h1
   ·exact s2.cn c h1
   ·rw [h1];exact s2.cn e me,s2.key,s2.fl,s2.fg,s2.il,s2.ix⟩⟩
  rw [YZ]
  simp -implicitDefEqProofs only [go_sem,simprocAttr,Tryz.f9,z,cT,x0,x1,x2,x3,ge,ge2,cs,gt,gt2,gs,ss,ls,lv,cC,Za,ZO,Int.toNat_natCast,List.length_map,ZA,Zy,true_or,XR,XV,XS,XY]
end
def X0 (v:Val):Bool:=Wr v&&(decide (v.s.length≤100)&&XJ v)
theorem ZmI (k n:Int) (s:List UInt8):R K (.call 285 [V k n s] [])=some (.bool (X0 ⟨k,n,s⟩),[]):=by
 by_cases hs:s.length≤100
 ·have hs':(s.length:Int)≤100:=by omega
  rw [Zjc]
  simp -implicitDefEqProofs only [go_sem,simprocAttr,Tryz.f285,ZaB,ZeC k n s hs,hs']
  repeat' ((first | apply ZI | apply ZR | apply ZY)<;>intro hc<;>simp -implicitDefEqProofs only [hc,go_sem,simprocAttr,ZaB,ZeC k n s hs,hs'])
  all_goals simp_all [X0]<;>omega
 ·have hs':¬(s.length:Int)≤100:=by omega
  rw [Zjc]
  simp -implicitDefEqProofs only [go_sem,simprocAttr,Tryz.f285,ZaB,hs']
  repeat' ((first | apply ZI | apply ZR | apply ZY)<;>intro hc<;>simp -implicitDefEqProofs only [hc,go_sem,simprocAttr,ZaB,hs'])
  all_goals simp_all [X0]<;>omega
def Z3 (v:Val):Val:=if X0 v=true then v else Y3
theorem ZsQ (k n:Int) (s:List UInt8):R K (.call 189 [V k n s] [])=some (enc (Z3 ⟨k,n,s⟩),[]):=by
 rw [ZpS]
 simp -implicitDefEqProofs only [go_sem,simprocAttr,Tryz.f189,ZmI]
 repeat' ((first | apply ZI | apply ZR | apply ZY)<;>intro hc<;>simp -implicitDefEqProofs only [hc,go_sem,simprocAttr,ZmI])
 all_goals simp_all [Z3,Y3]
def QO (v:Val):Int :=
 if !(ZW v.k 0 4)||(v.k != 3&&v.s != [])||((v.k==3||v.k==0)&&v.n != 0) then 3
 else if 100 < v.s.length then 2
 else if !(ok7 v.s)||(v.k==1&&!(ZW v.n 0 1))||(v.k==2&&!(ZW v.n (-999999999999999) 999999999999999))||(v.k==4&&!(ZW v.n 0 253402300799)) then 1
 else 0
theorem ZuI (v:Val):ZaR 0 v=QO v:=by simp [ZaR,QO]
theorem ZjO (v:Val):(QO v=0)↔X0 v=true:=by
 obtain ⟨k,n,s⟩:=v
 by_cases h0:k=0
 ·subst h0
  by_cases h1:n=0<;>by_cases h2:s=[]<;>simp [QO,X0,Wr,XJ,ZW,ok7,h1,h2]
 ·by_cases h3:k=3
  ·subst h3
   by_cases h1:n=0<;>by_cases h2:s.length≤100<;>simp [QO,X0,Wr,XJ,ZW,h1,h2,Nat.not_lt.2,Nat.not_le.1]<;>(try omega)<;>(cases ok7 s<;>simp<;>omega)
  ·by_cases h4:ZW k 0 4=true
   ·have h5:ZW k 1 4=true:=by simp [ZW] at h4 ⊢;omega
    by_cases h2:s=[]
    ·subst h2
     by_cases k1:k=1
     ·subst k1;simp [QO,X0,Wr,XJ,h4,h5,ok7]
     ·by_cases k2:k=2
      ·subst k2;simp [QO,X0,Wr,XJ,h4,h5,ok7]
      ·by_cases k4:k=4
       ·subst k4;simp [QO,X0,Wr,XJ,h4,h5,ok7]
       ·simp [ZW] at h4;omega
    ·simp [QO,X0,Wr,h0,h3,h2]
   ·have h5:ZW k 1 4=false:=by simp [ZW] at h4 ⊢;omega
    simp [QO,X0,Wr,h0,h3,h4,h5]
theorem Ze4 (k n:Int) (s:List UInt8):R K (.call 386 [V k n s] [])=some (.int .i64 (QO ⟨k,n,s⟩),[]):=by
 have h:=Zm9 0 k n s
 rw [ZuI] at h
 rw [ZpV]
 simp -implicitDefEqProofs only [go_sem,simprocAttr,Tryz.f386,h]
theorem Zcl (k n:Int) (s:List UInt8):R K (.call 288 [V k n s] [])=some (enc (Z3 ⟨k,n,s⟩),[]):=by
 have h:=ZjO ⟨k,n,s⟩
 rw [ZpU]
 simp -implicitDefEqProofs only [go_sem,simprocAttr,Tryz.f288,Ze4]
 repeat' ((first | apply ZI | apply ZR | apply ZY)<;>intro hc<;>simp -implicitDefEqProofs only [hc,go_sem,simprocAttr,Ze4])
 all_goals simp_all [Z3,Y3]
abbrev vC (v:Val):List AV:=[.int .i64 v.k,.int .i64 v.n,.str v.s]
structure Dat where
 nm:List UInt8
 rows:List (List Val)
abbrev vsA (r:List Val):AV:=.rows (r.map vC)
def Zn (r:List Val):List AV:=[.rows (r.map vC)]
def Zh (d:Dat):List AV:=[.str d.nm,.rows (d.rows.map Zn)]
abbrev YF (ds:List Dat):AV:=.agg [.rows (ds.map Zh)]
theorem ZbH {l:List Val} {i:Nat} {v:Val} (h:l[i]? = some v):at? (l.map vC) (i:Int)=some (vC v):=Z2 (by simp [h])
theorem Yj {l:List (List Val)} {i:Nat} {v:List Val} (h:l[i]? = some v):at? (l.map Zn) (i:Int)=some (Zn v):=Z2 (by simp [h])
theorem YE {l:List Dat} {i:Nat} {v:Dat} (h:l[i]? = some v):at? (l.map Zh) (i:Int)=some (Zh v):=Z2 (by simp [h])
theorem Yz:∀ l:List Val,ZL (l.map vC)=[]
 | []=>rfl
 | x::l=>by simpa [ZL,Zk,Zm] using Yz l
theorem YD:∀ l:List (List Val),ZL (l.map Zn)=[]
 | []=>rfl
 | x::l=>by simpa [Zn,ZL,Zk,Zm] using YD l
theorem Zb1:∀ l:List Dat,ZL (l.map Zh)=[]
 | []=>rfl
 | x::l=>by simpa [Zh,ZL,Zk,Zm] using Zb1 l
theorem Zdl:∀ l:List Val,YB 3 (l.map vC)=true
 | []=>rfl
 | x::l=>by simpa [YB] using Zdl l
theorem ZaK:∀ l:List (List Val),YB 1 (l.map Zn)=true
 | []=>rfl
 | x::l=>by simpa [YB,Zn] using ZaK l
theorem ZdO:∀ l:List Dat,YB 2 (l.map Zh)=true
 | []=>rfl
 | x::l=>by simpa [YB,Zh] using ZdO l
theorem Ja (l:List Val) (c:Val):l.map vC++[vC c]=(l++[c]).map vC:=by simp
theorem XC (l:List (List Val)) (c:List Val):l.map Zn++[Zn c]=(l++[c]).map Zn:=by simp
structure SetM (es:List (AV×AV)) (S:List (List UInt8)):Prop where
 key:∀ p∈es,∃ s,p=(.str s,.bool true)
 mem:∀ s,(AV.str s,AV.bool true)∈es↔s∈S
theorem SetM.nil:SetM [] []:=⟨by simp,by simp⟩
theorem ZeN {k:List UInt8}:∀ (es:List (AV×AV)) (i:Nat),(∀ p∈es,∃ s,p=(.str s,.bool true)) →
  ((AV.str k,AV.bool true)∈es→∃ j,Yc .str (.str k) es i=some (some (i+j,.bool true))∧es[j]? = some (.str k,.bool true))∧((AV.str k,AV.bool true)∉es→Yc .str (.str k) es i=some none)
 | [],i,_=>⟨by simp,fun _=>rfl⟩
 | p::es,i,h=>by
  obtain ⟨s,rfl⟩:=h p (by simp)
  obtain ⟨h1,h2⟩:=ZeN (k:=k) es (i+1) fun q hq=>h q (by simp [hq])
  by_cases e:k=s
  ·subst e
   refine ⟨fun _=>⟨0,by simp [Yc,Xc],rfl⟩,fun hn=>absurd (by simp) hn⟩
  ·have hb:(k==s)=false:=by simpa using e
   constructor
   ·intro hm
    have hm':(AV.str k,AV.bool true)∈es:=by
     rcases List.mem_cons.1 hm with h3 | h3
     ·simp only [Prod.mk.injEq,AV.str.injEq,and_true] at h3;exact absurd h3 e
     ·exact h3
    obtain ⟨j,h3,h4⟩:=h1 hm'
    refine ⟨j+1,?_,by simpa using h4⟩
    simp only [Yc,Xc,hb,h3]
    rw [show i+1+j=i+(j+1) by omega]
   ·intro hm
    have hm':(AV.str k,AV.bool true)∉es:=fun h3=>hm (List.mem_cons_of_mem _ h3)
    simp only [Yc,Xc,hb]
    exact h2 hm'
theorem ZaE {k v:AV}:∀ (es:List (AV×AV)) (q:AV×AV),q∈XG k v es↔q=(k,v)∨q∈es
 | [],q=>by simp [XG]
 | p::es,q=>by
  unfold XG
  split
  ·simp
  ·simp only [List.mem_cons,ZaE es q]
   constructor
   ·rintro (h | h | h)
    ·exact .inr (.inl h)
    ·exact .inl h
    ·exact .inr (.inr h)
   ·rintro (h | h | h)
    ·exact .inr (.inl h)
    ·exact .inl h
    ·exact .inr (.inr h)
theorem SetM.put {es:List (AV×AV)} {S:List (List UInt8)} (h:SetM es S) (k:List UInt8):∃ r,Yc .str (.str k) es 0=some r∧SetM (YK es (.str k) (.bool true) r) (k::S):=by
 obtain ⟨h1,h2⟩:=ZeN (k:=k) es 0 h.key
 by_cases hm:(AV.str k,AV.bool true)∈es
 ·obtain ⟨j,h3,h4⟩:=h1 hm
  refine ⟨_,h3,?_⟩
  have hj:=(List.getElem?_eq_some_iff.1 h4)
  have e:YK es (.str k) (.bool true) (some (0+j,.bool true))=es:=by
   simp only [YK,Nat.zero_add]
   apply List.ext_getElem?
   intro i
   rw [List.getElem?_modify]
   by_cases hi:j=i
   ·subst hi;rw [h4];simp
   ·simp [hi]
  rw [e]
  refine ⟨h.key,fun s=>?_⟩
  rw [h.mem s,List.mem_cons]
  constructor
  ·exact .inr
  ·rintro (rfl | h5)
   ·exact (h.mem _).1 hm
   ·exact h5
 ·refine ⟨none,h2 hm,?_⟩
  refine ⟨fun p hp=>?_,fun s=>?_⟩
  ·rcases (ZaE es p).1 hp with rfl | h3
   ·exact ⟨k,rfl⟩
   ·exact h.key p h3
  ·show _∈XG _ _ es↔_
   rw [ZaE,h.mem s]
   simp [Prod.mk.injEq]
def Wd (n:Int) (s:Nat):UInt8:=UInt8.ofNat (n.toNat / 2 ^ s)
def bD (n:Int):Nat→List UInt8
 | 0=>[]
 | i+1=>Wd n (8*i)::bD n i
theorem Zde (n:Int):∀ i,(bD n i).length=i
 | 0=>rfl
 | i+1=>by simp [bD,Zde n i]
def X6 (v:Val):List UInt8:=UInt8.ofNat v.k.toNat::(if v.k=0 then [] else if v.k=3 then v.s++[0] else bD (v.n+4611686018427387904) 8)
def YM:List Val→List UInt8
 | []=>[]
 | v::r=>X6 (Z3 v)++YM r
theorem Qr:∀ a b:List UInt8,Zx (a++b)=Zx a++Zx b
 | [],_=>rfl
 | x::a,b=>by simp [Zx,Qr a b]
theorem JX:∀ l:List UInt8,Jh (Zx l)=some l
 | []=>rfl
 | b::l=>by simp [Zx,Jh,JX l]
theorem WV (v:Val):ZW (Z3 v).k 0 4=true:=by
 unfold Z3
 split
 ·rename_i h
  simp only [X0,Bool.and_eq_true] at h
  have h1:=h.1
  unfold Wr at h1
  split at h1
  ·rename_i h0;simp [ZW,h0]
  ·split at h1
   ·rename_i h3;simp [ZW,h3]
   ·simp only [Bool.and_eq_true,ZW,decide_eq_true_eq] at h1 ⊢;omega
 ·rfl
theorem QI (v:Val):-999999999999999≤(Z3 v).n∧(Z3 v).n≤999999999999999:=by
 unfold Z3
 split
 ·rename_i h
  simp only [X0,Bool.and_eq_true,decide_eq_true_eq] at h
  obtain ⟨h1,_,h2⟩:=h
  unfold Wr at h1
  unfold XJ at h2
  by_cases k0:v.k=0
  ·simp only [k0,if_true,Bool.and_eq_true,beq_iff_eq] at h1;omega
  ·by_cases k3:v.k=3
   ·simp [k3] at h1;omega
   ·rw [if_neg k0,if_neg k3] at h1
    simp only [Bool.and_eq_true,ZW,decide_eq_true_eq] at h1 h2
    split at h2
    ·simp at h2;omega
    ·split at h2
     ·simp at h2;omega
     ·split at h2
      ·simp at h2;omega
      ·omega
 ·decide
theorem ZdH (v:Val):(Z3 v).s.length≤100:=by
 unfold Z3
 split
 ·rename_i h
  simp only [X0,Bool.and_eq_true,decide_eq_true_eq] at h
  exact h.2.1
 ·decide
theorem ZeH (v:Val):(X6 (Z3 v)).length≤102:=by
 have:=ZdH v
 unfold X6
 split
 ·simp
 ·split
  ·simp;omega
  ·simp [Zde]
theorem Zjy:∀ l:List Val,(YM l).length≤102*l.length
 | []=>by simp [YM]
 | v::r=>by
  have:=Zjy r
  have:=ZeH v
  simp only [YM,List.length_append,List.length_cons]
  omega
theorem ZmT {m:Int} (h:0≤m) (s:Nat) (hs:s≤56) (k:IntKind) (hk:k.bits=64):ZC .u8 (Zp2 k m (s:Int))=((Wd m s).toNat:Int):=by
 have e:Zp2 k m (s:Int)=((m.toNat / 2 ^ s:Nat):Int):=by
  unfold Zp2
  rw [Int.toNat_natCast,hk,Nat.min_eq_left (by omega)]
  obtain ⟨a,rfl⟩:∃ a:Nat,m=(a:Int):=⟨m.toNat,by omega⟩
  have hp:(2:Int) ^ s=((2 ^ s:Nat):Int):=by simp
  rw [Int.toNat_natCast,hp,Int.fdiv_eq_ediv_of_nonneg _ (Int.natCast_nonneg _)]
  exact (Int.natCast_ediv a (2 ^ s)).symm
 rw [e]
 unfold Wd ZC
 rw [UInt8.toNat_ofNat',IntKind.wrap_u8]
 generalize m.toNat / 2 ^ s=x
 simp only [Nat.reducePow]
 omega
def ZQ (t:Tbl) (cs:List (List UInt8)) (r:List Val):List Val:=cs.map fun c=>(r[(ixN c (t.cols.map (·.nm)) 0).toNat]?).getD Y3
def Ww (l:List Val):Bool:=l.any fun v=>v.k==0
def ZD (t:Tbl) (cs:List (List UInt8)) (r:List Val):List UInt8:=YM (ZQ t cs r)
def Z1 (full:Bool) (t:Tbl) (cs:List (List UInt8)) (r:List Val):Option (List UInt8):=if full&&Ww (ZQ t cs r) then none else some (ZD t cs r)
def ZF (x:List Tbl) (ds:List Dat) (n:List UInt8):List (List UInt8):=match x[(ixN n (x.map (·.nm)) 0).toNat]?,ds[(ixN n (x.map (·.nm)) 0).toNat]? with
 | some u,some d=>d.rows.map (ZD u u.key)
 | _,_=>[]
def ZK (t:Tbl) (rs:List (List Val)):Prop:=∀ r∈rs,r.length=t.cols.length
structure DatOk (x:List Tbl) (ds:List Dat):Prop where
 nm:x.map (·.nm)=ds.map (·.nm)
 fit:∀ (i:Nat) (t:Tbl) (d:Dat),x[i]? = some t→ds[i]? = some d→ZK t d.rows
theorem DatOk.len {x:List Tbl} {ds:List Dat} (h:DatOk x ds):ds.length=x.length:=by
 have:=congrArg List.length h.nm
 simpa using this.symm
theorem ZjA (n:Int):ZC .u64 n=n % 18446744073709551616:=by simp [ZC,IntKind.wrap,IntKind.bits,IntKind.signed]
theorem X2 (s:List UInt8) (b:UInt8):Zx s++[[AV.int .u8 (b.toNat:Int)]]=Zx (s++[b]):=by rw [Qr];rfl
theorem Ym:∀ s:List UInt8,ZL (Zx s)=[]
 | []=>rfl
 | b::s=>by simpa [Zx,ZL,Zk,Zm] using Ym s
theorem ZqL (l:List Val) (v:List AV) (n j m:Int) (hm:0≤m) (ks:List It):∀ (i:Nat) (s:List UInt8) (ii:Int) (Bo:Code),Zf Tryz.f97 3 Bo→ii=(i:Int) - 1→i≤8→s.length≤1000000000 - i →
  RL K (.run 97 0 (.code Bo::.lp Bo (some ([3,6,7,8,9,10],[])) 2::.blk 3 2::ks) [(3,.own 0 s.length),(6,.int .u64 m),(7,I ii),(8,vsA l),(9,I n),(10,I j)] [.rows 1 (Zx s) false,.cells v]) =
  R K (.run 97 0 ks [(3,.own 0 (s++bD m i).length),(8,vsA l),(9,I n),(10,I j)] [.rows 1 (Zx (s++bD m i)) false,.cells v])
 | 0,s,ii,Bo,hB,hi,hi8,hs=>by
  subst hi
  unfold Zf at hB
  simp -implicitDefEqProofs only [go_sem,simprocAttr,Tryz.f97,Zb] at hB
  subst hB
  rw [Zc]
  simp -implicitDefEqProofs only [go_sem,simprocAttr,bD,List.append_nil]
 | i+1,s,ii,Bo,hB,hi,hi8,hs=>by
  have hB':=hB
  have e:ii=(i:Int):=by omega
  subst e
  have h1:(0:Int)≤(i:Int):=by omega
  have w1:ZC .i64 (8*(i:Int))=((8*i:Nat):Int):=by rw [ZV (by omega) (by omega)];omega
  have w2:ZC .i64 ((i:Int) - 1)=(i:Int) - 1:=ZV (by omega) (by omega)
  have n1:¬(((8*i:Nat):Int) < 0):=by omega
  have bo:=ZmT hm (8*i) (by omega) .u64 rfl
  have ap:=X2 s (Wd m (8*i))
  have rm:((s.length+1)*2≤Zg)=True:=eq_true (by unfold Zg;omega)
  have ih:=ZqL l v n j m hm ks i (s++[Wd m (8*i)]) _ _ hB' rfl (by omega) (by rw [List.length_append];simp;omega)
  simp only [List.length_append,List.length_cons,List.length_nil,Nat.zero_add,List.append_assoc,List.cons_append,List.nil_append] at ih
  unfold Zf at hB
  simp -implicitDefEqProofs only [go_sem,simprocAttr,Tryz.f97,Zb] at hB
  subst hB
  rw [Zc]
  simp -implicitDefEqProofs only [go_sem,simprocAttr,h1,w1,w2,n1,bo,ap,rm,Ya,bD,List.length_append,List.length_cons]
  rw [ih]
theorem ZgQ {k:Int} (h:ZW k 0 4=true):ZC .u8 k=((UInt8.ofNat k.toNat).toNat:Int):=by
 simp only [ZW,Bool.and_eq_true,decide_eq_true_eq] at h
 unfold ZC
 rw [UInt8.toNat_ofNat',IntKind.wrap_u8]
 simp only [Nat.reducePow]
 omega
theorem Zry (l:List Val) (hl:l.length≤1000000) (ks:List It):∀ (q j:Nat) (s:List UInt8) (jj:Int) (Bo:Code),Zf Tryz.f97 0 Bo→jj=(j:Int)→l.length=j+q→s.length≤102*j →
  RL K (.run 97 0 (.code Bo::.lp Bo (some ([3,8,9,10],[])) 1::.blk 0 1::ks) [(3,.own 0 s.length),(8,vsA l),(9,I (l.length:Int)),(10,I jj)] [.rows 1 (Zx s) false]) =
  R K (.run 97 0 ks [(3,.own 0 (s++YM (l.drop j)).length)] [.rows 1 (Zx (s++YM (l.drop j))) false])
 | 0,j,s,jj,Bo,hB,hj,hq,hs=>by
  subst hj
  have d:¬(j:Int) < (l.length:Int):=by omega
  rw [List.drop_of_length_le (by omega)]
  unfold Zf at hB
  simp -implicitDefEqProofs only [go_sem,simprocAttr,Tryz.f97,Zb] at hB
  subst hB
  rw [Zc]
  simp -implicitDefEqProofs only [go_sem,simprocAttr,d,YM,List.append_nil]
 | q+1,j,s,jj,Bo,hB,hj,hq,hs=>by
  subst hj
  have hB':=hB
  have d:(j:Int) < (l.length:Int):=by omega
  have h7:=Zs (i:=j) (n:=l.length) (by omega) (by omega)
  obtain ⟨v,hv⟩:=Ze (l:=l) (i:=j) (by omega)
  have gv:=ZbH hv
  have cp:=ZsQ v.k v.n v.s
  have hk:=WV v
  have hn:=QI v
  have hlen:=ZdH v
  have kl:=ZeH v
  have ih:=Zry l hl ks q (j+1) (s++X6 (Z3 v)) _ _ hB' rfl (by omega) (by rw [List.length_append];omega)
  rw [List.append_assoc] at ih
  have ed:YM (l.drop j)=X6 (Z3 v)++YM (l.drop (j+1)):=by rw [ZE hv];rfl
  rw [ed]
  have eta:(⟨v.k,v.n,v.s⟩:Val)=v:=rfl
  rw [eta] at cp
  generalize Z3 v=p at *
  have bk:=ZgQ hk
  have a1:=X2 s (UInt8.ofNat p.k.toNat)
  have rm:((s.length+1)*2≤Zg)=True:=eq_true (by unfold Zg;omega)
  generalize YM (l.drop (j+1))=r at *
  by_cases k0:p.k=0
  ·have b1:(p.k==0)=true:=by simpa using k0
   have hS:s++X6 p=s++[UInt8.ofNat p.k.toNat]:=by simp [X6,k0]
   rw [hS] at ih
   simp only [List.length_append,List.length_cons,List.length_nil,Nat.zero_add] at ih ⊢
   unfold Zf at hB
   simp -implicitDefEqProofs only [go_sem,simprocAttr,Tryz.f97,Zb] at hB
   subst hB
   rw [Zc]
   simp -implicitDefEqProofs only [go_sem,simprocAttr,d,h7,gv,cp,b1,a1,bk,rm,Ya,Ym,List.length_append,List.length_cons]
   exact ih
  ·have b0:(p.k==0)=false:=by simpa using k0
   by_cases k3:p.k=3
   ·have b1:(p.k==3)=true:=by simpa using k3
    have hS:s++X6 p=s++[UInt8.ofNat p.k.toNat]++p.s++[0]:=by simp [X6,k3]
    have a2:Zx (s++[UInt8.ofNat p.k.toNat])++Zx p.s=Zx (s++[UInt8.ofNat p.k.toNat]++p.s):=(Qr _ _).symm
    have a3:=X2 (s++[UInt8.ofNat p.k.toNat]++p.s) 0
    rw [show (((0:UInt8).toNat:Nat):Int)=0 from rfl] at a3
    have rm2:((s.length+1+p.s.length)*2≤Zg)=True:=eq_true (by unfold Zg;omega)
    have rm3:((s.length+1+p.s.length+1)*2≤Zg)=True:=eq_true (by unfold Zg;omega)
    rw [hS] at ih
    simp only [List.length_append,List.length_cons,List.length_nil,Nat.zero_add] at ih ⊢
    unfold Zf at hB
    simp -implicitDefEqProofs only [go_sem,simprocAttr,Tryz.f97,Zb] at hB
    subst hB
    rw [Zc]
    simp -implicitDefEqProofs only [go_sem,simprocAttr,d,h7,gv,cp,b0,b1,a1,a2,a3,bk,rm,rm2,rm3,Ya,Ym,List.length_append,List.length_cons]
    exact ih
   ·have b3:(p.k==3)=false:=by simpa using k3
    have hS:s++X6 p=s++[UInt8.ofNat p.k.toNat]++bD (p.n+4611686018427387904) 8:=by simp [X6,k0,k3]
    have l3:=ZqL l (vC p) (l.length:Int) (j:Int) (p.n+4611686018427387904) (by omega)
    have u1:ZC .u64 (ZC .u64 p.n+4611686018427387904)=p.n+4611686018427387904:=by
     rw [ZjA,ZjA]
     omega
    rw [hS] at ih
    simp only [List.length_append,List.length_cons,List.length_nil,Nat.zero_add,Zde] at ih ⊢
    unfold Zf at hB
    simp -implicitDefEqProofs only [go_sem,simprocAttr,Tryz.f97,Zb] at hB
    subst hB
    rw [Zc]
    simp -implicitDefEqProofs only [go_sem,simprocAttr,d,h7,gv,cp,b0,b3,a1,bk,rm,u1,Ya,Ym,List.length_append,List.length_cons]
    rw [show s.length+1=(s++[UInt8.ofNat p.k.toNat]).length by simp,l3 _ 8 _ 7 _ ?_ rfl (by omega) (by rw [List.length_append];simp;omega)]
    ·simp -implicitDefEqProofs only [go_sem,simprocAttr,h7,Ym,List.length_append,Zde,List.length_cons]
     exact ih
    ·rfl
theorem ZzG (l:List Val) (hl:l.length≤1000000):R K (.call 97 [vsA l] [])=some (.rows (Zx (YM l)),[]):=by
 have l0:=fun ks B hB=>Zry l hl ks l.length 0 [] 0 B hB rfl (by omega) (by simp)
 simp only [List.length_nil,List.nil_append,List.drop_zero] at l0
 rw [Zs1]
 simp -implicitDefEqProofs only [go_sem,simprocAttr,Tryz.f97,List.length_map]
 rw [show Zx []=[] from rfl] at l0
 rw [l0 _ _ ?_]
 ·simp -implicitDefEqProofs only [go_sem,simprocAttr,Ym,Ya,or_self]
 ·rfl
theorem ZoZ {t:Tbl} {r:List Val} {n:List UInt8} (hr:r.length=t.cols.length) (hn:¬ixN n (t.cols.map (·.nm)) 0 < 0):∃ (a:Nat) (v:Val),ixN n (t.cols.map (·.nm)) 0=(a:Int)∧r[a]? = some v∧(r[(ixN n (t.cols.map (·.nm)) 0).toNat]?).getD Y3=v:=by
 obtain ⟨a,c,h1,h2⟩:=Jb hn
 obtain ⟨v,hv⟩:=Ze (l:=r) (i:=a) (by have:=(List.getElem?_eq_some_iff.1 h2).1;omega)
 exact ⟨a,v,h1,hv,by rw [h1,Int.toNat_natCast,hv];rfl⟩
theorem ZiD (t:Tbl) (ht:t.cols.length≤1000000) (r:List Val) (hr:r.length=t.cols.length) (cs:List (List UInt8)) (hN:Zr t cs) (hc:cs.length≤1000000) (ks:List It):∀ (q j:Nat) (l:List Val) (b:Bool) (jj:Int) (Bo:Code),Zf Tryz.f101 0 Bo→jj=(j:Int)→cs.length=j+q→l.length≤j →
  RL K (.run 101 0 (.code Bo::.lp Bo (some ([1,3,8,9,13,14,15],[])) 2::.blk 0 2::ks) [(1,vsA r),(3,.ptr 0 0),(8,.own 1 l.length),(9,.bool b),(13,.rows (SLs cs)),(14,I (cs.length:Int)),(15,I jj)] [.cells (Za t),.rows 3 (l.map vC) true]) =
  R K (.run 101 0 ks [(8,.own 1 (l++ZQ t (cs.drop j) r).length),(9,.bool (b&&!Ww (ZQ t (cs.drop j) r)))] [.cells (Za t),.rows 3 ((l++ZQ t (cs.drop j) r).map vC) true])
 | 0,j,l,b,jj,Bo,hB,hj,hq,hl=>by
  subst hj
  have d:¬(j:Int) < (cs.length:Int):=by omega
  rw [List.drop_of_length_le (by omega)]
  have e1:ZQ t [] r=[]:=rfl
  have e2:Ww []=false:=rfl
  rw [e1,e2,List.append_nil,Bool.not_false,Bool.and_true]
  unfold Zf at hB
  simp -implicitDefEqProofs only [go_sem,simprocAttr,Tryz.f101,Zb] at hB
  subst hB
  rw [Zc]
  simp -implicitDefEqProofs only [go_sem,simprocAttr,d,Za,Yz]
 | q+1,j,l,b,jj,Bo,hB,hj,hq,hl=>by
  subst hj
  have hB':=hB
  have d:(j:Int) < (cs.length:Int):=by omega
  have h7:=Zs (i:=j) (n:=cs.length) (by omega) (by omega)
  obtain ⟨n,hn⟩:=Ze (l:=cs) (i:=j) (by omega)
  have gn:=Wg hn
  obtain ⟨a,v,ha,hv,hd⟩:=ZoZ hr (hN n (List.mem_of_getElem? hn))
  have gv:=ZbH hv
  have ca:=WQ t n ht
  rw [ha] at ca
  have ap:=Ja l v
  have rm:((l.length+1)*33≤Zg)=True:=eq_true (by unfold Zg;omega)
  have ed:ZQ t (cs.drop j) r=v::ZQ t (cs.drop (j+1)) r:=by
   rw [ZE hn]
   simp only [ZQ,List.map_cons,hd]
  have en:Ww (v::ZQ t (cs.drop (j+1)) r)=((v.k==0)||Ww (ZQ t (cs.drop (j+1)) r)):=rfl
  have ih:=fun b'=>ZiD t ht r hr cs hN hc ks q (j+1) (l++[v]) b' _ _ hB' rfl (by omega) (by rw [List.length_append];simp;omega)
  rw [ed,en]
  simp only [ZX,Za,List.length_append,List.length_cons,List.length_nil,Nat.zero_add,List.append_assoc,List.cons_append,List.nil_append] at ih ca ap ⊢
  cases b with
  | false =>
   have ih:=ih false
   simp only [Bool.false_and] at ih ⊢
   unfold Zf at hB
   simp -implicitDefEqProofs only [go_sem,simprocAttr,Tryz.f101,Zb] at hB
   subst hB
   rw [Zc]
   simp -implicitDefEqProofs only [go_sem,simprocAttr,d,h7,gn,gv,ca,ap,rm,Za,Yz,List.length_map,Int.toNat_natCast]
   exact ih
  | true =>
   have ih:=ih (!(v.k==0))
   simp only [Bool.true_and,Bool.not_or] at ih ⊢
   unfold Zf at hB
   simp -implicitDefEqProofs only [go_sem,simprocAttr,Tryz.f101,Zb] at hB
   subst hB
   rw [Zc]
   simp -implicitDefEqProofs only [go_sem,simprocAttr,d,h7,gn,gv,ca,ap,rm,Za,Yz,List.length_map,Int.toNat_natCast,bne]
   exact ih
theorem Yy (t:Tbl) (ht:t.cols.length≤1000000) (r:List Val) (hr:r.length=t.cols.length) (cs:List (List UInt8)) (hN:Zr t cs) (hc:cs.length≤1000000):R K (.call 101 [ZX t,vsA r,.rows (SLs cs)] [])=some (.tup [vsA (ZQ t cs r),.bool (!Ww (ZQ t cs r))],[]):=by
 have l0:=fun ks B hB=>ZiD t ht r hr cs hN hc ks cs.length 0 [] true 0 B hB rfl (by omega) (by simp)
 simp only [List.length_nil,List.map_nil,List.nil_append,List.drop_zero,Bool.true_and,Za] at l0
 rw [Zo8]
 simp -implicitDefEqProofs only [go_sem,simprocAttr,Tryz.f101,Yx,Za]
 rw [l0 _ _ ?_]
 ·simp -implicitDefEqProofs only [go_sem,simprocAttr,Yz,List.length_map,true_or]
 ·rfl
theorem Z5 (t:Tbl) (cs:List (List UInt8)) (r:List Val):(ZQ t cs r).length=cs.length:=by simp [ZQ]
theorem Zj4 (t:Tbl) (ht:t.cols.length≤1000000) (r:List Val) (hr:r.length=t.cols.length) (cs:List (List UInt8)) (hN:Zr t cs) (hc:cs.length≤1000000) (ks:List It):∀ (q j:Nat) (l:List Val) (b:Bool) (jj:Int) (Bo:Code),Zf Tryz.f46 0 Bo→jj=(j:Int)→cs.length=j+q→l.length≤j →
  RL K (.run 46 0 (.code Bo::.lp Bo (some ([2,3,7,8,12,13,14],[])) 2::.blk 0 2::ks) [(2,vsA r),(3,.ptr 0 0),(7,.bool b),(8,.own 1 l.length),(12,.rows (SLs cs)),(13,I (cs.length:Int)),(14,I jj)] [.cells (Za t),.rows 3 (l.map vC) false]) =
  R K (.run 46 0 ks [(7,.bool (b||Ww (ZQ t (cs.drop j) r))),(8,.own 1 (l++ZQ t (cs.drop j) r).length)] [.cells (Za t),.rows 3 ((l++ZQ t (cs.drop j) r).map vC) false])
 | 0,j,l,b,jj,Bo,hB,hj,hq,hl=>by
  subst hj
  have d:¬(j:Int) < (cs.length:Int):=by omega
  rw [List.drop_of_length_le (by omega)]
  have e1:ZQ t [] r=[]:=rfl
  have e2:Ww []=false:=rfl
  rw [e1,e2,List.append_nil,Bool.or_false]
  unfold Zf at hB
  simp -implicitDefEqProofs only [go_sem,simprocAttr,Tryz.f46,Zb] at hB
  subst hB
  rw [Zc]
  simp -implicitDefEqProofs only [go_sem,simprocAttr,d,Za,Yz]
 | q+1,j,l,b,jj,Bo,hB,hj,hq,hl=>by
  subst hj
  have hB':=hB
  have d:(j:Int) < (cs.length:Int):=by omega
  have h7:=Zs (i:=j) (n:=cs.length) (by omega) (by omega)
  obtain ⟨n,hn⟩:=Ze (l:=cs) (i:=j) (by omega)
  have gn:=Wg hn
  obtain ⟨a,v,ha,hv,hd⟩:=ZoZ hr (hN n (List.mem_of_getElem? hn))
  have gv:=ZbH hv
  have ca:=Q5 t n ht
  rw [ha] at ca
  have ap:=Ja l v
  have rm:((l.length+1)*33≤Zg)=True:=eq_true (by unfold Zg;omega)
  have ed:ZQ t (cs.drop j) r=v::ZQ t (cs.drop (j+1)) r:=by
   rw [ZE hn]
   simp only [ZQ,List.map_cons,hd]
  have en:Ww (v::ZQ t (cs.drop (j+1)) r)=((v.k==0)||Ww (ZQ t (cs.drop (j+1)) r)):=rfl
  have ih:=fun b'=>Zj4 t ht r hr cs hN hc ks q (j+1) (l++[v]) b' _ _ hB' rfl (by omega) (by rw [List.length_append];simp;omega)
  rw [ed,en]
  simp only [ZX,Za,List.length_append,List.length_cons,List.length_nil,Nat.zero_add,List.append_assoc,List.cons_append,List.nil_append] at ih ca ap ⊢
  cases b with
  | true =>
   have ih:=ih true
   simp only [Bool.true_or] at ih ⊢
   unfold Zf at hB
   simp -implicitDefEqProofs only [go_sem,simprocAttr,Tryz.f46,Zb] at hB
   subst hB
   rw [Zc]
   simp -implicitDefEqProofs only [go_sem,simprocAttr,d,h7,gn,gv,ca,ap,rm,Za,Yz,List.length_map,Int.toNat_natCast]
   exact ih
  | false =>
   have ih:=ih (v.k==0)
   simp only [Bool.false_or] at ih ⊢
   unfold Zf at hB
   simp -implicitDefEqProofs only [go_sem,simprocAttr,Tryz.f46,Zb] at hB
   subst hB
   rw [Zc]
   simp -implicitDefEqProofs only [go_sem,simprocAttr,d,h7,gn,gv,ca,ap,rm,Za,Yz,List.length_map,Int.toNat_natCast]
   exact ih
theorem WD (t:Tbl) (ht:t.cols.length≤1000000) (r:List Val) (hr:r.length=t.cols.length) (cs:List (List UInt8)) (hN:Zr t cs) (hc:cs.length≤1000000):R K (.call 46 [ZX t,.rows (SLs cs),vsA r] [])=some (.tup [.str (ZD t cs r),.bool (Ww (ZQ t cs r))],[]):=by
 have l0:=fun ks B hB=>Zj4 t ht r hr cs hN hc ks cs.length 0 [] false 0 B hB rfl (by omega) (by simp)
 have h2:=ZzG (ZQ t cs r) (by rw [Z5];exact hc)
 simp only [List.length_nil,List.map_nil,List.nil_append,List.drop_zero,Bool.false_or,Za] at l0
 rw [ZsV]
 simp -implicitDefEqProofs only [go_sem,simprocAttr,Tryz.f46,Yx,Za]
 rw [l0 _ _ ?_]
 ·simp -implicitDefEqProofs only [go_sem,simprocAttr,Yz,List.length_map,true_or,h2,JX]
  rfl
 ·rfl
theorem ZiM (l:List Val) (p:Val) (n j:Int) (hp:-999999999999999≤p.n∧p.n≤999999999999999) (ks:List It):∀ (i:Nat) (s:List UInt8) (ii:Int) (Bo:Code),Zf Tryz.f192 3 Bo→ii=8*(i:Int) - 8→i≤8→s.length≤1000000000 - i →
  RL K (.run 192 0 (.code Bo::.lp Bo (some ([3,5,6,7,8,9],[])) 2::.blk 3 2::ks) [(3,.own 0 s.length),(5,.ptr 1 0),(6,I ii),(7,vsA l),(8,I n),(9,I j)] [.rows 1 (Zx s) false,.cells (vC p)]) =
  R K (.run 192 0 ks [(3,.own 0 (s++bD (p.n+4611686018427387904) i).length),(7,vsA l),(8,I n),(9,I j)] [.rows 1 (Zx (s++bD (p.n+4611686018427387904) i)) false,.cells (vC p)])
 | 0,s,ii,Bo,hB,hi,hi8,hs=>by
  subst hi
  unfold Zf at hB
  simp -implicitDefEqProofs only [go_sem,simprocAttr,Tryz.f192,Zb] at hB
  subst hB
  rw [Zc]
  simp -implicitDefEqProofs only [go_sem,simprocAttr,bD,List.append_nil,Ym]
 | i+1,s,ii,Bo,hB,hi,hi8,hs=>by
  have hB':=hB
  have e:ii=((8*i:Nat):Int):=by omega
  subst e
  have h1:(0:Int)≤((8*i:Nat):Int):=by omega
  have w2:ZC .i64 (((8*i:Nat):Int) - 8)=8*(i:Int) - 8:=by rw [ZV (by omega) (by omega)];omega
  have w3:ZC .i64 (p.n+4611686018427387904)=p.n+4611686018427387904:=ZV (by omega) (by omega)
  have n1:¬(((8*i:Nat):Int) < 0):=by omega
  have bo:=ZmT (m:=p.n+4611686018427387904) (by omega) (8*i) (by omega) .i64 rfl
  have ap:=X2 s (Wd (p.n+4611686018427387904) (8*i))
  have rm:((s.length+1)*2≤Zg)=True:=eq_true (by unfold Zg;omega)
  have ih:=ZiM l p n j hp ks i (s++[Wd (p.n+4611686018427387904) (8*i)]) _ _ hB' rfl (by omega) (by rw [List.length_append];simp;omega)
  simp only [List.length_append,List.length_cons,List.length_nil,Nat.zero_add,List.append_assoc,List.cons_append,List.nil_append] at ih
  generalize ((8*i:Nat):Int)=ei at *
  unfold Zf at hB
  simp -implicitDefEqProofs only [go_sem,simprocAttr,Tryz.f192,Zb] at hB
  subst hB
  rw [Zc]
  simp -implicitDefEqProofs only [go_sem,simprocAttr,h1,w2,w3,n1,bo,ap,rm,Ya,Ym,bD,List.length_append,List.length_cons]
  rw [ih]
theorem Zkl (l:List Val) (hl:l.length≤1000000) (ks:List It):∀ (q j:Nat) (s:List UInt8) (jj:Int) (Bo:Code),Zf Tryz.f192 0 Bo→jj=(j:Int)→l.length=j+q→s.length≤102*j →
  RL K (.run 192 0 (.code Bo::.lp Bo (some ([3,7,8,9],[])) 1::.blk 0 1::ks) [(3,.own 0 s.length),(7,vsA l),(8,I (l.length:Int)),(9,I jj)] [.rows 1 (Zx s) false]) =
  R K (.run 192 0 ks [(3,.own 0 (s++YM (l.drop j)).length)] [.rows 1 (Zx (s++YM (l.drop j))) false])
 | 0,j,s,jj,Bo,hB,hj,hq,hs=>by
  subst hj
  have d:¬(j:Int) < (l.length:Int):=by omega
  rw [List.drop_of_length_le (by omega)]
  unfold Zf at hB
  simp -implicitDefEqProofs only [go_sem,simprocAttr,Tryz.f192,Zb] at hB
  subst hB
  rw [Zc]
  simp -implicitDefEqProofs only [go_sem,simprocAttr,d,YM,List.append_nil]
 | q+1,j,s,jj,Bo,hB,hj,hq,hs=>by
  subst hj
  have hB':=hB
  have d:(j:Int) < (l.length:Int):=by omega
  have h7:=Zs (i:=j) (n:=l.length) (by omega) (by omega)
  obtain ⟨v,hv⟩:=Ze (l:=l) (i:=j) (by omega)
  have gv:=ZbH hv
  have cp:=Zcl v.k v.n v.s
  have hk:=WV v
  have hn:=QI v
  have hlen:=ZdH v
  have kl:=ZeH v
  have ih:=Zkl l hl ks q (j+1) (s++X6 (Z3 v)) _ _ hB' rfl (by omega) (by rw [List.length_append];omega)
  rw [List.append_assoc] at ih
  have ed:YM (l.drop j)=X6 (Z3 v)++YM (l.drop (j+1)):=by rw [ZE hv];rfl
  rw [ed]
  have eta:(⟨v.k,v.n,v.s⟩:Val)=v:=rfl
  rw [eta] at cp
  generalize Z3 v=p at *
  have bk:=ZgQ hk
  have a1:=X2 s (UInt8.ofNat p.k.toNat)
  have rm:((s.length+1)*2≤Zg)=True:=eq_true (by unfold Zg;omega)
  generalize YM (l.drop (j+1))=r at *
  by_cases k0:p.k=0
  ·have b1:(p.k==0)=true:=by simpa using k0
   have hS:s++X6 p=s++[UInt8.ofNat p.k.toNat]:=by simp [X6,k0]
   rw [hS] at ih
   simp only [List.length_append,List.length_cons,List.length_nil,Nat.zero_add] at ih ⊢
   unfold Zf at hB
   simp -implicitDefEqProofs only [go_sem,simprocAttr,Tryz.f192,Zb] at hB
   subst hB
   rw [Zc]
   simp -implicitDefEqProofs only [go_sem,simprocAttr,d,h7,gv,cp,b1,a1,bk,rm,Ya,Ym,List.length_append,List.length_cons]
   exact ih
  ·have b0:(p.k==0)=false:=by simpa using k0
   by_cases k3:p.k=3
   ·have b1:(p.k==3)=true:=by simpa using k3
    have hS:s++X6 p=s++[UInt8.ofNat p.k.toNat]++p.s++[0]:=by simp [X6,k3]
    have a2:Zx (s++[UInt8.ofNat p.k.toNat])++Zx p.s=Zx (s++[UInt8.ofNat p.k.toNat]++p.s):=(Qr _ _).symm
    have a3:=X2 (s++[UInt8.ofNat p.k.toNat]++p.s) 0
    rw [show (((0:UInt8).toNat:Nat):Int)=0 from rfl] at a3
    have rm2:((s.length+1+p.s.length)*2≤Zg)=True:=eq_true (by unfold Zg;omega)
    have rm3:((s.length+1+p.s.length+1)*2≤Zg)=True:=eq_true (by unfold Zg;omega)
    rw [hS] at ih
    simp only [List.length_append,List.length_cons,List.length_nil,Nat.zero_add] at ih ⊢
    unfold Zf at hB
    simp -implicitDefEqProofs only [go_sem,simprocAttr,Tryz.f192,Zb] at hB
    subst hB
    rw [Zc]
    simp -implicitDefEqProofs only [go_sem,simprocAttr,d,h7,gv,cp,b0,b1,a1,a2,a3,bk,rm,rm2,rm3,Ya,Ym,List.length_append,List.length_cons]
    exact ih
   ·have b3:(p.k==3)=false:=by simpa using k3
    have hS:s++X6 p=s++[UInt8.ofNat p.k.toNat]++bD (p.n+4611686018427387904) 8:=by simp [X6,k0,k3]
    have l3:=ZiM l p (l.length:Int) (j:Int) hn
    rw [hS] at ih
    simp only [List.length_append,List.length_cons,List.length_nil,Nat.zero_add,Zde] at ih ⊢
    unfold Zf at hB
    simp -implicitDefEqProofs only [go_sem,simprocAttr,Tryz.f192,Zb] at hB
    subst hB
    rw [Zc]
    simp -implicitDefEqProofs only [go_sem,simprocAttr,d,h7,gv,cp,b0,b3,a1,bk,rm,Ya,Ym,List.length_append,List.length_cons]
    rw [show s.length+1=(s++[UInt8.ofNat p.k.toNat]).length by simp,l3 _ 8 _ 56 _ ?_ rfl (by omega) (by rw [List.length_append];simp;omega)]
    ·simp -implicitDefEqProofs only [go_sem,simprocAttr,h7,Ym,List.length_append,Zde,List.length_cons]
     exact ih
    ·rfl
theorem ZrM (l:List Val) (hl:l.length≤1000000):R K (.call 192 [vsA l] [])=some (.rows (Zx (YM l)),[]):=by
 have l0:=fun ks B hB=>Zkl l hl ks l.length 0 [] 0 B hB rfl (by omega) (by simp)
 simp only [List.length_nil,List.nil_append,List.drop_zero] at l0
 rw [Zrw]
 simp -implicitDefEqProofs only [go_sem,simprocAttr,Tryz.f192,List.length_map]
 rw [show Zx []=[] from rfl] at l0
 rw [l0 _ _ ?_]
 ·simp -implicitDefEqProofs only [go_sem,simprocAttr,Ym,Ya,or_self]
 ·rfl
theorem Y6 (l:List Val) (hl:l.length≤1000000):R K (.call 102 [vsA l] [])=some (.str (YM l),[]):=by
 have h:=ZrM l hl
 rw [ZoP]
 simp -implicitDefEqProofs only [go_sem,simprocAttr,Tryz.f102,h,JX]
structure FitD (ds:List Dat):Prop where
 len:ds.length≤1000000
 rows:∀ d∈ds,d.rows.length≤1000000∧∀ r∈d.rows,r.length≤1000000
abbrev dfH (x:List Tbl) (ds:List Dat):Zd:=[.cells [.rows (x.map Za)],.cells [.rows (ds.map Zh)]]
def Zas (b:Bool) (t:Tbl) (r:List Val) (k:Nat):Int:=match t.cols[k]?,r[k]? with
 | some c,some v=>if QB c.kd v=0 then (if b=true∧v.k=0∧c.nl=false then 9 else 0) else QB c.kd v
 | _,_=>0
def Q4 (b:Bool) (t:Tbl) (r:List Val):Int:=if r.length=t.cols.length then evE (Zas b t r) 0 t.cols.length else 3
theorem Zfy (b:Bool) (t:Tbl) (ht:t.cols.length≤1000000) (r:List Val) (hr:r.length=t.cols.length) (ks:List It):∀ (q j:Nat) (jj:Int) (Bo:Code),Zf Tryz.f99 0 Bo→jj=(j:Int)→r.length=j+q →
  RL K (.run 99 0 (.code Bo::.lp Bo (some ([2,3,16,17,18],[])) 1::.blk 0 1::ks) [(2,.bool b),(3,.ptr 0 0),(16,vsA r),(17,I (r.length:Int)),(18,I jj)] [.cells (Za t)]) =
  if evE (Zas b t r) j q=0 then R K (.run 99 0 ks [] [.cells (Za t)]) else some (I (evE (Zas b t r) j q),[])
 | 0,j,jj,Bo,hB,hj,hq=>by
  subst hj
  have d:¬(j:Int) < (r.length:Int):=by omega
  simp only [evE,if_true]
  unfold Zf at hB
  simp -implicitDefEqProofs only [go_sem,simprocAttr,Tryz.f99,Zb] at hB
  subst hB
  rw [Zc]
  simp -implicitDefEqProofs only [go_sem,simprocAttr,d,Za]
 | q+1,j,jj,Bo,hB,hj,hq=>by
  subst hj
  have hB':=hB
  have d:(j:Int) < (r.length:Int):=by omega
  have h7:=Zs (i:=j) (n:=r.length) (by omega) (by omega)
  obtain ⟨v,hv⟩:=Ze (l:=r) (i:=j) (by omega)
  obtain ⟨c,hc⟩:=Ze (l:=t.cols) (i:=j) (by omega)
  have gv:=ZbH hv
  have gc:=YR hc
  have x0:=ZcN c.kd v.k v.n v.s
  have ec:Zas b t r j=if QB c.kd v=0 then (if b=true∧v.k=0∧c.nl=false then 9 else 0) else QB c.kd v:=by simp only [Zas,hc,hv]
  have eta:(⟨v.k,v.n,v.s⟩:Val)=v:=rfl
  rw [eta] at x0
  have ih:=Zfy b t ht r hr ks q (j+1) _ _ hB' rfl (by omega)
  simp only [evE,ec]
  simp only [Za,ZO] at gc ih ⊢
  by_cases h0:QB c.kd v=0
  ·simp only [h0,if_true]
   rw [h0] at x0
   cases b with
   | false =>
    simp only [Bool.false_eq_true,false_and,if_false,if_true]
    unfold Zf at hB
    simp -implicitDefEqProofs only [go_sem,simprocAttr,Tryz.f99,Zb] at hB
    subst hB
    rw [Zc]
    simp -implicitDefEqProofs only [go_sem,simprocAttr,d,h7,gv,gc,x0,bne,Za,ZO]
    exact ih
   | true =>
    by_cases k0:v.k=0
    ·have b0:(v.k==0)=true:=by simpa using k0
     cases hn:c.nl with
     | false =>
      simp only [k0,true_and,if_true]
      unfold Zf at hB
      simp -implicitDefEqProofs only [go_sem,simprocAttr,Tryz.f99,Zb] at hB
      subst hB
      rw [Zc]
      simp -implicitDefEqProofs only [go_sem,simprocAttr,d,h7,gv,gc,x0,b0,hn,bne,Za,ZO]
     | true =>
      simp only [Bool.true_eq_false,and_false,if_false,if_true]
      unfold Zf at hB
      simp -implicitDefEqProofs only [go_sem,simprocAttr,Tryz.f99,Zb] at hB
      subst hB
      rw [Zc]
      simp -implicitDefEqProofs only [go_sem,simprocAttr,d,h7,gv,gc,x0,b0,hn,bne,Za,ZO]
      exact ih
    ·have b0:(v.k==0)=false:=by simpa using k0
     simp only [k0,false_and,and_false,if_false,if_true]
     unfold Zf at hB
     simp -implicitDefEqProofs only [go_sem,simprocAttr,Tryz.f99,Zb] at hB
     subst hB
     rw [Zc]
     simp -implicitDefEqProofs only [go_sem,simprocAttr,d,h7,gv,gc,x0,b0,bne,Za,ZO]
     exact ih
  ·simp only [h0,if_false]
   have b0:(QB c.kd v==0)=false:=by simpa using h0
   unfold Zf at hB
   simp -implicitDefEqProofs only [go_sem,simprocAttr,Tryz.f99,Zb] at hB
   subst hB
   rw [Zc]
   simp -implicitDefEqProofs only [go_sem,simprocAttr,d,h7,gv,gc,x0,b0,bne,Za,ZO]
theorem Ze5 (b:Bool) (t:Tbl) (ht:t.cols.length≤1000000) (r:List Val) (hr:r.length≤1000000):R K (.call 99 [ZX t,vsA r,.bool b] [])=some (I (Q4 b t r),[]):=by
 by_cases h:r.length=t.cols.length
 ·have l0:=fun ks B hB=>Zfy b t ht r h ks r.length 0 0 B hB rfl (by omega)
  have b0:(((r.length:Nat):Int)==((t.cols.length:Nat):Int))=true:=by simp [h]
  rw [show Q4 b t r=evE (Zas b t r) 0 r.length by rw [Q4,if_pos h,h]]
  simp only [Za] at l0
  rw [Zmw]
  simp -implicitDefEqProofs only [go_sem,simprocAttr,Tryz.f99,List.length_map,b0,bne,Za]
  rw [l0 _ _ ?_]
  ·split
   ·rename_i h0
    simp -implicitDefEqProofs only [go_sem,simprocAttr]
    rw [h0]
   ·rfl
  ·rfl
 ·have b0:(((r.length:Nat):Int)==((t.cols.length:Nat):Int))=false:=by
   rw [←Bool.not_eq_true,beq_iff_eq];omega
  rw [show Q4 b t r=3 by rw [Q4,if_neg h]]
  rw [Zmw]
  simp -implicitDefEqProofs only [go_sem,simprocAttr,Tryz.f99,List.length_map,b0,bne,Za]
theorem ZHr (t:Tbl) (d:Dat):R K (.call 42 [ZX t,.agg (Zh d)] [])=some (.bool (t.nm==d.nm),[]):=by
 rw [ZsK]
 simp -implicitDefEqProofs only [go_sem,simprocAttr,Tryz.f42,Za,Zh]
theorem Zqy (x:List Tbl) (ds:List Dat) (hx:x.length≤1000000) (hl:x.length=ds.length) (ks:List It):∀ (q j:Nat) (jj:Int) (Bo:Code),Zf Tryz.f41 0 Bo→jj=(j:Int)→x.length=j+q →
  RL K (.run 41 0 (.code Bo::.lp Bo (some ([1,2,15,16,17],[])) 0::.blk 0 0::ks) [(1,.rows (ds.map Zh)),(2,.fn 42 []),(15,.rows (x.map Za)),(16,I (x.length:Int)),(17,I jj)] []) =
  if (x.drop j).map (·.nm)=(ds.drop j).map (·.nm) then R K (.run 41 0 ks [] []) else some (.bool false,[])
 | 0,j,jj,Bo,hB,hj,hq=>by
  subst hj
  have d:¬(j:Int) < (x.length:Int):=by omega
  rw [List.drop_of_length_le (by omega),List.drop_of_length_le (by omega)]
  simp only [List.map_nil,if_true]
  unfold Zf at hB
  simp -implicitDefEqProofs only [go_sem,simprocAttr,Tryz.f41,Zb] at hB
  subst hB
  rw [Zc]
  simp -implicitDefEqProofs only [go_sem,simprocAttr,d]
 | q+1,j,jj,Bo,hB,hj,hq=>by
  subst hj
  have hB':=hB
  have d:(j:Int) < (x.length:Int):=by omega
  have h7:=Zs (i:=j) (n:=x.length) (by omega) (by omega)
  obtain ⟨t,ht⟩:=Ze (l:=x) (i:=j) (by omega)
  obtain ⟨e,he⟩:=Ze (l:=ds) (i:=j) (by omega)
  have gt:=ZG ht
  have ge:=YE he
  have hk:=ZHr t e
  have ih:=Zqy x ds hx hl ks q (j+1) _ _ hB' rfl (by omega)
  rw [ZE ht,ZE he]
  simp only [List.map_cons,List.cons.injEq]
  simp only [ZX,Za,Zh] at gt ge hk
  by_cases h:t.nm=e.nm
  ·have b0:(t.nm==e.nm)=true:=by simpa using h
   rw [b0] at hk
   simp only [h,true_and]
   rw [h] at hk gt
   unfold Zf at hB
   simp -implicitDefEqProofs only [go_sem,simprocAttr,Tryz.f41,Zb] at hB
   subst hB
   rw [Zc]
   simp -implicitDefEqProofs only [go_sem,simprocAttr,d,h7,gt,ge,hk]
   exact ih
  ·have b0:(t.nm==e.nm)=false:=by simpa using h
   rw [b0] at hk
   simp only [h,false_and,if_false]
   unfold Zf at hB
   simp -implicitDefEqProofs only [go_sem,simprocAttr,Tryz.f41,Zb] at hB
   subst hB
   rw [Zc]
   simp -implicitDefEqProofs only [go_sem,simprocAttr,d,h7,gt,ge,hk]
theorem Zh5 (x:List Tbl) (ds:List Dat) (hx:x.length≤1000000):R K (.call 41 [.rows (x.map Za),.rows (ds.map Zh),.fn 42 []] [])=some (.bool (decide (x.map (·.nm)=ds.map (·.nm))),[]):=by
 by_cases hl:x.length=ds.length
 ·have l0:=fun ks B hB=>Zqy x ds hx hl ks x.length 0 0 B hB rfl (by omega)
  have b0:(((x.length:Nat):Int)==((ds.length:Nat):Int))=true:=by simp [hl]
  simp only [List.drop_zero] at l0
  rw [Zne]
  simp -implicitDefEqProofs only [go_sem,simprocAttr,Tryz.f41,List.length_map,b0,bne]
  rw [l0 _ _ ?_]
  ·split
   ·rename_i h
    simp -implicitDefEqProofs only [go_sem,simprocAttr,h]
   ·rename_i h
    simp [h]
  ·rfl
 ·have b0:(((x.length:Nat):Int)==((ds.length:Nat):Int))=false:=by
   rw [←Bool.not_eq_true,beq_iff_eq];omega
  have hne:¬x.map (·.nm)=ds.map (·.nm):=fun e=>hl (by simpa using congrArg List.length e)
  rw [Zne]
  simp -implicitDefEqProofs only [go_sem,simprocAttr,Tryz.f41,List.length_map,b0,bne]
  simp [hne]
theorem YY {es:List (AV×AV)} {S:List (List UInt8)} (h:SetM es S) (k:List UInt8):∃ r,Yc .str (.str k) es 0=some r∧(k∈S→∃ i,r=some (i,.bool true))∧(k∉S→r=none)∧SetM (YK es (.str k) (.bool true) r) (k::S):=by
 obtain ⟨r,h1,h2⟩:=h.put k
 obtain ⟨h3,h4⟩:=ZeN (k:=k) es 0 h.key
 refine ⟨r,h1,fun hm=>?_,fun hm=>?_,h2⟩
 ·obtain ⟨j,h5,_⟩:=h3 ((h.mem k).2 hm)
  rw [h1] at h5
  exact ⟨0+j,by simpa using h5⟩
 ·have h5:=h4 fun h6=>hm ((h.mem k).1 h6)
  rw [h1] at h5
  simpa using h5
theorem J3 {es:List (AV×AV)} {S:List (List UInt8)} (h:SetM es S) (k:List UInt8):(k∈S→∃ i,Yc .str (.str k) es 0=some (some (i,.bool true)))∧(k∉S→Yc .str (.str k) es 0=some none):=by
 obtain ⟨r,h1,h2,h3,_⟩:=YY h k
 refine ⟨fun hm=>?_,fun hm=>?_⟩
 ·obtain ⟨i,rfl⟩:=h2 hm
  exact ⟨i,h1⟩
 ·rw [h1,h3 hm]
theorem SetM.same {es:List (AV×AV)} {S S':List (List UInt8)} (h:SetM es S) (e:∀ s,s∈S↔s∈S'):SetM es S':=⟨h.key,fun s=>(h.mem s).trans (e s)⟩
structure Led (x:List Tbl) (ds:List Dat):Prop where
 fit:FitX x
 right:RightX x
 idx:∀ t∈x,∀ y∈t.idx,Zr t y.cols
 ok:DatOk x ds
 few:FitD ds
theorem Led.to {x:List Tbl} {ds:List Dat} (h:Led x ds) {t:Tbl} (ht:t∈x) {f:Fgn} (hf:f∈t.fgn):∃ (w:Nat) (u:Tbl) (g:Dat),ixN f.tb (x.map (·.nm)) 0=(w:Int)∧x[w]? = some u∧ds[w]? = some g:=by
 obtain ⟨w,u,h1,h2⟩:=Zcx (h.right.leads t ht f hf)
 have:=h.ok.len
 obtain ⟨g,hg⟩:=Ze (l:=ds) (i:=w) (by have:=(List.getElem?_eq_some_iff.1 h2).1;omega)
 exact ⟨w,u,g,h1,h2,hg⟩
section
variable {L:List Int} {a B:Int}
theorem Zs8 (h:Gd L a B) (hB:12≤B) (k:Int):∃ (v:Val) (a':Int),R K (.call 67 [.ptr 0 0,I k] (St L a))=some (enc v,St L a')∧a≤a'∧a'≤a+12:=by
 have x0:=ZN h (by omega) 6
 by_cases k2:k=2
 ·subst k2
  refine ⟨⟨2,Zw L a 6,[]⟩,a+1,?_,by omega,by omega⟩
  rw [ZeG]
  simp -implicitDefEqProofs only [go_sem,simprocAttr,Tryz.f67,x0]
 have b2:(k==2)=false:=by simpa using k2
 by_cases k4:k=4
 ·subst k4
  refine ⟨⟨4,Zw L a 6,[]⟩,a+1,?_,by omega,by omega⟩
  rw [ZeG]
  simp -implicitDefEqProofs only [go_sem,simprocAttr,Tryz.f67,x0]
 have b4:(k==4)=false:=by simpa using k4
 by_cases k3:k=3
 ·subst k3
  obtain ⟨s,hs,hg⟩:=ZaP (l:=[[],[97],[98],[97,98],[53],[116,114,117,101]]) (Zu L a 6 (by omega) (by omega))
  simp only [List.map] at hg
  refine ⟨⟨3,0,s⟩,a+1,?_,by omega,by omega⟩
  rw [ZeG]
  simp -implicitDefEqProofs only [go_sem,simprocAttr,Tryz.f67,x0,hg]
 have b3:(k==3)=false:=by simpa using k3
 obtain ⟨v,a',x1,q1,q2,_⟩:=Zo4 h hB k
 refine ⟨v,a',?_,q1,q2⟩
 rw [ZeG]
 simp -implicitDefEqProofs only [go_sem,simprocAttr,Tryz.f67,b2,b3,b4,x1]
theorem Zmx (t:Tbl) (ht:t.cols.length≤1000):∀ (q j:Nat) (r:List Val) (a B:Int),t.cols.length=j+q→r.length=j→Gd L a B→(13*q:Int)≤B →
  ∃ (r':List Val) (a':Int),r'.length=t.cols.length∧a≤a'∧a'≤a+13*q∧∀ (ks:List It) (jj:Int) (Bo:Code),Zf Tryz.f27 0 Bo→jj=(j:Int) →
  RL K (.run 27 1 (.code Bo::.lp Bo (some ([0,5,10,11,12],[])) 3::.blk 0 3::ks) [(0,.ptr 0 0),(5,.own 2 r.length),(10,.rows (t.cols.map ZO)),(11,I (t.cols.length:Int)),(12,I jj)] [.cells [LR L,I a],.cells (Za t),.rows 3 (r.map vC) true]) =
  R K (.run 27 1 ks [(5,.own 2 r'.length)] [.cells [LR L,I a'],.cells (Za t),.rows 3 (r'.map vC) true])
 | 0,j,r,a,B,hq,hr,hG,hB'=>by
  have d:¬(j:Int) < (t.cols.length:Int):=by omega
  refine ⟨r,a,by omega,by omega,by omega,fun ks jj Bo hB hj=>?_⟩
  subst hj
  unfold Zf at hB
  simp -implicitDefEqProofs only [go_sem,simprocAttr,Tryz.f27,Zb] at hB
  subst hB
  rw [Zc]
  simp -implicitDefEqProofs only [go_sem,simprocAttr,d,Za,Yz]
 | q+1,j,r,a,B,hq,hr,hG,hB'=>by
  have d:(j:Int) < (t.cols.length:Int):=by omega
  have h7:=Zs (i:=j) (n:=t.cols.length) (by omega) (by omega)
  obtain ⟨c,hc⟩:=Ze (l:=t.cols) (i:=j) (by omega)
  have gc:=YR hc
  obtain ⟨v,a1,x0,q1,q2⟩:=Zs8 hG (by omega) c.kd
  have G1:=hG.step a1 (B - 12) (by omega) (by omega)
  have x1:=Y5 G1 (by omega) 4
  have rm:((r.length+1)*33≤Zg)=True:=eq_true (by unfold Zg;omega)
  simp only [ZO] at gc
  cases hn:c.nl with
  | false =>
   have ap:=Ja r v
   obtain ⟨r',a',p1,p2,p3,ih⟩:=Zmx t ht q (j+1) (r++[v]) a1 (B - 13) (by omega) (by simp;omega) (G1.step _ _ (by omega) (by omega)) (by omega)
   refine ⟨r',a',p1,by omega,by omega,fun ks jj Bo hB hj=>?_⟩
   subst hj
   have ih:=ih ks _ Bo hB rfl
   simp only [List.length_append,List.length_cons,List.length_nil,Nat.zero_add,Za] at ih ap ⊢
   rw [hn] at gc
   unfold Zf at hB
   simp -implicitDefEqProofs only [go_sem,simprocAttr,Tryz.f27,Zb] at hB
   subst hB
   rw [Zc]
   simp -implicitDefEqProofs only [go_sem,simprocAttr,d,h7,gc,x0,rm,ap,Za,Yz,List.length_map]
   exact ih
  | true =>
   rw [hn] at gc
   cases e0:Zw L a1 4==0 with
   | false =>
    rw [e0] at x1
    have ap:=Ja r v
    obtain ⟨r',a',p1,p2,p3,ih⟩:=Zmx t ht q (j+1) (r++[v]) (a1+1) (B - 13) (by omega) (by simp;omega) (G1.step _ _ (by omega) (by omega)) (by omega)
    refine ⟨r',a',p1,by omega,by omega,fun ks jj Bo hB hj=>?_⟩
    subst hj
    have ih:=ih ks _ Bo hB rfl
    simp only [List.length_append,List.length_cons,List.length_nil,Nat.zero_add,Za] at ih ap ⊢
    unfold Zf at hB
    simp -implicitDefEqProofs only [go_sem,simprocAttr,Tryz.f27,Zb] at hB
    subst hB
    rw [Zc]
    simp -implicitDefEqProofs only [go_sem,simprocAttr,d,h7,gc,x0,x1,rm,ap,Za,Yz,List.length_map]
    exact ih
   | true =>
    rw [e0] at x1
    have ap:=Ja r Y3
    obtain ⟨r',a',p1,p2,p3,ih⟩:=Zmx t ht q (j+1) (r++[Y3]) (a1+1) (B - 13) (by omega) (by simp;omega) (G1.step _ _ (by omega) (by omega)) (by omega)
    refine ⟨r',a',p1,by omega,by omega,fun ks jj Bo hB hj=>?_⟩
    subst hj
    have ih:=ih ks _ Bo hB rfl
    simp only [List.length_append,List.length_cons,List.length_nil,Nat.zero_add,Za,Y3] at ih ap ⊢
    unfold Zf at hB
    simp -implicitDefEqProofs only [go_sem,simprocAttr,Tryz.f27,Zb] at hB
    subst hB
    rw [Zc]
    simp -implicitDefEqProofs only [go_sem,simprocAttr,d,h7,gc,x0,x1,rm,ap,Za,Yz,List.length_map]
    exact ih
theorem ZBW (h:Gd L a B) (hB:1000≤B) (t:Tbl) (ht:t.cols.length≤60):∃ (r:List Val) (a':Int),R K (.call 27 [.ptr 0 0,ZX t] (St L a))=some (vsA r,St L a')∧r.length=t.cols.length∧a≤a'∧a'≤a+1000:=by
 obtain ⟨r,a',p1,p2,p3,e0⟩:=Zmx (L:=L) t (by omega) t.cols.length 0 [] a B (by omega) rfl h (by omega)
 refine ⟨r,a',?_,p1,p2,by omega⟩
 simp only [List.length_nil,List.map_nil,Za] at e0
 rw [ZsN]
 simp -implicitDefEqProofs only [go_sem,simprocAttr,Tryz.f27,Za,List.length_map]
 rw [e0 _ 0 _ ?_ rfl]
 ·simp -implicitDefEqProofs only [go_sem,simprocAttr,Yz,List.length_map,or_self,true_or,or_true]
 ·rfl
end
theorem Zqm (n:Int):∃ c,R K (.call 384 [I n] [])=some (I c,[]):=by
 refine ⟨if (if (1:Int) < n then 1 else n) > -1 then (if (1:Int) < n then 1 else n) else -1,?_⟩
 rw [Zi0]
 simp -implicitDefEqProofs only [go_sem,simprocAttr,Tryz.f384]
theorem ZfL (a b:List UInt8):R K (.call 385 [.str a,.str b] [])=some (.int .i64 (Lib.compareBytes a b),[]):=ZaG rfl
theorem Zlm (v w:Val):∃ c,R K (.call 287 [.agg (vC v),.agg (vC w)] [])=some (I c,[]):=by
 have x0:=Zcl v.k v.n v.s
 have x1:=Zcl w.k w.n w.s
 have e0:(⟨v.k,v.n,v.s⟩:Val)=v:=rfl
 have e1:(⟨w.k,w.n,w.s⟩:Val)=w:=rfl
 rw [e0] at x0
 rw [e1] at x1
 generalize Z3 v=p at *
 generalize Z3 w=q at *
 obtain ⟨c,x2⟩:=Zqm (ZC .i64 (p.k - q.k))
 obtain ⟨c2,x3⟩:=Zqm (ZC .i64 (p.n - q.n))
 have x4:=ZfL p.s q.s
 by_cases h0:c=0
 ·have b0:(c==0)=true:=by simpa using h0
  by_cases h3:p.k=3
  ·have b3:(p.k==3)=true:=by simpa using h3
   refine ⟨Lib.compareBytes p.s q.s,?_⟩
   rw [JD]
   simp -implicitDefEqProofs only [go_sem,simprocAttr,Tryz.f287,x0,x1,x2,x4,b0,b3,bne]
  ·have b3:(p.k==3)=false:=by simpa using h3
   refine ⟨c2,?_⟩
   rw [JD]
   simp -implicitDefEqProofs only [go_sem,simprocAttr,Tryz.f287,x0,x1,x2,x3,b0,b3,bne]
 ·have b0:(c==0)=false:=by simpa using h0
  refine ⟨c,?_⟩
  rw [JD]
  simp -implicitDefEqProofs only [go_sem,simprocAttr,Tryz.f287,x0,x1,x2,b0,bne]
theorem ZoW (a b:List Val) (ha:a.length≤1000000) (hb:b.length≤1000000):∀ (q j:Nat),a.length=j+q →
  (∃ c,∀ (ks:List It) (jj:Int) (Bo:Code),Zf Tryz.f286 0 Bo→jj=(j:Int) →
   RL K (.run 286 0 (.code Bo::.lp Bo (some ([0,1,2,11,12,13],[])) 0::.blk 0 0::ks) [(0,vsA a),(1,vsA b),(2,.fn 287 []),(11,vsA a),(12,I (a.length:Int)),(13,I jj)] [])=some (I c,[])) ∨
  (∀ (ks:List It) (jj:Int) (Bo:Code),Zf Tryz.f286 0 Bo→jj=(j:Int) →
   RL K (.run 286 0 (.code Bo::.lp Bo (some ([0,1,2,11,12,13],[])) 0::.blk 0 0::ks) [(0,vsA a),(1,vsA b),(2,.fn 287 []),(11,vsA a),(12,I (a.length:Int)),(13,I jj)] []) =
   R K (.run 286 0 ks [(0,vsA a),(1,vsA b)] []))
 | 0,j,hq=>by
  have d:¬(j:Int) < (a.length:Int):=by omega
  refine .inr fun ks jj Bo hB hj=>?_
  subst hj
  unfold Zf at hB
  simp -implicitDefEqProofs only [go_sem,simprocAttr,Tryz.f286,Zb] at hB
  subst hB
  rw [Zc]
  simp -implicitDefEqProofs only [go_sem,simprocAttr,d]
 | q+1,j,hq=>by
  have d:(j:Int) < (a.length:Int):=by omega
  have h7:=Zs (i:=j) (n:=a.length) (by omega) (by omega)
  obtain ⟨v,hv⟩:=Ze (l:=a) (i:=j) (by omega)
  have gv:=ZbH hv
  by_cases hjb:b.length≤j
  ·have d2:((b.length:Nat):Int)≤(j:Int):=by omega
   refine .inl ⟨1,fun ks jj Bo hB hj=>?_⟩
   subst hj
   unfold Zf at hB
   simp -implicitDefEqProofs only [go_sem,simprocAttr,Tryz.f286,Zb] at hB
   subst hB
   rw [Zc]
   simp -implicitDefEqProofs only [go_sem,simprocAttr,d,h7,gv,d2,List.length_map]
  ·have d2:¬((b.length:Nat):Int)≤(j:Int):=by omega
   obtain ⟨w,hw⟩:=Ze (l:=b) (i:=j) (by omega)
   have gw:=ZbH hw
   obtain ⟨c,xc⟩:=Zlm v w
   by_cases h0:c=0
   ·have b0:(c==0)=true:=by simpa using h0
    rcases ZoW a b ha hb q (j+1) (by omega) with ⟨c',ih⟩ | ih
    ·refine .inl ⟨c',fun ks jj Bo hB hj=>?_⟩
     subst hj
     have ih:=ih ks _ Bo hB rfl
     unfold Zf at hB
     simp -implicitDefEqProofs only [go_sem,simprocAttr,Tryz.f286,Zb] at hB
     subst hB
     rw [Zc]
     simp -implicitDefEqProofs only [go_sem,simprocAttr,d,h7,gv,gw,d2,xc,b0,bne,List.length_map]
     exact ih
    ·refine .inr fun ks jj Bo hB hj=>?_
     subst hj
     have ih:=ih ks _ Bo hB rfl
     unfold Zf at hB
     simp -implicitDefEqProofs only [go_sem,simprocAttr,Tryz.f286,Zb] at hB
     subst hB
     rw [Zc]
     simp -implicitDefEqProofs only [go_sem,simprocAttr,d,h7,gv,gw,d2,xc,b0,bne,List.length_map]
     exact ih
   ·have b0:(c==0)=false:=by simpa using h0
    refine .inl ⟨c,fun ks jj Bo hB hj=>?_⟩
    subst hj
    unfold Zf at hB
    simp -implicitDefEqProofs only [go_sem,simprocAttr,Tryz.f286,Zb] at hB
    subst hB
    rw [Zc]
    simp -implicitDefEqProofs only [go_sem,simprocAttr,d,h7,gv,gw,d2,xc,b0,bne,List.length_map]
theorem Zeq (a b:List Val) (ha:a.length≤1000000) (hb:b.length≤1000000):∃ c,R K (.call 190 [vsA a,vsA b] [])=some (I c,[]):=by
 have key:∃ c,R K (.call 286 [vsA a,vsA b,.fn 287 []] [])=some (I c,[]):=by
  rcases ZoW a b ha hb a.length 0 (by omega) with ⟨c,l0⟩ | l0
  ·refine ⟨c,?_⟩
   rw [ZaX]
   simp -implicitDefEqProofs only [go_sem,simprocAttr,Tryz.f286,List.length_map]
   rw [l0 _ 0 _ ?_ rfl]
   rfl
  ·by_cases hl:a.length < b.length
   ·have d:((a.length:Nat):Int) < (b.length:Int):=by omega
    refine ⟨-1,?_⟩
    rw [ZaX]
    simp -implicitDefEqProofs only [go_sem,simprocAttr,Tryz.f286,List.length_map]
    rw [l0 _ 0 _ ?_ rfl]
    ·simp -implicitDefEqProofs only [go_sem,simprocAttr,d,List.length_map]
    ·rfl
   ·have d:¬((a.length:Nat):Int) < (b.length:Int):=by omega
    refine ⟨0,?_⟩
    rw [ZaX]
    simp -implicitDefEqProofs only [go_sem,simprocAttr,Tryz.f286,List.length_map]
    rw [l0 _ 0 _ ?_ rfl]
    ·simp -implicitDefEqProofs only [go_sem,simprocAttr,d,List.length_map]
    ·rfl
 obtain ⟨c,hc⟩:=key
 refine ⟨c,?_⟩
 rw [ZjZ]
 simp -implicitDefEqProofs only [go_sem,simprocAttr,Tryz.f190,hc]
theorem Zzj (t:Tbl) (ht:t.cols.length≤1000000) (hk:t.key.length≤1000000) (hN:Zr t t.key) (r s:List Val) (hr:r.length=t.cols.length) (hs:s.length=t.cols.length) :
  ∃ c,R K (.call 395 [vsA r,vsA s,.ptr 0 0] [.cells (Za t)])=some (I c,[.cells (Za t)]):=by
 have x0:=Yy t ht r hr t.key hN hk
 have x1:=Yy t ht s hs t.key hN hk
 obtain ⟨c,x2⟩:=Zeq (ZQ t t.key r) (ZQ t t.key s) (by rw [Z5];exact hk) (by rw [Z5];exact hk)
 refine ⟨c,?_⟩
 simp only [ZX,Za] at x0 x1 ⊢
 rw [Zpm]
 simp -implicitDefEqProofs only [go_sem,simprocAttr,Tryz.f395,x0,x1,x2]
theorem Wu (rs:List (List Val)) (i:Nat) (s:List Val):(rs.map Zn).set i [.rows (s.map vC)]=(rs.set i s).map Zn:=by rw [List.map_set];rfl
def Shuf (rs rs':List (List Val)):Prop:=rs'.length=rs.length∧∀ r∈rs',r∈rs
theorem Shuf.trans {a b c:List (List Val)} (h:Shuf a b) (h2:Shuf b c):Shuf a c:=⟨h2.1.trans h.1,fun r hr=>h.2 r (h2.2 r hr)⟩
theorem Shuf.refl (a:List (List Val)):Shuf a a:=⟨rfl,fun _ h=>h⟩
theorem Shuf.fit {t:Tbl} {a b:List (List Val)} (h:Shuf a b) (hf:ZK t a):ZK t b:=fun r hr=>hf r (h.2 r hr)
abbrev soH (t:Tbl) (rs:List (List Val)):Zd:=[.rows 1 (rs.map Zn) true,.cells (Za t)]
abbrev soF:AV:=.fn 395 [.ptr 1 0]
theorem ZqU (t:Tbl) (ht:t.cols.length≤1000000) (hk:t.key.length≤1000000) (hN:Zr t t.key) (b i:Int):∀ (j:Nat) (rs:List (List Val)),j < rs.length→rs.length≤1000→ZK t rs →
  ∃ rs',Shuf rs rs'∧∀ (ks:List It) (jj:Int) (Bo:Code),Zf Tryz.f376 2 Bo→jj=(j:Int) →
  RL K (.run 376 2 (.code Bo::.lp Bo (some ([0,1,2,3,8,9],[])) 2::.blk 2 2::ks) [(0,.own 0 rs.length),(1,I 0),(2,I b),(3,soF),(8,I i),(9,I jj)] (soH t rs)) =
  R K (.run 376 2 ks [(0,.own 0 rs'.length),(1,I 0),(2,I b),(3,soF),(8,I i)] (soH t rs'))
 | 0,rs,hj,hl,hf=>by
  refine ⟨rs,Shuf.refl _,fun ks jj Bo hB hjj=>?_⟩
  subst hjj
  simp only [soH,Za]
  unfold Zf at hB
  simp -implicitDefEqProofs only [go_sem,simprocAttr,Tryz.f376,Zb] at hB
  subst hB
  rw [Zc]
  simp -implicitDefEqProofs only [go_sem,simprocAttr,YD]
 | j+1,rs,hj,hl,hf=>by
  obtain ⟨r,hr⟩:=Ze (l:=rs) (i:=j+1) hj
  obtain ⟨s,hs⟩:=Ze (l:=rs) (i:=j) (by omega)
  have gr:=Yj hr
  have gs:=Yj hs
  have c1:(((j+1:Nat)):Int)=(j:Int)+1:=by omega
  rw [c1] at gr
  have fr:=hf r (List.mem_of_getElem? hr)
  have fs:=hf s (List.mem_of_getElem? hs)
  obtain ⟨c,xc⟩:=Zzj t ht hk hN r s fr fs
  have d:((0:Int) < (j:Int)+1)=True:=eq_true (by omega)
  have w1:ZC .i64 ((j:Int)+1 - 1)=(j:Int):=by rw [ZV (by omega) (by omega)];omega
  have ti:((j:Int)+1).toNat=j+1:=by omega
  by_cases h0:c < 0
  ·have m2:Shuf rs ((rs.set (j+1) s).set j r):=by
    refine ⟨by simp,fun y hy=>?_⟩
    rcases List.mem_or_eq_of_mem_set hy with h1 | h1
    ·rcases List.mem_or_eq_of_mem_set h1 with h2 | h2
     ·exact h2
     ·rw [h2];exact List.mem_of_getElem? hs
    ·rw [h1];exact List.mem_of_getElem? hr
   obtain ⟨rs',p1,ih⟩:=ZqU t ht hk hN b i j ((rs.set (j+1) s).set j r) (by simp;omega) (by simpa using hl) (m2.fit hf)
   refine ⟨rs',m2.trans p1,fun ks jj Bo hB hjj=>?_⟩
   subst hjj
   have ih:=ih ks _ Bo hB rfl
   have br:(rs.map Zn)[j+1]? = some (Zn r):=by simp [hr]
   have b2:((rs.set (j+1) s).map Zn)[j]? = some (Zn s):=by
    rw [List.getElem?_map,List.getElem?_set_ne (by omega),hs];rfl
   have g2:=Z2 b2
   have bs:(rs.map Zn)[j]? = some (Zn s):=by simp [hs]
   have n2:((rs.set (j+1) s).map Zn).length=rs.length:=by simp
   have sp:∀ x y:AV,splice [x] 0 [y]=[y]:=fun _ _=>rfl
   have se1:=Wu rs (j+1) s
   have se2:=Wu (rs.set (j+1) s) j r
   simp only [List.length_set] at ih
   rw [c1]
   simp only [soH,Za,Zn] at xc ih gr gs br bs b2 g2 n2 se1 se2 ⊢
   unfold Zf at hB
   simp -implicitDefEqProofs only [go_sem,simprocAttr,Tryz.f376,Zb] at hB
   subst hB
   rw [Zc]
   simp -implicitDefEqProofs only [go_sem,simprocAttr,d,w1,ti,h0,xc,gr,gs,br,bs,b2,g2,n2,sp,se1,se2,YD,List.length_map,Int.toNat_natCast]
   exact ih
  ·refine ⟨rs,Shuf.refl _,fun ks jj Bo hB hjj=>?_⟩
   subst hjj
   have br:(rs.map Zn)[j+1]? = some (Zn r):=by simp [hr]
   have bs:(rs.map Zn)[j]? = some (Zn s):=by simp [hs]
   rw [c1]
   simp only [soH,Za,Zn] at xc gr gs br bs ⊢
   unfold Zf at hB
   simp -implicitDefEqProofs only [go_sem,simprocAttr,Tryz.f376,Zb] at hB
   subst hB
   rw [Zc]
   simp -implicitDefEqProofs only [go_sem,simprocAttr,d,w1,ti,h0,xc,gr,gs,br,bs,YD,List.length_map,Int.toNat_natCast]
theorem Zph (t:Tbl) (ht:t.cols.length≤1000000) (hk:t.key.length≤1000000) (hN:Zr t t.key):∀ (q i:Nat) (rs:List (List Val)),rs.length≤i+q→i≤1001→rs.length≤1000→ZK t rs →
  ∃ rs',Shuf rs rs'∧∀ (ks:List It) (ii:Int) (Bo:Code),Zf Tryz.f376 0 Bo→ii=(i:Int) →
  RL K (.run 376 2 (.code Bo::.lp Bo (some ([0,1,2,3,8],[])) 2::.blk 0 2::ks) [(0,.own 0 rs.length),(1,I 0),(2,I (rs.length:Int)),(3,soF),(8,I ii)] (soH t rs)) =
  R K (.run 376 2 ks [] (soH t rs'))
 | 0,i,rs,hq,hi,hl,hf=>by
  have d:¬(i:Int) < (rs.length:Int):=by omega
  refine ⟨rs,Shuf.refl _,fun ks ii Bo hB hii=>?_⟩
  subst hii
  simp only [soH,Za]
  unfold Zf at hB
  simp -implicitDefEqProofs only [go_sem,simprocAttr,Tryz.f376,Zb] at hB
  subst hB
  rw [Zc]
  simp -implicitDefEqProofs only [go_sem,simprocAttr,d,YD]
 | q+1,i,rs,hq,hi,hl,hf=>by
  by_cases hlt:i < rs.length
  ·have d:(i:Int) < (rs.length:Int):=by omega
   have w1:ZC .i64 ((i:Int)+1)=((i+1:Nat):Int):=by rw [ZV (by omega) (by omega)];rfl
   obtain ⟨rs1,m1,l2⟩:=ZqU t ht hk hN (rs.length:Int) (i:Int) i rs hlt hl hf
   obtain ⟨rs',m2,ih⟩:=Zph t ht hk hN q (i+1) rs1 (by have:=m1.1;omega) (by omega) (by have:=m1.1;omega) (m1.fit hf)
   refine ⟨rs',m1.trans m2,fun ks ii Bo hB hii=>?_⟩
   subst hii
   have ih:=ih ks _ Bo hB rfl
   rw [m1.1] at ih l2
   simp only [soH,Za] at ih l2 ⊢
   unfold Zf at hB
   simp -implicitDefEqProofs only [go_sem,simprocAttr,Tryz.f376,Zb] at hB
   subst hB
   rw [Zc]
   simp -implicitDefEqProofs only [go_sem,simprocAttr,d,YD]
   rw [l2 _ _ _ ?_ rfl]
   ·simp -implicitDefEqProofs only [go_sem,simprocAttr,w1,YD]
    exact ih
   ·rfl
  ·have d:¬(i:Int) < (rs.length:Int):=by omega
   refine ⟨rs,Shuf.refl _,fun ks ii Bo hB hii=>?_⟩
   subst hii
   simp only [soH,Za]
   unfold Zf at hB
   simp -implicitDefEqProofs only [go_sem,simprocAttr,Tryz.f376,Zb] at hB
   subst hB
   rw [Zc]
   simp -implicitDefEqProofs only [go_sem,simprocAttr,d,YD]
theorem ZjV (t:Tbl) (ht:t.cols.length≤1000000) (hk:t.key.length≤1000000) (hN:Zr t t.key) (rs:List (List Val)) (hl:rs.length≤1000) (hf:ZK t rs) :
  ∃ rs',Shuf rs rs'∧R K (.call 376 [.own 0 rs.length,I 0,I (rs.length:Int),soF] (soH t rs))=some (.tup [],soH t rs'):=by
 obtain ⟨rs',m,l0⟩:=Zph t ht hk hN rs.length 1 rs (by omega) (by omega) hl hf
 refine ⟨rs',m,?_⟩
 simp only [soH,Za] at l0 ⊢
 rw [Zqh]
 simp -implicitDefEqProofs only [go_sem,simprocAttr,Tryz.f376,YD]
 rw [l0 _ 1 _ ?_ rfl]
 ·simp -implicitDefEqProofs only [go_sem,simprocAttr,YD]
 ·rfl
theorem Zc8 (σ:Nat→Nat):∀ l:List (List Val),XK σ (l.map Zn)=l.map Zn
 | []=>rfl
 | x::l=>by
  simp only [List.map_cons,XK,Zc8 σ l]
  rfl
attribute [go_sem] Zc8 YD
theorem Zpu (t:Tbl) (ht:t.cols.length≤1000000) (hk:t.key.length≤1000000) (hN:Zr t t.key) (rs:List (List Val)) (hl:rs.length < 20) (hf:ZK t rs) :
  ∃ rs',Shuf rs rs'∧R K (.call 442 [.own 0 rs.length,I (rs.length:Int),soF] (soH t rs))=some (.tup [],soH t rs'):=by
 obtain ⟨rs',m,x0⟩:=ZjV t ht hk hN rs (by omega) hf
 have d1:¬(20:Int)≤(rs.length:Int):=by omega
 have d2:¬(20:Int) < (rs.length:Int):=by omega
 have ml:=m.1
 refine ⟨rs',m,?_⟩
 simp only [soH,Za] at x0 ⊢
 rw [Zri]
 simp -implicitDefEqProofs only [go_sem,simprocAttr,Tryz.f442,d1]
 rw [Zc]
 simp -implicitDefEqProofs only [go_sem,simprocAttr,d1,d2,x0,ml,true_or]
 rw [Zc]
 simp -implicitDefEqProofs only [go_sem,simprocAttr,d1,d2,x0,ml,true_or]
theorem ZhQ (t:Tbl) (ht:t.cols.length≤1000000) (hk:t.key.length≤1000000) (hN:Zr t t.key) (rs:List (List Val)) (hl:rs.length < 20) (hf:ZK t rs) :
  ∃ rs',Shuf rs rs'∧R K (.call 394 [.own 0 rs.length,soF] (soH t rs))=some (.tup [],soH t rs'):=by
 obtain ⟨rs',m,x0⟩:=Zpu t ht hk hN rs hl hf
 refine ⟨rs',m,?_⟩
 simp only [soH,Za] at x0 ⊢
 rw [Zpv]
 simp -implicitDefEqProofs only [go_sem,simprocAttr,Tryz.f394,x0,true_or]
theorem WP (t:Tbl) (ht:t.cols.length≤1000000) (hk:t.key.length≤1000000) (hN:Zr t t.key) (rs:List (List Val)) (hl:rs.length < 20) (hf:ZK t rs) :
  ∃ rs',Shuf rs rs'∧R K (.call 300 [ZX t,.own 0 rs.length] [.rows 1 (rs.map Zn) true])=some (.tup [],[.rows 1 (rs'.map Zn) true]):=by
 obtain ⟨rs',m,x0⟩:=ZhQ t ht hk hN rs hl hf
 refine ⟨rs',m,?_⟩
 simp only [soH,ZX,Za] at x0 ⊢
 rw [ZqM]
 simp -implicitDefEqProofs only [go_sem,simprocAttr,Tryz.f300,x0,true_or]
theorem X8 (rs:List (List Val)) (hl:rs.length≤1000000):R K (.call 30 [.rows (rs.map Zn)] [])=some (.own 0 rs.length,[.rows 1 (rs.map Zn) true]):=by
 cases rs with
 | nil=>exact ZmE rfl rfl
 | cons r rs =>
  have rm:((rs.length+1)*25≤Zg)=True:=eq_true (by unfold Zg;simp at hl;omega)
  have al:=ZaK (r::rs)
  have lr:=YD (r::rs)
  simp only [List.map_cons] at al lr
  have l1:((Zn r).length==1)=true:=rfl
  have ar:=ZaK rs
  have lL:Zk (Zn r)=[]:=rfl
  rw [List.map_cons,Zsg rfl rfl]
  simp -implicitDefEqProofs only [go_sem,simprocAttr,Tryz.f30,rm,al,ar,l1,lr,lL,Bool.and_true,List.isEmpty_cons,List.length_cons,List.length_map,List.length_nil,Nat.zero_add,List.nil_append,Nat.zero_lt_succ]
theorem Jr (a b c:List UInt8) (l:List Val) (ha:a.length≤100000) (hb:b.length≤100000) (hc:c.length≤100000) (hl:l.length≤1000000):∃ s,R K (.call 68 [.str a,.str b,.str c,vsA l] [])=some (.str s,[]):=by
 have x0:=Y6 l hl
 have kl:=Zjy l
 have x1:R K (.call 111 [.rows [[.str a],[.str b],[.str c],[.str (YM l)]],.str [124]] [])=some (.str (Lib.join [a,b,c,YM l] [124]),[]):=ZaG (by
  show Zkw [.rows [[.str a],[.str b],[.str c],[.str (YM l)]],.str [124]]=_
  simp only [Zkw,ZdI]
  rw [if_pos]
  simp only [Bool.and_eq_true,decide_eq_true_eq,Lib.join,List.intercalate,List.intersperse,List.flatten_cons,List.flatten_nil,List.length_append,List.length_cons,List.length_nil]
  omega)
 refine ⟨Lib.join [a,b,c,YM l] [124],?_⟩
 rw [Ztd]
 simp -implicitDefEqProofs only [go_sem,simprocAttr,Tryz.f68,x0,x1]
theorem ZrK:List.range 1=[0]:=rfl
attribute [go_sem] Zil ZeK List.range_zero ZrK List.contains_cons List.contains_nil
theorem ZE2 (a:List AV) (l:List (List AV)):at? (a::l) 0=some a:=rfl
theorem ZH6 (a b:List AV) (l:List (List AV)):at? (a::b::l) 1=some b:=rfl
theorem ZGZ (a b c:List AV) (l:List (List AV)):at? (a::b::c::l) 2=some c:=rfl
theorem ZAH:(41≤Zg)=True:=eq_true (by unfold Zg;omega)
theorem Zz6:(82≤Zg)=True:=eq_true (by unfold Zg;omega)
theorem Zt3:(123≤Zg)=True:=eq_true (by unfold Zg;omega)
attribute [go_sem] ZE2 ZH6 ZGZ ZAH Zz6 Zt3
def nlC (t:Tbl):List AV:=[.str t.nm,.nils]
abbrev Jz (x:List Tbl):Zd:=[.cells [.rows (x.map Za),.rows (x.map nlC),.nils]]
theorem ZlH (x:List Tbl) (h1:1≤x.length) (h3:x.length≤3):R K (.call 23 [WI x] [])=some (.ptr 0 0,Jz x):=by
 rcases x with _ | ⟨a,_ | ⟨b,_ | ⟨c,_ | ⟨d,x⟩⟩⟩⟩
 ·simp at h1
 ·simp only [Jz,List.map_cons,List.map_nil,Za,nlC]
  rw [Zht]
  simp -implicitDefEqProofs only [go_sem,simprocAttr,Tryz.f23,Za,nlC,List.map_cons,List.map_nil]
  rw [Zc]
  simp -implicitDefEqProofs only [go_sem,simprocAttr,Za]
  rw [Zc]
  simp -implicitDefEqProofs only [go_sem,simprocAttr,Za]
 ·simp only [Jz,List.map_cons,List.map_nil,Za,nlC]
  rw [Zht]
  simp -implicitDefEqProofs only [go_sem,simprocAttr,Tryz.f23,Za,nlC,List.map_cons,List.map_nil]
  rw [Zc]
  simp -implicitDefEqProofs only [go_sem,simprocAttr,Za]
  rw [Zc]
  simp -implicitDefEqProofs only [go_sem,simprocAttr,Za]
  rw [Zc]
  simp -implicitDefEqProofs only [go_sem,simprocAttr,Za]
 ·simp only [Jz,List.map_cons,List.map_nil,Za,nlC]
  rw [Zht]
  simp -implicitDefEqProofs only [go_sem,simprocAttr,Tryz.f23,Za,nlC,List.map_cons,List.map_nil]
  rw [Zc]
  simp -implicitDefEqProofs only [go_sem,simprocAttr,Za]
  rw [Zc]
  simp -implicitDefEqProofs only [go_sem,simprocAttr,Za]
  rw [Zc]
  simp -implicitDefEqProofs only [go_sem,simprocAttr,Za]
  rw [Zc]
  simp -implicitDefEqProofs only [go_sem,simprocAttr,Za]
 ·simp at h3
def Zam:Nat→List Dat→List (List AV)
 | _,[]=>[]
 | k,d::l=>[.str d.nm,.own k d.rows.length]::Zam (k+1) l
def Za7 (d:Dat):Blk:=.rows 1 (d.rows.map Zn) true
theorem Zc3 (ds:List Dat) (h1:1≤ds.length) (h3:ds.length≤3) (hr:∀ d∈ds,d.rows.length≤1000):R K (.call 62 [YF ds] [])=some (.agg [.own 0 ds.length],.rows 2 (Zam 1 ds) true::ds.map Za7):=by
 rcases ds with _ | ⟨a,_ | ⟨b,_ | ⟨c,_ | ⟨d,x⟩⟩⟩⟩
 ·simp at h1
 ·have h:=fun d (hd:d∈[a])=>X8 d.rows (by have:=hr d hd;omega)
  have xa:=h a (by simp)
  simp only [Zam,Za7,List.map_cons,List.map_nil,List.length_cons,List.length_nil]
  rw [Zbr]
  simp -implicitDefEqProofs only [go_sem,simprocAttr,Tryz.f62,Zh,xa]
  rw [Zc]
  simp -implicitDefEqProofs only [go_sem,simprocAttr,Zh,xa]
  rw [Zc]
  simp -implicitDefEqProofs only [go_sem,simprocAttr,Zh,xa]
 ·have h:=fun d (hd:d∈[a,b])=>X8 d.rows (by have:=hr d hd;omega)
  have xa:=h a (by simp)
  have xb:=h b (by simp)
  simp only [Zam,Za7,List.map_cons,List.map_nil,List.length_cons,List.length_nil]
  rw [Zbr]
  simp -implicitDefEqProofs only [go_sem,simprocAttr,Tryz.f62,Zh,xa,xb]
  rw [Zc]
  simp -implicitDefEqProofs only [go_sem,simprocAttr,Zh,xa,xb]
  rw [Zc]
  simp -implicitDefEqProofs only [go_sem,simprocAttr,Zh,xa,xb]
  rw [Zc]
  simp -implicitDefEqProofs only [go_sem,simprocAttr,Zh,xa,xb]
 ·have h:=fun d (hd:d∈[a,b,c])=>X8 d.rows (by have:=hr d hd;omega)
  have xa:=h a (by simp)
  have xb:=h b (by simp)
  have xc:=h c (by simp)
  simp only [Zam,Za7,List.map_cons,List.map_nil,List.length_cons,List.length_nil]
  rw [Zbr]
  simp -implicitDefEqProofs only [go_sem,simprocAttr,Tryz.f62,Zh,xa,xb,xc]
  rw [Zc]
  simp -implicitDefEqProofs only [go_sem,simprocAttr,Zh,xa,xb,xc]
  rw [Zc]
  simp -implicitDefEqProofs only [go_sem,simprocAttr,Zh,xa,xb,xc]
  rw [Zc]
  simp -implicitDefEqProofs only [go_sem,simprocAttr,Zh,xa,xb,xc]
  rw [Zc]
  simp -implicitDefEqProofs only [go_sem,simprocAttr,Zh,xa,xb,xc]
 ·simp at h3
abbrev noD (x:List Tbl):List Dat:=x.map fun t=>⟨t.nm,[]⟩
theorem Zs0 (x:List Tbl) (h1:1≤x.length) (h3:x.length≤3):R K (.call 62 [.agg [.rows (x.map nlC)]] [])=some (.agg [.own 0 x.length],.rows 2 (Zam 1 (noD x)) true::(noD x).map Za7):=by
 have xa:=X8 [] (by simp)
 simp only [List.length_nil,List.map_nil] at xa
 rcases x with _ | ⟨a,_ | ⟨b,_ | ⟨c,_ | ⟨d,x⟩⟩⟩⟩
 ·simp at h1
 ·simp only [Zam,Za7,nlC,List.map_cons,List.map_nil,List.length_cons,List.length_nil]
  rw [Zbr]
  simp -implicitDefEqProofs only [go_sem,simprocAttr,Tryz.f62,xa]
  rw [Zc]
  simp -implicitDefEqProofs only [go_sem,simprocAttr,xa]
  rw [Zc]
  simp -implicitDefEqProofs only [go_sem,simprocAttr,xa]
 ·simp only [Zam,Za7,nlC,List.map_cons,List.map_nil,List.length_cons,List.length_nil]
  rw [Zbr]
  simp -implicitDefEqProofs only [go_sem,simprocAttr,Tryz.f62,xa]
  rw [Zc]
  simp -implicitDefEqProofs only [go_sem,simprocAttr,xa]
  rw [Zc]
  simp -implicitDefEqProofs only [go_sem,simprocAttr,xa]
  rw [Zc]
  simp -implicitDefEqProofs only [go_sem,simprocAttr,xa]
 ·simp only [Zam,Za7,nlC,List.map_cons,List.map_nil,List.length_cons,List.length_nil]
  rw [Zbr]
  simp -implicitDefEqProofs only [go_sem,simprocAttr,Tryz.f62,xa]
  rw [Zc]
  simp -implicitDefEqProofs only [go_sem,simprocAttr,xa]
  rw [Zc]
  simp -implicitDefEqProofs only [go_sem,simprocAttr,xa]
  rw [Zc]
  simp -implicitDefEqProofs only [go_sem,simprocAttr,xa]
  rw [Zc]
  simp -implicitDefEqProofs only [go_sem,simprocAttr,xa]
 ·simp at h3
abbrev txC (x:List Tbl) (ds:List Dat) (l m:Nat):List AV:=[.ptr l 0,I 0,.rows (x.map Za),.rows (ds.map Zh),.rows (x.map nlC),.mp m,.bool false,.bool false]
theorem Zs9 (x:List Tbl) (h1:1≤x.length) (h3:x.length≤3):R K (.call 24 [.ptr 0 0] (Jz x))=some (.ptr 1 0,Jz x++[.cells (txC x (noD x) 0 2),.map []]):=by
 have x0:=Zs0 x h1 h3
 rcases x with _ | ⟨a,_ | ⟨b,_ | ⟨c,_ | ⟨d,x⟩⟩⟩⟩
 ·simp at h1
 ·simp only [Zam,Za7,nlC,List.map_cons,List.map_nil,List.length_cons,List.length_nil,Jz,Nat.reduceAdd,Nat.zero_add,txC,Zh,Za,List.cons_append,List.nil_append] at x0 ⊢
  rw [Zhh]
  simp -implicitDefEqProofs only [go_sem,simprocAttr,Tryz.f24,x0,true_or,Zl,ZB,Zk,Zm]
 ·simp only [Zam,Za7,nlC,List.map_cons,List.map_nil,List.length_cons,List.length_nil,Jz,Nat.reduceAdd,Nat.zero_add,txC,Zh,Za,List.cons_append,List.nil_append] at x0 ⊢
  rw [Zhh]
  simp -implicitDefEqProofs only [go_sem,simprocAttr,Tryz.f24,x0,true_or,Zl,ZB,Zk,Zm]
 ·simp only [Zam,Za7,nlC,List.map_cons,List.map_nil,List.length_cons,List.length_nil,Jz,Nat.reduceAdd,Nat.zero_add,txC,Zh,Za,List.cons_append,List.nil_append] at x0 ⊢
  rw [Zhh]
  simp -implicitDefEqProofs only [go_sem,simprocAttr,Tryz.f24,x0,true_or,Zl,ZB,Zk,Zm]
 ·simp at h3
abbrev txH (x:List Tbl) (ds:List Dat) (es:List (AV×AV)):Zd:=[.cells (txC x ds 1 2),.cells [.rows (x.map Za),.rows (x.map nlC),.nils],.map es]
theorem ZgZ:∀ l:List Tbl,ZL (l.map nlC)=[]
 | []=>rfl
 | x::l=>by simpa [nlC,ZL,Zk,Zm] using ZgZ l
theorem ZjF (σ:Nat→Nat):∀ l:List Tbl,XK σ (l.map nlC)=l.map nlC
 | []=>rfl
 | x::l=>by
  simp only [List.map_cons,XK,ZjF σ l]
  rfl
theorem Zgo (σ:Nat→Nat):∀ l:List Dat,XK σ (l.map Zh)=l.map Zh
 | []=>rfl
 | x::l=>by
  simp only [List.map_cons,XK,Zgo σ l]
  rfl
attribute [go_sem] ZgZ ZjF Zgo Zb1
structure Seen (x:List Tbl) (ds:List Dat) (nm:List UInt8) (w:Nat) (u:Tbl) (d:Dat):Prop where
 ix:ixN nm (x.map (·.nm)) 0=(w:Int)
 tb:x[w]? = some u
 da:ds[w]? = some d
theorem Zrv (x:List Tbl) (ds:List Dat) (es:List (AV×AV)) (hx:x.length≤1000000) {nm:List UInt8} {w:Nat} {u:Tbl} {d:Dat} (h:Seen x ds nm w u d) :
  R K (.call 108 [.ptr 0 0,.str nm] (txH x ds es))=some (.tup [ZX u,.rptr (Zh d) 0,I 0],txH x ds es):=by
 have xt:=Yu x nm hx
 rw [h.ix] at xt
 have gu:=ZG h.tb
 have gd:=YE h.da
 have b0:¬(w:Int) < 0:=by omega
 simp only [txH,txC,ZX,Za,Zh] at gu gd ⊢
 rw [Zpa]
 simp -implicitDefEqProofs only [go_sem,simprocAttr,Tryz.f108,xt,gu,gd,b0,Za,Zh]
def chC (nm:List UInt8) (r:List Val):List AV:=[I 1,.str nm,.rows [],vsA r]
theorem Zp3 (x:List Tbl) (ds:List Dat) (es:List (AV×AV)) (hx:x.length≤1000000) {nm:List UInt8} {w:Nat} {u:Tbl} {d:Dat} (h:Seen x ds nm w u d) (hu:u.cols.length≤1000000) (r:List Val) (hr:r.length≤1000000) :
  R K (.call 196 [.ptr 0 0,.rows [chC nm r]] (txH x ds es))=some (I (Q4 true u r),txH x ds es):=by
 have xs:=Zrv x ds es hx h
 have xr:=Ze5 true u hu r hr
 have xw:R K (.call 193 [.int .i64 1,.int .i64 1,.int .i64 3] [])=some (.bool true,[]):=Qb 1 1 3
 simp only [txH,txC,ZX,Za,Zh] at xs xr ⊢
 by_cases h0:Q4 true u r=0
 ·have b0:(Q4 true u r==0)=true:=by simpa using h0
  rw [h0] at xr ⊢
  rw [ZiE]
  simp -implicitDefEqProofs only [go_sem,simprocAttr,Tryz.f196,chC]
  rw [Zc]
  simp -implicitDefEqProofs only [go_sem,simprocAttr,chC,xs,xr,xw,bne]
  rw [Zc]
  simp -implicitDefEqProofs only [go_sem,simprocAttr,chC,xs,xr,xw,bne]
 ·have b0:(Q4 true u r==0)=false:=by simpa using h0
  rw [ZiE]
  simp -implicitDefEqProofs only [go_sem,simprocAttr,Tryz.f196,chC]
  rw [Zc]
  simp -implicitDefEqProofs only [go_sem,simprocAttr,chC,xs,xr,xw,bne,b0]
def SetE (es:List (AV×AV)):Prop:=∃ S,SetM es S
theorem SetE.put {es:List (AV×AV)} (h:SetE es) (k:List UInt8):∃ r,Yc .str (.str k) es 0=some r∧SetE (YK es (.str k) (.bool true) r):=by
 obtain ⟨S,h⟩:=h
 obtain ⟨r,h1,_,_,h2⟩:=YY h k
 exact ⟨r,h1,k::S,h2⟩
structure Noted (x:List Tbl) (u:Tbl) (r:List Val):Prop where
 cols:u.cols.length≤1000000
 row:r.length=u.cols.length
 key:Zr u u.key∧u.key.length≤1000000
 idx:u.idx.length≤1000000∧∀ y∈u.idx,Zr u y.cols∧y.cols.length≤1000000∧y.nm.length≤100000
 fgn:u.fgn.length≤1000000∧∀ f∈u.fgn,Zr u f.cols∧f.cols.length≤1000000∧f.tb.length≤100000
theorem Zic (x:List Tbl) (ds:List Dat) (nm:List UInt8) (hnm:nm.length≤100000) (u:Tbl) (r:List Val) (hn:Noted x u r) :
  ∀ (q j:Nat) (es:List (AV×AV)),u.idx.length=j+q→SetE es→∃ es',SetE es'∧∀ (ks:List It) (jj:Int) (Bo:Code),Zf Tryz.f197 6 Bo→jj=(j:Int) →
  RL K (.run 197 3 (.code Bo::.lp Bo (some ([0,5,6,23,24,25,105,106,107],[])) 5::.blk 6 5::ks) [(0,.ptr 0 0),(5,.ptr 3 0),(6,.ptr 4 0),(23,.rows [chC nm r]),(24,I 1),(25,I 0),(105,.rows (u.idx.map ZT)),(106,I (u.idx.length:Int)),(107,I jj)] (txH x ds es++[.cells (chC nm r),.cells (Za u)])) =
  R K (.run 197 3 ks [(0,.ptr 0 0),(5,.ptr 3 0),(6,.ptr 4 0),(23,.rows [chC nm r]),(24,I 1),(25,I 0)] (txH x ds es'++[.cells (chC nm r),.cells (Za u)]))
 | 0,j,es,hq,hS=>by
  have d:¬(j:Int) < (u.idx.length:Int):=by omega
  refine ⟨es,hS,fun ks jj Bo hB hj=>?_⟩
  subst hj
  simp only [txH,txC,chC,Za,List.cons_append,List.nil_append]
  unfold Zf at hB
  simp -implicitDefEqProofs only [go_sem,simprocAttr,Tryz.f197,Zb] at hB
  subst hB
  rw [Zc]
  simp -implicitDefEqProofs only [go_sem,simprocAttr,d,Za,chC]
 | q+1,j,es,hq,hS=>by
  have d:(j:Int) < (u.idx.length:Int):=by omega
  have hil:=hn.idx.1
  have h7:=Zs (i:=j) (n:=u.idx.length) (by omega) (by omega)
  obtain ⟨y,hy⟩:=Ze (l:=u.idx) (i:=j) (by omega)
  have gy:=Ji hy
  obtain ⟨n1,n2,n3⟩:=hn.idx.2 y (List.mem_of_getElem? hy)
  have xp:=Yy u hn.cols r hn.row y.cols n1 n2
  obtain ⟨s,xm⟩:=Jr [105,110,100,101,120] nm y.nm (ZQ u y.cols r) (by simp) hnm n3 (by rw [Z5];exact n2)
  simp only [ZT] at gy
  simp only [ZX,Za] at xp
  by_cases hc:y.uq=true∧Ww (ZQ u y.cols r)=false
  ·obtain ⟨c1,c2⟩:=hc
   obtain ⟨v,hf,hS'⟩:=hS.put s
   obtain ⟨es',h',ih⟩:=Zic x ds nm hnm u r hn q (j+1) _ (by omega) hS'
   refine ⟨es',h',fun ks jj Bo hB hj=>?_⟩
   subst hj
   have ih:=ih ks _ Bo hB rfl
   rw [c2] at xp
   rw [c1] at gy
   simp only [txH,txC,chC,Za,List.cons_append,List.nil_append] at ih ⊢
   unfold Zf at hB
   simp -implicitDefEqProofs only [go_sem,simprocAttr,Tryz.f197,Zb] at hB
   subst hB
   rw [Zc]
   simp -implicitDefEqProofs only [go_sem,simprocAttr,d,h7,gy,xp,xm,hf,Bool.not_false,Za,chC,ZT]
   exact ih
  ·obtain ⟨es',h',ih⟩:=Zic x ds nm hnm u r hn q (j+1) es (by omega) hS
   refine ⟨es',h',fun ks jj Bo hB hj=>?_⟩
   subst hj
   have ih:=ih ks _ Bo hB rfl
   simp only [txH,txC,chC,Za,List.cons_append,List.nil_append] at ih ⊢
   cases hu:y.uq with
   | false =>
    rw [hu] at gy
    unfold Zf at hB
    simp -implicitDefEqProofs only [go_sem,simprocAttr,Tryz.f197,Zb] at hB
    subst hB
    rw [Zc]
    simp -implicitDefEqProofs only [go_sem,simprocAttr,d,h7,gy,xp,xm,Za,chC,ZT]
    exact ih
   | true =>
    have c2:Ww (ZQ u y.cols r)=true:=by
     cases hv:Ww (ZQ u y.cols r) with
     | true=>rfl
     | false=>exact absurd ⟨hu,hv⟩ hc
    rw [c2] at xp
    rw [hu] at gy
    unfold Zf at hB
    simp -implicitDefEqProofs only [go_sem,simprocAttr,Tryz.f197,Zb] at hB
    subst hB
    rw [Zc]
    simp -implicitDefEqProofs only [go_sem,simprocAttr,d,h7,gy,xp,xm,Bool.not_true,Za,chC,ZT]
    exact ih
theorem Zhb (x:List Tbl) (ds:List Dat) (nm:List UInt8) (hnm:nm.length≤100000) (u:Tbl) (r:List Val) (hn:Noted x u r) :
  ∀ (q j:Nat) (es:List (AV×AV)),u.fgn.length=j+q→SetE es→∃ es',SetE es'∧∀ (ks:List It) (jj:Int) (Bo:Code),Zf Tryz.f197 8 Bo→jj=(j:Int) →
  RL K (.run 197 3 (.code Bo::.lp Bo (some ([0,5,6,23,24,25,137,138,139],[])) 5::.blk 8 5::ks) [(0,.ptr 0 0),(5,.ptr 3 0),(6,.ptr 4 0),(23,.rows [chC nm r]),(24,I 1),(25,I 0),(137,.rows (u.fgn.map Zt)),(138,I (u.fgn.length:Int)),(139,I jj)] (txH x ds es++[.cells (chC nm r),.cells (Za u)])) =
  R K (.run 197 3 ks [(0,.ptr 0 0),(23,.rows [chC nm r]),(24,I 1),(25,I 0)] (txH x ds es'++[.cells (chC nm r),.cells (Za u)]))
 | 0,j,es,hq,hS=>by
  have d:¬(j:Int) < (u.fgn.length:Int):=by omega
  refine ⟨es,hS,fun ks jj Bo hB hj=>?_⟩
  subst hj
  simp only [txH,txC,chC,Za,List.cons_append,List.nil_append]
  unfold Zf at hB
  simp -implicitDefEqProofs only [go_sem,simprocAttr,Tryz.f197,Zb] at hB
  subst hB
  rw [Zc]
  simp -implicitDefEqProofs only [go_sem,simprocAttr,d,Za,chC]
 | q+1,j,es,hq,hS=>by
  have d:(j:Int) < (u.fgn.length:Int):=by omega
  have hil:=hn.fgn.1
  have h7:=Zs (i:=j) (n:=u.fgn.length) (by omega) (by omega)
  obtain ⟨f,hy⟩:=Ze (l:=u.fgn) (i:=j) (by omega)
  have gy:=Xz hy
  obtain ⟨n1,n2,n3⟩:=hn.fgn.2 f (List.mem_of_getElem? hy)
  have xp:=Yy u hn.cols r hn.row f.cols n1 n2
  obtain ⟨s,xm⟩:=Jr [107,101,121] f.tb [] (ZQ u f.cols r) (by simp) n3 (by simp) (by rw [Z5];exact n2)
  simp only [Zt] at gy
  simp only [ZX,Za] at xp
  cases hv:Ww (ZQ u f.cols r) with
  | false =>
   obtain ⟨v,hf,hS'⟩:=hS.put s
   obtain ⟨es',h',ih⟩:=Zhb x ds nm hnm u r hn q (j+1) _ (by omega) hS'
   refine ⟨es',h',fun ks jj Bo hB hj=>?_⟩
   subst hj
   have ih:=ih ks _ Bo hB rfl
   rw [hv] at xp
   simp only [txH,txC,chC,Za,List.cons_append,List.nil_append] at ih ⊢
   unfold Zf at hB
   simp -implicitDefEqProofs only [go_sem,simprocAttr,Tryz.f197,Zb] at hB
   subst hB
   rw [Zc]
   simp -implicitDefEqProofs only [go_sem,simprocAttr,d,h7,gy,xp,xm,hf,Bool.not_false,Za,chC,Zt]
   exact ih
  | true =>
   obtain ⟨es',h',ih⟩:=Zhb x ds nm hnm u r hn q (j+1) es (by omega) hS
   refine ⟨es',h',fun ks jj Bo hB hj=>?_⟩
   subst hj
   have ih:=ih ks _ Bo hB rfl
   rw [hv] at xp
   simp only [txH,txC,chC,Za,List.cons_append,List.nil_append] at ih ⊢
   unfold Zf at hB
   simp -implicitDefEqProofs only [go_sem,simprocAttr,Tryz.f197,Zb] at hB
   subst hB
   rw [Zc]
   simp -implicitDefEqProofs only [go_sem,simprocAttr,d,h7,gy,xp,xm,Bool.not_true,Za,chC,Zt]
   exact ih
theorem Zup (x:List Tbl) (ds:List Dat) (es:List (AV×AV)) (hS:SetE es) (hx:x.length≤1000000) {nm:List UInt8} (hnm:nm.length≤100000) {w:Nat} {u:Tbl} {d:Dat} (h:Seen x ds nm w u d) (r:List Val) (hn:Noted x u r) :
  ∃ es',SetE es'∧R K (.call 197 [.ptr 0 0,.rows [chC nm r]] (txH x ds es))=some (.tup [],txH x ds es'):=by
 have xs:=fun es=>Zrv x ds es hx h
 obtain ⟨k1,k2⟩:=hn.key
 have xp:=Yy u hn.cols r hn.row u.key k1 k2
 obtain ⟨s,xm⟩:=Jr [107,101,121] nm [] (ZQ u u.key r) (by simp) hnm (by simp) (by rw [Z5];exact k2)
 obtain ⟨v,hf,hS'⟩:=hS.put s
 obtain ⟨es1,h1,l6⟩:=Zic x ds nm hnm u r hn u.idx.length 0 _ (by omega) hS'
 obtain ⟨es2,h2,l8⟩:=Zhb x ds nm hnm u r hn u.fgn.length 0 es1 (by omega) h1
 refine ⟨es2,h2,?_⟩
 have l6:=fun ks B hB=>l6 ks 0 B hB rfl
 have l8:=fun ks B hB=>l8 ks 0 B hB rfl
 simp only [txH,txC,ZX,chC,Za,Zh,YK,List.cons_append,List.nil_append] at xs xp l6 l8 ⊢
 rw [Zpn]
 simp -implicitDefEqProofs only [go_sem,simprocAttr,Tryz.f197,chC]
 rw [Zc]
 simp -implicitDefEqProofs only [go_sem,simprocAttr,chC,Za,Zh,xs,xp,xm,hf,List.length_map]
 rw [l6 _ _ ?_]
 ·simp -implicitDefEqProofs only [go_sem,simprocAttr,chC,Za,List.length_map]
  rw [l8 _ _ ?_]
  ·simp -implicitDefEqProofs only [go_sem,simprocAttr,chC,Za]
   rw [Zc]
   simp -implicitDefEqProofs only [go_sem,simprocAttr,chC,Za]
  ·rfl
 ·rfl
theorem XD (r:List Val) (hl:r.length≤1000000):R K (.call 31 [.rows (r.map vC)] [])=some (.own 0 r.length,[.rows 3 (r.map vC) true]):=by
 cases r with
 | nil=>exact ZmE rfl rfl
 | cons a r =>
  have rm:((r.length+1)*33≤Zg)=True:=eq_true (by unfold Zg;simp at hl;omega)
  have al:=Zdl (a::r)
  have lr:=Yz (a::r)
  simp only [List.map_cons] at al lr
  have ar:=Zdl r
  have l1:((vC a).length==3)=true:=rfl
  have lL:Zk (vC a)=[]:=rfl
  rw [List.map_cons,ZsB rfl rfl]
  simp -implicitDefEqProofs only [go_sem,simprocAttr,Tryz.f31,Yz,rm,al,ar,l1,lr,lL,Bool.and_true,List.isEmpty_cons,List.length_cons,List.length_map,List.length_nil,Nat.zero_add,List.nil_append,Nat.zero_lt_succ]
attribute [go_sem] Yt Y4 back Yz
theorem Zn1 (x:List Tbl) (a:Dat) (es:List (AV×AV)) (hx:x.length≤1000000) {nm:List UInt8} (hnm:nm.length≤100000) {u:Tbl} (hw:ixN nm (x.map (·.nm)) 0=0) (hu:x[0]? = some u) (hr:∀ d∈[a],d.rows.length≤1000)
  (h1:u.cols.length≤1000000) (h2:u.key.length≤1000000) (h3:Zr u u.key) (hs:a.rows.length < 19) (hf:ZK u a.rows) (r:List Val) (hr1:1≤r.length) (hrl:r.length=u.cols.length) :
  ∃ rs,Shuf (a.rows++[r]) rs∧R K (.call 198 [.ptr 0 0,.rows [chC nm r]] (txH x [a] es))=some (.tup [YF [⟨a.nm,rs⟩],I 0],txH x [a] es):=by
 have xt:=Yu x nm hx
 rw [hw] at xt
 have gu:at? (x.map Za) 0=some (Za u):=ZG hu
 obtain ⟨s,xm⟩:∃ s,R K (.call 68 [.str [107,101,121],.str nm,.str [],.rows []] [])=some (.str s,[]):=Jr [107,101,121] nm [] [] (by simp) hnm (by simp) (by simp)
 have xc:=Zc3 [a] (by simp) (by simp) hr
 have xv:=XD r (by omega)
 have ra:=XC a.rows r
 have rm:((a.rows.length+1)*25≤Zg)=True:=eq_true (by unfold Zg;omega)
 obtain ⟨rs,m,xs⟩:=WP u h1 h2 h3 (a.rows++[r]) (by simp;omega) (fun o ho=>by
  rcases List.mem_append.1 ho with h | h
  ·exact hf o h
  ·rw [List.mem_singleton] at h;rw [h];exact hrl)
 have ml:=m.1
 refine ⟨rs,m,?_⟩
 simp only [Zam,Za7,YF,Zh,ZX,Za,Zn,txH,txC,chC,List.map_cons,List.map_nil,List.length_append,List.length_cons,List.length_nil,Nat.reduceAdd,Nat.zero_add] at xc gu xs ml ra ⊢
 rw [JQ]
 simp -implicitDefEqProofs only [go_sem,simprocAttr,Tryz.f198,chC]
 rw [Zc]
 simp -implicitDefEqProofs only [go_sem,simprocAttr,chC,xm]
 rw [Zc]
 simp -implicitDefEqProofs only [go_sem,simprocAttr,chC,xc]
 rw [Zc]
 simp -implicitDefEqProofs only [go_sem,simprocAttr,chC,xt,gu,Za,Zh]
 rw [Zc]
 simp -implicitDefEqProofs only [go_sem,simprocAttr,chC]
 rw [Zc]
 simp -implicitDefEqProofs only [go_sem,simprocAttr,chC,xt,gu,xv,xs,ra,rm,ml,Za,Zh,Zn,true_or]
 rw [Zc]
 simp -implicitDefEqProofs only [go_sem,simprocAttr,chC,Zh,Zn,true_or,ml,Zl,ZB,Zk,Zm]
theorem ZnW (x:List Tbl) (a b:Dat) (es:List (AV×AV)) (hx:x.length≤1000000) {nm:List UInt8} (hnm:nm.length≤100000) {u:Tbl} (hw:ixN nm (x.map (·.nm)) 0=0) (hu:x[0]? = some u) (hr:∀ d∈[a,b],d.rows.length≤1000)
  (h1:u.cols.length≤1000000) (h2:u.key.length≤1000000) (h3:Zr u u.key) (hs:a.rows.length < 19) (hf:ZK u a.rows) (r:List Val) (hr1:1≤r.length) (hrl:r.length=u.cols.length) :
  ∃ rs,Shuf (a.rows++[r]) rs∧R K (.call 198 [.ptr 0 0,.rows [chC nm r]] (txH x [a,b] es))=some (.tup [YF [⟨a.nm,rs⟩,b],I 0],txH x [a,b] es):=by
 have xt:=Yu x nm hx
 rw [hw] at xt
 have gu:at? (x.map Za) 0=some (Za u):=ZG hu
 obtain ⟨s,xm⟩:∃ s,R K (.call 68 [.str [107,101,121],.str nm,.str [],.rows []] [])=some (.str s,[]):=Jr [107,101,121] nm [] [] (by simp) hnm (by simp) (by simp)
 have xc:=Zc3 [a,b] (by simp) (by simp) hr
 have xv:=XD r (by omega)
 have ra:=XC a.rows r
 have rm:((a.rows.length+1)*25≤Zg)=True:=eq_true (by unfold Zg;omega)
 obtain ⟨rs,m,xs⟩:=WP u h1 h2 h3 (a.rows++[r]) (by simp;omega) (fun o ho=>by
  rcases List.mem_append.1 ho with h | h
  ·exact hf o h
  ·rw [List.mem_singleton] at h;rw [h];exact hrl)
 have ml:=m.1
 refine ⟨rs,m,?_⟩
 simp only [Zam,Za7,YF,Zh,ZX,Za,Zn,txH,txC,chC,List.map_cons,List.map_nil,List.length_append,List.length_cons,List.length_nil,Nat.reduceAdd,Nat.zero_add] at xc gu xs ml ra ⊢
 rw [JQ]
 simp -implicitDefEqProofs only [go_sem,simprocAttr,Tryz.f198,chC]
 rw [Zc]
 simp -implicitDefEqProofs only [go_sem,simprocAttr,chC,xm]
 rw [Zc]
 simp -implicitDefEqProofs only [go_sem,simprocAttr,chC,xc]
 rw [Zc]
 simp -implicitDefEqProofs only [go_sem,simprocAttr,chC,xt,gu,Za,Zh]
 rw [Zc]
 simp -implicitDefEqProofs only [go_sem,simprocAttr,chC]
 rw [Zc]
 simp -implicitDefEqProofs only [go_sem,simprocAttr,chC,xt,gu,xv,xs,ra,rm,ml,Za,Zh,Zn,true_or]
 rw [Zc]
 simp -implicitDefEqProofs only [go_sem,simprocAttr,chC,Zh,Zn,true_or,ml,Zl,ZB,Zk,Zm]
theorem Znz (x:List Tbl) (a b:Dat) (es:List (AV×AV)) (hx:x.length≤1000000) {nm:List UInt8} (hnm:nm.length≤100000) {u:Tbl} (hw:ixN nm (x.map (·.nm)) 0=1) (hu:x[1]? = some u) (hr:∀ d∈[a,b],d.rows.length≤1000)
  (h1:u.cols.length≤1000000) (h2:u.key.length≤1000000) (h3:Zr u u.key) (hs:b.rows.length < 19) (hf:ZK u b.rows) (r:List Val) (hr1:1≤r.length) (hrl:r.length=u.cols.length) :
  ∃ rs,Shuf (b.rows++[r]) rs∧R K (.call 198 [.ptr 0 0,.rows [chC nm r]] (txH x [a,b] es))=some (.tup [YF [a,⟨b.nm,rs⟩],I 0],txH x [a,b] es):=by
 have xt:=Yu x nm hx
 rw [hw] at xt
 have gu:at? (x.map Za) 1=some (Za u):=ZG hu
 obtain ⟨s,xm⟩:∃ s,R K (.call 68 [.str [107,101,121],.str nm,.str [],.rows []] [])=some (.str s,[]):=Jr [107,101,121] nm [] [] (by simp) hnm (by simp) (by simp)
 have xc:=Zc3 [a,b] (by simp) (by simp) hr
 have xv:=XD r (by omega)
 have ra:=XC b.rows r
 have rm:((b.rows.length+1)*25≤Zg)=True:=eq_true (by unfold Zg;omega)
 obtain ⟨rs,m,xs⟩:=WP u h1 h2 h3 (b.rows++[r]) (by simp;omega) (fun o ho=>by
  rcases List.mem_append.1 ho with h | h
  ·exact hf o h
  ·rw [List.mem_singleton] at h;rw [h];exact hrl)
 have ml:=m.1
 refine ⟨rs,m,?_⟩
 simp only [Zam,Za7,YF,Zh,ZX,Za,Zn,txH,txC,chC,List.map_cons,List.map_nil,List.length_append,List.length_cons,List.length_nil,Nat.reduceAdd,Nat.zero_add] at xc gu xs ml ra ⊢
 rw [JQ]
 simp -implicitDefEqProofs only [go_sem,simprocAttr,Tryz.f198,chC]
 rw [Zc]
 simp -implicitDefEqProofs only [go_sem,simprocAttr,chC,xm]
 rw [Zc]
 simp -implicitDefEqProofs only [go_sem,simprocAttr,chC,xc]
 rw [Zc]
 simp -implicitDefEqProofs only [go_sem,simprocAttr,chC,xt,gu,Za,Zh]
 rw [Zc]
 simp -implicitDefEqProofs only [go_sem,simprocAttr,chC]
 rw [Zc]
 simp -implicitDefEqProofs only [go_sem,simprocAttr,chC,xt,gu,xv,xs,ra,rm,ml,Za,Zh,Zn,true_or]
 rw [Zc]
 simp -implicitDefEqProofs only [go_sem,simprocAttr,chC,Zh,Zn,true_or,ml,Zl,ZB,Zk,Zm]
theorem Zof (x:List Tbl) (a b c:Dat) (es:List (AV×AV)) (hx:x.length≤1000000) {nm:List UInt8} (hnm:nm.length≤100000) {u:Tbl} (hw:ixN nm (x.map (·.nm)) 0=0) (hu:x[0]? = some u) (hr:∀ d∈[a,b,c],d.rows.length≤1000)
  (h1:u.cols.length≤1000000) (h2:u.key.length≤1000000) (h3:Zr u u.key) (hs:a.rows.length < 19) (hf:ZK u a.rows) (r:List Val) (hr1:1≤r.length) (hrl:r.length=u.cols.length) :
  ∃ rs,Shuf (a.rows++[r]) rs∧R K (.call 198 [.ptr 0 0,.rows [chC nm r]] (txH x [a,b,c] es))=some (.tup [YF [⟨a.nm,rs⟩,b,c],I 0],txH x [a,b,c] es):=by
 have xt:=Yu x nm hx
 rw [hw] at xt
 have gu:at? (x.map Za) 0=some (Za u):=ZG hu
 obtain ⟨s,xm⟩:∃ s,R K (.call 68 [.str [107,101,121],.str nm,.str [],.rows []] [])=some (.str s,[]):=Jr [107,101,121] nm [] [] (by simp) hnm (by simp) (by simp)
 have xc:=Zc3 [a,b,c] (by simp) (by simp) hr
 have xv:=XD r (by omega)
 have ra:=XC a.rows r
 have rm:((a.rows.length+1)*25≤Zg)=True:=eq_true (by unfold Zg;omega)
 obtain ⟨rs,m,xs⟩:=WP u h1 h2 h3 (a.rows++[r]) (by simp;omega) (fun o ho=>by
  rcases List.mem_append.1 ho with h | h
  ·exact hf o h
  ·rw [List.mem_singleton] at h;rw [h];exact hrl)
 have ml:=m.1
 refine ⟨rs,m,?_⟩
 simp only [Zam,Za7,YF,Zh,ZX,Za,Zn,txH,txC,chC,List.map_cons,List.map_nil,List.length_append,List.length_cons,List.length_nil,Nat.reduceAdd,Nat.zero_add] at xc gu xs ml ra ⊢
 rw [JQ]
 simp -implicitDefEqProofs only [go_sem,simprocAttr,Tryz.f198,chC]
 rw [Zc]
 simp -implicitDefEqProofs only [go_sem,simprocAttr,chC,xm]
 rw [Zc]
 simp -implicitDefEqProofs only [go_sem,simprocAttr,chC,xc]
 rw [Zc]
 simp -implicitDefEqProofs only [go_sem,simprocAttr,chC,xt,gu,Za,Zh]
 rw [Zc]
 simp -implicitDefEqProofs only [go_sem,simprocAttr,chC]
 rw [Zc]
 simp -implicitDefEqProofs only [go_sem,simprocAttr,chC,xt,gu,xv,xs,ra,rm,ml,Za,Zh,Zn,true_or]
 rw [Zc]
 simp -implicitDefEqProofs only [go_sem,simprocAttr,chC,Zh,Zn,true_or,ml,Zl,ZB,Zk,Zm]
theorem Znk (x:List Tbl) (a b c:Dat) (es:List (AV×AV)) (hx:x.length≤1000000) {nm:List UInt8} (hnm:nm.length≤100000) {u:Tbl} (hw:ixN nm (x.map (·.nm)) 0=1) (hu:x[1]? = some u) (hr:∀ d∈[a,b,c],d.rows.length≤1000)
  (h1:u.cols.length≤1000000) (h2:u.key.length≤1000000) (h3:Zr u u.key) (hs:b.rows.length < 19) (hf:ZK u b.rows) (r:List Val) (hr1:1≤r.length) (hrl:r.length=u.cols.length) :
  ∃ rs,Shuf (b.rows++[r]) rs∧R K (.call 198 [.ptr 0 0,.rows [chC nm r]] (txH x [a,b,c] es))=some (.tup [YF [a,⟨b.nm,rs⟩,c],I 0],txH x [a,b,c] es):=by
 have xt:=Yu x nm hx
 rw [hw] at xt
 have gu:at? (x.map Za) 1=some (Za u):=ZG hu
 obtain ⟨s,xm⟩:∃ s,R K (.call 68 [.str [107,101,121],.str nm,.str [],.rows []] [])=some (.str s,[]):=Jr [107,101,121] nm [] [] (by simp) hnm (by simp) (by simp)
 have xc:=Zc3 [a,b,c] (by simp) (by simp) hr
 have xv:=XD r (by omega)
 have ra:=XC b.rows r
 have rm:((b.rows.length+1)*25≤Zg)=True:=eq_true (by unfold Zg;omega)
 obtain ⟨rs,m,xs⟩:=WP u h1 h2 h3 (b.rows++[r]) (by simp;omega) (fun o ho=>by
  rcases List.mem_append.1 ho with h | h
  ·exact hf o h
  ·rw [List.mem_singleton] at h;rw [h];exact hrl)
 have ml:=m.1
 refine ⟨rs,m,?_⟩
 simp only [Zam,Za7,YF,Zh,ZX,Za,Zn,txH,txC,chC,List.map_cons,List.map_nil,List.length_append,List.length_cons,List.length_nil,Nat.reduceAdd,Nat.zero_add] at xc gu xs ml ra ⊢
 rw [JQ]
 simp -implicitDefEqProofs only [go_sem,simprocAttr,Tryz.f198,chC]
 rw [Zc]
 simp -implicitDefEqProofs only [go_sem,simprocAttr,chC,xm]
 rw [Zc]
 simp -implicitDefEqProofs only [go_sem,simprocAttr,chC,xc]
 rw [Zc]
 simp -implicitDefEqProofs only [go_sem,simprocAttr,chC,xt,gu,Za,Zh]
 rw [Zc]
 simp -implicitDefEqProofs only [go_sem,simprocAttr,chC]
 rw [Zc]
 simp -implicitDefEqProofs only [go_sem,simprocAttr,chC,xt,gu,xv,xs,ra,rm,ml,Za,Zh,Zn,true_or]
 rw [Zc]
 simp -implicitDefEqProofs only [go_sem,simprocAttr,chC,Zh,Zn,true_or,ml,Zl,ZB,Zk,Zm]
theorem Zn6 (x:List Tbl) (a b c:Dat) (es:List (AV×AV)) (hx:x.length≤1000000) {nm:List UInt8} (hnm:nm.length≤100000) {u:Tbl} (hw:ixN nm (x.map (·.nm)) 0=2) (hu:x[2]? = some u) (hr:∀ d∈[a,b,c],d.rows.length≤1000)
  (h1:u.cols.length≤1000000) (h2:u.key.length≤1000000) (h3:Zr u u.key) (hs:c.rows.length < 19) (hf:ZK u c.rows) (r:List Val) (hr1:1≤r.length) (hrl:r.length=u.cols.length) :
  ∃ rs,Shuf (c.rows++[r]) rs∧R K (.call 198 [.ptr 0 0,.rows [chC nm r]] (txH x [a,b,c] es))=some (.tup [YF [a,b,⟨c.nm,rs⟩],I 0],txH x [a,b,c] es):=by
 have xt:=Yu x nm hx
 rw [hw] at xt
 have gu:at? (x.map Za) 2=some (Za u):=ZG hu
 obtain ⟨s,xm⟩:∃ s,R K (.call 68 [.str [107,101,121],.str nm,.str [],.rows []] [])=some (.str s,[]):=Jr [107,101,121] nm [] [] (by simp) hnm (by simp) (by simp)
 have xc:=Zc3 [a,b,c] (by simp) (by simp) hr
 have xv:=XD r (by omega)
 have ra:=XC c.rows r
 have rm:((c.rows.length+1)*25≤Zg)=True:=eq_true (by unfold Zg;omega)
 obtain ⟨rs,m,xs⟩:=WP u h1 h2 h3 (c.rows++[r]) (by simp;omega) (fun o ho=>by
  rcases List.mem_append.1 ho with h | h
  ·exact hf o h
  ·rw [List.mem_singleton] at h;rw [h];exact hrl)
 have ml:=m.1
 refine ⟨rs,m,?_⟩
 simp only [Zam,Za7,YF,Zh,ZX,Za,Zn,txH,txC,chC,List.map_cons,List.map_nil,List.length_append,List.length_cons,List.length_nil,Nat.reduceAdd,Nat.zero_add] at xc gu xs ml ra ⊢
 rw [JQ]
 simp -implicitDefEqProofs only [go_sem,simprocAttr,Tryz.f198,chC]
 rw [Zc]
 simp -implicitDefEqProofs only [go_sem,simprocAttr,chC,xm]
 rw [Zc]
 simp -implicitDefEqProofs only [go_sem,simprocAttr,chC,xc]
 rw [Zc]
 simp -implicitDefEqProofs only [go_sem,simprocAttr,chC,xt,gu,Za,Zh]
 rw [Zc]
 simp -implicitDefEqProofs only [go_sem,simprocAttr,chC]
 rw [Zc]
 simp -implicitDefEqProofs only [go_sem,simprocAttr,chC,xt,gu,xv,xs,ra,rm,ml,Za,Zh,Zn,true_or]
 rw [Zc]
 simp -implicitDefEqProofs only [go_sem,simprocAttr,chC,Zh,Zn,true_or,ml,Zl,ZB,Zk,Zm]
theorem ZrV (x:List Tbl) (ds:List Dat) (es:List (AV×AV)) (hx:x.length≤1000000) (d1:1≤ds.length) (d3:ds.length≤3) {nm:List UInt8} (hnm:nm.length≤100000) {w:Nat} {u:Tbl} {d:Dat} (h:Seen x ds nm w u d) (hr:∀ d∈ds,d.rows.length≤1000)
  (h1:u.cols.length≤1000000) (h2:u.key.length≤1000000) (h3:Zr u u.key) (hs:d.rows.length < 19) (hf:ZK u d.rows) (r:List Val) (hr1:1≤r.length) (hrl:r.length=u.cols.length) :
  ∃ rs,Shuf (d.rows++[r]) rs∧R K (.call 198 [.ptr 0 0,.rows [chC nm r]] (txH x ds es))=some (.tup [YF (ds.set w ⟨d.nm,rs⟩),I 0],txH x ds es):=by
 rcases ds with _ | ⟨a,_ | ⟨b,_ | ⟨c,_ | ⟨d',ds⟩⟩⟩⟩
 ·simp at d1
 ·rcases w with _ | w
  ·obtain rfl:a=d:=Option.some.inj h.da
   exact Zn1 x a es hx hnm h.ix h.tb hr h1 h2 h3 hs hf r hr1 hrl
  ·exact absurd h.da (by simp)
 ·rcases w with _ | _ | w
  ·obtain rfl:a=d:=Option.some.inj h.da
   exact ZnW x a b es hx hnm h.ix h.tb hr h1 h2 h3 hs hf r hr1 hrl
  ·obtain rfl:b=d:=Option.some.inj h.da
   exact Znz x a b es hx hnm h.ix h.tb hr h1 h2 h3 hs hf r hr1 hrl
  ·exact absurd h.da (by simp)
 ·rcases w with _ | _ | _ | w
  ·obtain rfl:a=d:=Option.some.inj h.da
   exact Zof x a b c es hx hnm h.ix h.tb hr h1 h2 h3 hs hf r hr1 hrl
  ·obtain rfl:b=d:=Option.some.inj h.da
   exact Znk x a b c es hx hnm h.ix h.tb hr h1 h2 h3 hs hf r hr1 hrl
  ·obtain rfl:c=d:=Option.some.inj h.da
   exact Zn6 x a b c es hx hnm h.ix h.tb hr h1 h2 h3 hs hf r hr1 hrl
  ·exact absurd h.da (by simp)
 ·simp at d3
def sgn (n:Int):Int:=max (-1) (min n 1)
def Zek (v w:Val):Int:=if sgn ((Z3 v).k - (Z3 w).k)≠0 then sgn ((Z3 v).k - (Z3 w).k) else if (Z3 v).k=3 then Lib.compareBytes (Z3 v).s (Z3 w).s else sgn ((Z3 v).n - (Z3 w).n)
def Zal:List Val→List Val→Int
 | [],[]=>0
 | [],_::_=>-1
 | _::_,[]=>1
 | v::a,w::b=>if Zek v w≠0 then Zek v w else Zal a b
def ApartB (a b:List UInt8):Prop:=∀ x y,Op.bytesLess (a++x) (b++y)=true
theorem Zc9:∀ a:List UInt8,Op.bytesLess a a=false
 | []=>rfl
 | x::a=>by simp [Op.bytesLess,Zc9 a]
theorem ZfZ:∀ a b:List UInt8,Op.bytesLess a b=true→Op.bytesLess b a=false
 | [],[],h=>by simp [Op.bytesLess] at h
 | [],_::_,_=>rfl
 | _::_,[],h=>by simp [Op.bytesLess] at h
 | x::a,y::b,h=>by
  simp only [Op.bytesLess,Bool.or_eq_true,Bool.and_eq_true,decide_eq_true_eq,beq_iff_eq] at h
  rcases h with h | ⟨rfl,h⟩
  ·have h1:¬y < x:=fun h2=>by
    have a1:=UInt8.lt_iff_toNat_lt.1 h
    have a2:=UInt8.lt_iff_toNat_lt.1 h2
    omega
   have h2:¬y=x:=fun e=>by
    subst e
    have a1:=UInt8.lt_iff_toNat_lt.1 h
    omega
   simp [Op.bytesLess,h1,h2]
  ·have h1:¬x < x:=fun h2=>by
    have a2:=UInt8.lt_iff_toNat_lt.1 h2
    omega
   simp [Op.bytesLess,h1,ZfZ a b h]
theorem ApartB.ne {a b:List UInt8} (h:ApartB a b) (x y:List UInt8):a++x≠b++y:=fun e=>by
 have:=h x y
 rw [e,Zc9] at this
 simp at this
theorem ApartB.cons {a b:List UInt8} (h:ApartB a b) (c:UInt8):ApartB (c::a) (c::b):=fun x y=>by
 have:=h x y
 simp [Op.bytesLess,this]
theorem ApartB.head {c d:UInt8} (h:c < d) (a b:List UInt8):ApartB (c::a) (d::b):=fun x y=>by
 simp [Op.bytesLess,h]
def Way (c:Int) (a b:List UInt8):Prop:=(c=0∧a=b)∨(c=-1∧ApartB a b)∨(c=1∧ApartB b a)
theorem Zmc {c:UInt8} (h:0 < c.toNat):(0:UInt8) < c:=UInt8.lt_iff_toNat_lt.2 h
theorem Zjr:∀ s t:List UInt8,(∀ c∈s,0 < c.toNat)→(∀ c∈t,0 < c.toNat)→Way (Lib.compareBytes s t) (s++[0]) (t++[0])
 | [],[],_,_=>.inl ⟨rfl,rfl⟩
 | [],c::t,_,h=>.inr (.inl ⟨rfl,ApartB.head (Zmc (h c (by simp))) _ _⟩)
 | c::s,[],h,_=>.inr (.inr ⟨rfl,ApartB.head (Zmc (h c (by simp))) _ _⟩)
 | c::s,d::t,hs,ht=>by
  unfold Lib.compareBytes
  by_cases h1:c < d
  ·rw [if_pos h1]
   exact .inr (.inl ⟨rfl,ApartB.head h1 _ _⟩)
  ·rw [if_neg h1]
   by_cases h2:d < c
   ·rw [if_pos h2]
    exact .inr (.inr ⟨rfl,ApartB.head h2 _ _⟩)
   ·rw [if_neg h2]
    have e:c=d:=by
     apply UInt8.toNat_inj.1
     have a1:¬c.toNat < d.toNat:=fun h=>h1 (UInt8.lt_iff_toNat_lt.2 h)
     have a2:¬d.toNat < c.toNat:=fun h=>h2 (UInt8.lt_iff_toNat_lt.2 h)
     omega
    subst e
    rcases Zjr s t (fun x hx=>hs x (by simp [hx])) (fun x hx=>ht x (by simp [hx])) with ⟨h3,h4⟩ | ⟨h3,h4⟩ | ⟨h3,h4⟩
    ·exact .inl ⟨h3,by rw [List.cons_append,List.cons_append,h4]⟩
    ·exact .inr (.inl ⟨h3,h4.cons c⟩)
    ·exact .inr (.inr ⟨h3,h4.cons c⟩)
theorem Zgq (m:Int) (s:Nat):(Wd m s).toNat=m.toNat / 2 ^ s % 256:=by
 unfold Wd
 rw [UInt8.toNat_ofNat']
theorem Zgz (a i:Nat):a % 2 ^ (8*(i+1))=(a / 2 ^ (8*i) % 256)*2 ^ (8*i)+a % 2 ^ (8*i):=by
 have e:2 ^ (8*(i+1))=2 ^ (8*i)*256:=by rw [show 8*(i+1)=8*i+8 by omega,Nat.pow_add]
 rw [e,Nat.mod_mul,Nat.mul_comm (a / 2 ^ (8*i) % 256)]
 omega
theorem Zij (a b:Int):∀ i,(a.toNat % 2 ^ (8*i)=b.toNat % 2 ^ (8*i)→bD a i=bD b i)∧(a.toNat % 2 ^ (8*i) < b.toNat % 2 ^ (8*i)→ApartB (bD a i) (bD b i))
 | 0=>⟨fun _=>rfl,fun h=>by simp [Nat.mod_one] at h⟩
 | i+1=>by
  obtain ⟨h1,h2⟩:=Zij a b i
  have ea:=Zgz a.toNat i
  have eb:=Zgz b.toNat i
  have la:a.toNat % 2 ^ (8*i) < 2 ^ (8*i):=Nat.mod_lt _ (Nat.two_pow_pos _)
  have lb:b.toNat % 2 ^ (8*i) < 2 ^ (8*i):=Nat.mod_lt _ (Nat.two_pow_pos _)
  have na:=Zgq a (8*i)
  have nb:=Zgq b (8*i)
  rw [←na] at ea
  rw [←nb] at eb
  rw [ea,eb]
  generalize a.toNat % 2 ^ (8*i)=p at *
  generalize b.toNat % 2 ^ (8*i)=q at *
  generalize 2 ^ (8*i)=M at *
  have tri:(Wd a (8*i)).toNat < (Wd b (8*i)).toNat∨(Wd a (8*i)).toNat=(Wd b (8*i)).toNat∨(Wd b (8*i)).toNat < (Wd a (8*i)).toNat:=by omega
  rcases tri with h | h | h
  ·have hm:((Wd a (8*i)).toNat+1)*M≤(Wd b (8*i)).toNat*M:=Nat.mul_le_mul_right _ h
   rw [Nat.succ_mul] at hm
   exact ⟨fun e=>by omega,fun _=>ApartB.head (UInt8.lt_iff_toNat_lt.2 h) _ _⟩
  ·rw [h]
   have e:Wd a (8*i)=Wd b (8*i):=UInt8.toNat_inj.1 h
   exact ⟨fun e2=>by simp only [bD,e,h1 (by omega)],fun e2=>by
    simp only [bD,e]
    exact (h2 (by omega)).cons _⟩
  ·have hm:((Wd b (8*i)).toNat+1)*M≤(Wd a (8*i)).toNat*M:=Nat.mul_le_mul_right _ h
   rw [Nat.succ_mul] at hm
   exact ⟨fun e=>by omega,fun e=>by omega⟩
theorem Zm7 {p q:Int}:(sgn (p - q)=0∧p=q)∨(sgn (p - q)=-1∧p < q)∨(sgn (p - q)=1∧q < p):=by
 unfold sgn
 omega
theorem ZjC (v:Val):X0 (Z3 v)=true:=by
 unfold Z3
 split
 ·assumption
 ·rfl
theorem ZfJ (v:Val):Wr (Z3 v)=true∧XJ (Z3 v)=true:=by
 have h:=ZjC v
 simp only [X0,Bool.and_eq_true] at h
 exact ⟨h.1,h.2.2⟩
theorem ZmY:∀ {s:List UInt8},ok7 s=true→∀ c∈s,0 < c.toNat:=fun h c hc=>by
 unfold ok7 at h
 have:=List.all_eq_true.1 h c hc
 simp only [Bool.and_eq_true,decide_eq_true_eq] at this
 omega
theorem Zsl (v w:Val):Way (Zek v w) (X6 (Z3 v)) (X6 (Z3 w)):=by
 obtain ⟨fv,gv⟩:=ZfJ v
 obtain ⟨fw,gw⟩:=ZfJ w
 have kv:=WV v
 have kw:=WV w
 have nv:=QI v
 have nw:=QI w
 unfold Zek
 generalize Z3 v=p at *
 generalize Z3 w=q at *
 simp only [ZW,Bool.and_eq_true,decide_eq_true_eq] at kv kw
 have hb:∀ a b:Int,0≤a→a < b→b≤4→(UInt8.ofNat a.toNat) < (UInt8.ofNat b.toNat):=fun a b h1 h2 h3=>by
  rw [UInt8.lt_iff_toNat_lt,UInt8.toNat_ofNat',UInt8.toNat_ofNat']
  omega
 rcases Zm7 (p:=p.k) (q:=q.k) with ⟨h1,h2⟩ | ⟨h1,h2⟩ | ⟨h1,h2⟩
 ·rw [if_neg (by rw [h1];simp)]
  by_cases k3:p.k=3
  ·have q3:q.k=3:=by omega
   rw [if_pos k3]
   have a1:X6 p=3::(p.s++[0]):=by simp only [X6,k3];rfl
   have a2:X6 q=3::(q.s++[0]):=by simp only [X6,q3];rfl
   have o1:ok7 p.s=true:=by simpa [XJ,k3] using gv
   have o2:ok7 q.s=true:=by simpa [XJ,q3] using gw
   rw [a1,a2]
   rcases Zjr p.s q.s (ZmY o1) (ZmY o2) with ⟨h3,h4⟩ | ⟨h3,h4⟩ | ⟨h3,h4⟩
   ·exact .inl ⟨h3,by rw [h4]⟩
   ·exact .inr (.inl ⟨h3,h4.cons 3⟩)
   ·exact .inr (.inr ⟨h3,h4.cons 3⟩)
  ·have q3:¬q.k=3:=by omega
   rw [if_neg k3]
   by_cases k0:p.k=0
   ·have q0:q.k=0:=by omega
    have e1:p.n=0:=by simp [Wr,k0] at fv;exact fv.1
    have e2:q.n=0:=by simp [Wr,q0] at fw;exact fw.1
    have a1:X6 p=[0]:=by simp only [X6,k0];rfl
    have a2:X6 q=[0]:=by simp only [X6,q0];rfl
    exact .inl ⟨by rw [e1,e2];rfl,by rw [a1,a2]⟩
   ·have q0:¬q.k=0:=by omega
    have a1:X6 p=UInt8.ofNat p.k.toNat::bD (p.n+4611686018427387904) 8:=by simp only [X6,if_neg k3,if_neg k0]
    have a2:X6 q=UInt8.ofNat p.k.toNat::bD (q.n+4611686018427387904) 8:=by simp only [X6,if_neg q3,if_neg q0,h2]
    rw [a1,a2]
    have m1:(p.n+4611686018427387904).toNat % 2 ^ (8*8)=(p.n+4611686018427387904).toNat:=Nat.mod_eq_of_lt (by omega)
    have m2:(q.n+4611686018427387904).toNat % 2 ^ (8*8)=(q.n+4611686018427387904).toNat:=Nat.mod_eq_of_lt (by omega)
    obtain ⟨w1,w2⟩:=Zij (p.n+4611686018427387904) (q.n+4611686018427387904) 8
    obtain ⟨_,w4⟩:=Zij (q.n+4611686018427387904) (p.n+4611686018427387904) 8
    rw [m1,m2] at w1 w2
    rw [m1,m2] at w4
    rcases Zm7 (p:=p.n) (q:=q.n) with ⟨h3,h4⟩ | ⟨h3,h4⟩ | ⟨h3,h4⟩
    ·exact .inl ⟨h3,by rw [w1 (by omega)]⟩
    ·exact .inr (.inl ⟨h3,(w2 (by omega)).cons _⟩)
    ·exact .inr (.inr ⟨h3,(w4 (by omega)).cons _⟩)
 ·rw [if_pos (by rw [h1];decide),h1]
  exact .inr (.inl ⟨rfl,ApartB.head (hb _ _ kv.1 h2 kw.2) _ _⟩)
 ·rw [if_pos (by rw [h1];decide),h1]
  exact .inr (.inr ⟨rfl,ApartB.head (hb _ _ kw.1 h2 kv.2) _ _⟩)
theorem Zgx:∀ a b:List Val,a.length=b.length→(0 < Zal a b↔Op.bytesLess (YM b) (YM a)=true)∧(Zal a b=0↔YM b=YM a)
 | [],[],_=>⟨by simp [Zal,YM,Op.bytesLess],by simp [Zal,YM]⟩
 | [],_::_,h=>by simp at h
 | _::_,[],h=>by simp at h
 | v::a,w::b,h=>by
  obtain ⟨i1,i2⟩:=Zgx a b (by simpa using h)
  simp only [Zal,YM]
  rcases Zsl v w with ⟨h1,h2⟩ | ⟨h1,h2⟩ | ⟨h1,h2⟩
  ·rw [if_neg (by rw [h1];simp),i1,i2,h2]
   have hl:∀ c x y:List UInt8,Op.bytesLess (c++x) (c++y)=Op.bytesLess x y:=by
    intro c x y
    induction c with
    | nil=>rfl
    | cons d c ih=>simp [Op.bytesLess,ih]
   rw [hl]
   exact ⟨Iff.rfl,by simp⟩
  ·rw [if_pos (by rw [h1];decide),h1]
   have l:=h2 (YM a) (YM b)
   have n:=h2.ne (YM a) (YM b)
   refine ⟨?_,?_⟩
   ·rw [ZfZ _ _ l]
    simp
   ·exact ⟨fun e=>by simp at e,fun e=>absurd e.symm n⟩
  ·rw [if_pos (by rw [h1];decide),h1]
   have l:=h2 (YM b) (YM a)
   have n:=h2.ne (YM b) (YM a)
   refine ⟨?_,?_⟩
   ·rw [l]
    simp
   ·exact ⟨fun e=>by simp at e,fun e=>absurd e n⟩
theorem Zp8 (n:Int):R K (.call 384 [I n] [])=some (I (sgn n),[]):=by
 have e:sgn n=(if (if (1:Int) < n then 1 else n) > -1 then (if (1:Int) < n then 1 else n) else -1):=by
  unfold sgn
  split<;>split<;>omega
 rw [e]
 rw [Zi0]
 simp -implicitDefEqProofs only [go_sem,simprocAttr,Tryz.f384]
theorem Zk5 (v w:Val):R K (.call 287 [.agg (vC v),.agg (vC w)] [])=some (I (Zek v w),[]):=by
 have x0:=Zcl v.k v.n v.s
 have x1:=Zcl w.k w.n w.s
 have e0:(⟨v.k,v.n,v.s⟩:Val)=v:=rfl
 have e1:(⟨w.k,w.n,w.s⟩:Val)=w:=rfl
 rw [e0] at x0
 rw [e1] at x1
 have kv:=WV v
 have kw:=WV w
 have nv:=QI v
 have nw:=QI w
 simp only [ZW,Bool.and_eq_true,decide_eq_true_eq] at kv kw
 unfold Zek
 generalize Z3 v=p at *
 generalize Z3 w=q at *
 have x2:=Zp8 (p.k - q.k)
 have x3:=Zp8 (p.n - q.n)
 have w2:ZC .i64 (p.k - q.k)=p.k - q.k:=ZV (by omega) (by omega)
 have w3:ZC .i64 (p.n - q.n)=p.n - q.n:=ZV (by omega) (by omega)
 have x4:=ZfL p.s q.s
 generalize sgn (p.k - q.k)=c at *
 generalize sgn (p.n - q.n)=c2 at *
 by_cases h0:c=0
 ·have b0:(c==0)=true:=by simpa using h0
  rw [if_neg (by rw [h0];simp)]
  by_cases h3:p.k=3
  ·have b3:(p.k==3)=true:=by simpa using h3
   rw [if_pos h3]
   rw [JD]
   simp -implicitDefEqProofs only [go_sem,simprocAttr,Tryz.f287,x0,x1,w2,x2,x4,b0,b3,bne]
  ·have b3:(p.k==3)=false:=by simpa using h3
   rw [if_neg h3]
   rw [JD]
   simp -implicitDefEqProofs only [go_sem,simprocAttr,Tryz.f287,x0,x1,w2,x2,w3,x3,b0,b3,bne]
 ·have b0:(c==0)=false:=by simpa using h0
  rw [if_pos h0]
  rw [JD]
  simp -implicitDefEqProofs only [go_sem,simprocAttr,Tryz.f287,x0,x1,w2,x2,b0,bne]
theorem Zp4 (a b:List Val) (ha:a.length≤1000000) (hb:b.length≤1000000) (hl:a.length=b.length) (ks:List It):∀ (q j:Nat) (jj:Int) (Bo:Code),Zf Tryz.f286 0 Bo→jj=(j:Int)→a.length=j+q →
  RL K (.run 286 0 (.code Bo::.lp Bo (some ([0,1,2,11,12,13],[])) 0::.blk 0 0::ks) [(0,vsA a),(1,vsA b),(2,.fn 287 []),(11,vsA a),(12,I (a.length:Int)),(13,I jj)] []) =
  if Zal (a.drop j) (b.drop j)=0 then R K (.run 286 0 ks [(0,vsA a),(1,vsA b)] []) else some (I (Zal (a.drop j) (b.drop j)),[])
 | 0,j,jj,Bo,hB,hj,hq=>by
  subst hj
  have d:¬(j:Int) < (a.length:Int):=by omega
  rw [List.drop_of_length_le (by omega),List.drop_of_length_le (by omega),if_pos (by simp [Zal])]
  unfold Zf at hB
  simp -implicitDefEqProofs only [go_sem,simprocAttr,Tryz.f286,Zb] at hB
  subst hB
  rw [Zc]
  simp -implicitDefEqProofs only [go_sem,simprocAttr,d]
 | q+1,j,jj,Bo,hB,hj,hq=>by
  subst hj
  have hB':=hB
  have d:(j:Int) < (a.length:Int):=by omega
  have h7:=Zs (i:=j) (n:=a.length) (by omega) (by omega)
  obtain ⟨v,hv⟩:=Ze (l:=a) (i:=j) (by omega)
  obtain ⟨w,hw⟩:=Ze (l:=b) (i:=j) (by omega)
  have gv:=ZbH hv
  have gw:=ZbH hw
  have d2:¬((b.length:Nat):Int)≤(j:Int):=by omega
  have xc:=Zk5 v w
  have ih:=Zp4 a b ha hb hl ks q (j+1) _ Bo hB' rfl (by omega)
  have e:Zal (a.drop j) (b.drop j)=if Zek v w≠0 then Zek v w else Zal (a.drop (j+1)) (b.drop (j+1)):=by rw [ZE hv,ZE hw];rfl
  by_cases h0:Zek v w=0
  ·have b0:(Zek v w==0)=true:=by simpa using h0
   have e:Zal (a.drop j) (b.drop j)=Zal (a.drop (j+1)) (b.drop (j+1)):=by rw [e,if_neg (by rw [h0];simp)]
   simp only [e]
   rw [←ih]
   unfold Zf at hB
   simp -implicitDefEqProofs only [go_sem,simprocAttr,Tryz.f286,Zb] at hB
   subst hB
   rw [Zc]
   simp -implicitDefEqProofs only [go_sem,simprocAttr,d,h7,gv,gw,d2,xc,b0,bne,List.length_map]
  ·have b0:(Zek v w==0)=false:=by simpa using h0
   have e:Zal (a.drop j) (b.drop j)=Zek v w:=by rw [e,if_pos h0]
   simp only [e,h0,if_false]
   unfold Zf at hB
   simp -implicitDefEqProofs only [go_sem,simprocAttr,Tryz.f286,Zb] at hB
   subst hB
   rw [Zc]
   simp -implicitDefEqProofs only [go_sem,simprocAttr,d,h7,gv,gw,d2,xc,b0,bne,List.length_map]
theorem Zen (a b:List Val) (ha:a.length≤1000000) (hl:a.length=b.length):R K (.call 190 [vsA a,vsA b] [])=some (I (Zal a b),[]):=by
 have l0:=fun ks B hB=>Zp4 a b ha (by omega) hl ks a.length 0 0 B hB rfl (by omega)
 simp only [List.drop_zero] at l0
 have d:¬((a.length:Nat):Int) < (b.length:Int):=by omega
 have key:R K (.call 286 [vsA a,vsA b,.fn 287 []] [])=some (I (Zal a b),[]):=by
  by_cases h0:Zal a b=0
  ·simp only [h0,if_true] at l0 ⊢
   rw [ZaX]
   simp -implicitDefEqProofs only [go_sem,simprocAttr,Tryz.f286,List.length_map]
   rw [l0 _ _ (by rfl)]
   simp -implicitDefEqProofs only [go_sem,simprocAttr,d,List.length_map]
  ·simp only [h0,if_false] at l0
   rw [ZaX]
   simp -implicitDefEqProofs only [go_sem,simprocAttr,Tryz.f286,List.length_map]
   rw [l0 _ _ (by rfl)]
 rw [ZjZ]
 simp -implicitDefEqProofs only [go_sem,simprocAttr,Tryz.f190,key]
def ZaV (t:Tbl):List (List Val)→Int
 | a::b::l=>if Op.bytesLess (ZD t t.key b) (ZD t t.key a)=true then 7 else if ZD t t.key b=ZD t t.key a then 10 else ZaV t (b::l)
 | _=>0
def JB (key:List Val→Option (List UInt8)):List (List UInt8)→List (List Val)→Int
 | _,[]=>0
 | S,r::rs=>match key r with
  | none=>JB key S rs
  | some k=>if k∈S then 10 else JB key (k::S) rs
def Zep (t:Tbl) (rs:List (List Val)):List Idx→Int
 | []=>0
 | y::l=>if (if y.uq=true then JB (Z1 true t y.cols) [] rs else 0)=0 then Zep t rs l else (if y.uq=true then JB (Z1 true t y.cols) [] rs else 0)
def Zf3 (t:Tbl) (rs:List (List Val)):Int:=if ZaV t rs=0 then Zep t rs t.idx else ZaV t rs
theorem ZtA (t:Tbl) (ht:t.cols.length≤1000000) (hk:t.key.length≤1000000) (hN:Zr t t.key) (rs:List (List Val)) (hrs:ZK t rs) (hl:rs.length≤1000000) (ks:List It) :
  ∀ (q j:Nat) (jj:Int) (Bo:Code),Zf Tryz.f100 0 Bo→jj=((j+1:Nat):Int)→rs.length≤j+1+q →
  RL K (.run 100 0 (.code Bo::.lp Bo (some ([1,2,5],[])) 1::.blk 0 1::ks) [(1,.rows (rs.map Zn)),(2,.ptr 0 0),(5,I jj)] [.cells (Za t)]) =
  if ZaV t (rs.drop j)=0 then R K (.run 100 0 ks [(1,.rows (rs.map Zn)),(2,.ptr 0 0)] [.cells (Za t)]) else some (I (ZaV t (rs.drop j)),[])
 | 0,j,jj,Bo,hB,hj,hq=>by
  subst hj
  have d:¬((j+1:Nat):Int) < (rs.length:Int):=by omega
  have e:ZaV t (rs.drop j)=0:=by
   cases h:rs.drop j with
   | nil=>rfl
   | cons a l =>
    cases l with
    | nil=>rfl
    | cons b l =>
     have:=congrArg List.length h
     simp at this
     omega
  rw [if_pos e]
  unfold Zf at hB
  simp -implicitDefEqProofs only [go_sem,simprocAttr,Tryz.f100,Zb] at hB
  subst hB
  rw [Zc]
  simp -implicitDefEqProofs only [go_sem,simprocAttr,d,Za,List.length_map]
 | q+1,j,jj,Bo,hB,hj,hq=>by
  subst hj
  have hB':=hB
  by_cases d:((j+1:Nat):Int) < (rs.length:Int)
  ·have h7:=Zs (i:=j+1) (n:=rs.length) (by omega) (by omega)
   have h6:ZC .i64 (((j+1:Nat):Int) - 1)=(j:Int):=by rw [ZV (by omega) (by omega)];omega
   obtain ⟨a,ha⟩:=Ze (l:=rs) (i:=j) (by omega)
   obtain ⟨b,hb⟩:=Ze (l:=rs) (i:=j+1) (by omega)
   have ga:=Yj ha
   have gb:=Yj hb
   have xa:=Yy t ht a (hrs a (List.mem_of_getElem? ha)) t.key hN hk
   have xb:=Yy t ht b (hrs b (List.mem_of_getElem? hb)) t.key hN hk
   have xc:=Zen (ZQ t t.key a) (ZQ t t.key b) (by rw [Z5];exact hk) (by rw [Z5,Z5])
   obtain ⟨o1,o2⟩:=Zgx (ZQ t t.key a) (ZQ t t.key b) (by rw [Z5,Z5])
   have ka:YM (ZQ t t.key a)=ZD t t.key a:=rfl
   have kb:YM (ZQ t t.key b)=ZD t t.key b:=rfl
   rw [ka,kb] at o1 o2
   have ih:=ZtA t ht hk hN rs hrs hl ks q (j+1) _ Bo hB' rfl (by omega)
   have e:ZaV t (rs.drop j)=if Op.bytesLess (ZD t t.key b) (ZD t t.key a)=true then 7 else if ZD t t.key b=ZD t t.key a then 10 else ZaV t (rs.drop (j+1)):=by
    rw [ZE ha,ZE hb]
    rfl
   generalize Zal (ZQ t t.key a) (ZQ t t.key b)=c at *
   simp only [Zn] at ga gb
   simp only [ZX,Za] at xa xb
   by_cases c1:0 < c
   ·rw [if_pos (o1.1 c1)] at e
    simp only [e,show ¬((7:Int)=0) by decide,if_false]
    unfold Zf at hB
    simp -implicitDefEqProofs only [go_sem,simprocAttr,Tryz.f100,Zb] at hB
    subst hB
    rw [Zc]
    simp -implicitDefEqProofs only [go_sem,simprocAttr,d,h6,ga,gb,xa,xb,xc,c1,Za,Zn,List.length_map]
   ·rw [if_neg (fun h=>c1 (o1.2 h))] at e
    by_cases c2:c=0
    ·have b2:(c==0)=true:=by simpa using c2
     rw [if_pos (o2.1 c2)] at e
     simp only [e,show ¬((10:Int)=0) by decide,if_false]
     unfold Zf at hB
     simp -implicitDefEqProofs only [go_sem,simprocAttr,Tryz.f100,Zb] at hB
     subst hB
     rw [Zc]
     simp -implicitDefEqProofs only [go_sem,simprocAttr,d,h6,ga,gb,xa,xb,xc,c1,b2,Za,Zn,List.length_map]
    ·have b2:(c==0)=false:=by simpa using c2
     rw [if_neg (fun h=>c2 (o2.2 h))] at e
     simp only [e]
     simp only [Za] at ih
     unfold Zf at hB
     simp -implicitDefEqProofs only [go_sem,simprocAttr,Tryz.f100,Zb] at hB
     subst hB
     rw [Zc]
     simp -implicitDefEqProofs only [go_sem,simprocAttr,d,h6,h7,ga,gb,xa,xb,xc,c1,b2,Za,Zn,List.length_map]
     exact ih
  ·have e:ZaV t (rs.drop j)=0:=by
    cases h:rs.drop j with
    | nil=>rfl
    | cons a l =>
     cases l with
     | nil=>rfl
     | cons b l =>
      have:=congrArg List.length h
      simp at this
      omega
   rw [if_pos e]
   unfold Zf at hB
   simp -implicitDefEqProofs only [go_sem,simprocAttr,Tryz.f100,Zb] at hB
   subst hB
   rw [Zc]
   simp -implicitDefEqProofs only [go_sem,simprocAttr,d,Za,List.length_map]
theorem ZnF (key:List Val→Option (List UInt8)) (S:List (List UInt8)) (r:List Val) (rs:List (List Val)):JB key S (r::rs)=match key r with
  | none=>JB key S rs
  | some k=>if k∈S then 10 else JB key (k::S) rs:=rfl
theorem ZoU (t:Tbl) (ht:t.cols.length≤1000000) (y:Idx) (hN:Zr t y.cols) (hk:y.cols.length≤1000000) (hu:y.uq=true) (rs:List (List Val)) (hrs:ZK t rs) (hl:rs.length≤1000000) (l:List Idx) (i:Int) :
  ∀ (q j:Nat) (es:List (AV×AV)) (S:List (List UInt8)),rs.length=j+q→SetM es S→∃ (es':List (AV×AV)),∀ (ks:List It) (jj:Int) (Bo:Code),Zf Tryz.f191 2 Bo→jj=(j:Int) →
  RL K (.run 191 0 (.code Bo::.lp Bo (some ([1,2,6,7,14,15,16,21,22,23],[])) 3::.blk 2 3::ks) [(1,.rows (rs.map Zn)),(2,.ptr 0 0),(6,.ptr 1 0),(7,.mp 2),(14,.rows (l.map ZT)),(15,I (l.length:Int)),(16,I i),(21,.rows (rs.map Zn)),(22,I (rs.length:Int)),(23,I jj)] [.cells (Za t),.cells (ZT y),.map es]) =
  if JB (Z1 true t y.cols) S (rs.drop j)=0 then R K (.run 191 0 ks [(1,.rows (rs.map Zn)),(2,.ptr 0 0),(14,.rows (l.map ZT)),(15,I (l.length:Int)),(16,I i)] [.cells (Za t),.cells (ZT y),.map es']) else some (I (JB (Z1 true t y.cols) S (rs.drop j)),[])
 | 0,j,es,S,hq,hS=>by
  have d:¬(j:Int) < (rs.length:Int):=by omega
  refine ⟨es,fun ks jj Bo hB hj=>?_⟩
  subst hj
  rw [List.drop_of_length_le (by omega),if_pos (show JB (Z1 true t y.cols) S []=0 from rfl)]
  unfold Zf at hB
  simp -implicitDefEqProofs only [go_sem,simprocAttr,Tryz.f191,Zb] at hB
  subst hB
  rw [Zc]
  simp -implicitDefEqProofs only [go_sem,simprocAttr,d,Za,ZT,List.length_map]
 | q+1,j,es,S,hq,hS=>by
  have d:(j:Int) < (rs.length:Int):=by omega
  have h7:=Zs (i:=j) (n:=rs.length) (by omega) (by omega)
  obtain ⟨r,hr⟩:=Ze (l:=rs) (i:=j) (by omega)
  have gr:=Yj hr
  have xp:=Yy t ht r (hrs r (List.mem_of_getElem? hr)) y.cols hN hk
  have xk:=Y6 (ZQ t y.cols r) (by rw [Z5];exact hk)
  have ekk:YM (ZQ t y.cols r)=ZD t y.cols r:=rfl
  rw [ekk] at xk
  have e0:=ZnF (Z1 true t y.cols) S r (rs.drop (j+1))
  rw [show r::rs.drop (j+1)=rs.drop j from (ZE hr).symm] at e0
  simp only [Zn] at gr
  simp only [ZX,Za] at xp
  cases c2:Ww (ZQ t y.cols r) with
  | false =>
   have ek:Z1 true t y.cols r=some (ZD t y.cols r):=by simp [Z1,c2]
   rw [ek] at e0
   simp only at e0
   rw [c2] at xp
   obtain ⟨w,hf,hin,hout,hS'⟩:=YY hS (ZD t y.cols r)
   by_cases hm:ZD t y.cols r∈S
   ·obtain ⟨i0,rfl⟩:=hin hm
    rw [if_pos hm] at e0
    refine ⟨es,fun ks jj Bo hB hj=>?_⟩
    subst hj
    simp only [e0,show ¬((10:Int)=0) by decide,if_false]
    unfold Zf at hB
    simp -implicitDefEqProofs only [go_sem,simprocAttr,Tryz.f191,Zb] at hB
    subst hB
    rw [Zc]
    simp -implicitDefEqProofs only [go_sem,simprocAttr,d,h7,gr,xp,xk,hu,hf,Bool.not_false,Za,ZT,Zn,List.length_map]
   ·obtain rfl:=hout hm
    rw [if_neg hm] at e0
    obtain ⟨es',ih⟩:=ZoU t ht y hN hk hu rs hrs hl l i q (j+1) _ _ (by omega) hS'
    refine ⟨es',fun ks jj Bo hB hj=>?_⟩
    subst hj
    have ih:=ih ks _ Bo hB rfl
    simp only [e0]
    simp only [Za,ZT,YK,hu] at ih ⊢
    unfold Zf at hB
    simp -implicitDefEqProofs only [go_sem,simprocAttr,Tryz.f191,Zb] at hB
    subst hB
    rw [Zc]
    simp -implicitDefEqProofs only [go_sem,simprocAttr,d,h7,gr,xp,xk,hu,hf,Bool.not_false,Za,ZT,Zn,List.length_map]
    exact ih
  | true =>
   have ek:Z1 true t y.cols r=none:=by simp [Z1,c2]
   rw [ek] at e0
   simp only at e0
   rw [c2] at xp
   obtain ⟨es',ih⟩:=ZoU t ht y hN hk hu rs hrs hl l i q (j+1) es S (by omega) hS
   refine ⟨es',fun ks jj Bo hB hj=>?_⟩
   subst hj
   have ih:=ih ks _ Bo hB rfl
   simp only [e0]
   simp only [Za,ZT,hu] at ih ⊢
   unfold Zf at hB
   simp -implicitDefEqProofs only [go_sem,simprocAttr,Tryz.f191,Zb] at hB
   subst hB
   rw [Zc]
   simp -implicitDefEqProofs only [go_sem,simprocAttr,d,h7,gr,xp,xk,hu,Bool.not_true,Za,ZT,Zn,List.length_map]
   exact ih
theorem Zrz (t:Tbl) (ht:t.cols.length≤1000000) (y:Idx) (hN:Zr t y.cols) (hk:y.cols.length≤1000000) (hu:y.uq=false) (rs:List (List Val)) (hrs:ZK t rs) (hl:rs.length≤1000000) (l:List Idx) (i:Int) (es:List (AV×AV)) (ks:List It) :
  ∀ (q j:Nat) (jj:Int) (Bo:Code),Zf Tryz.f191 2 Bo→jj=(j:Int)→rs.length=j+q →
  RL K (.run 191 0 (.code Bo::.lp Bo (some ([1,2,6,7,14,15,16,21,22,23],[])) 3::.blk 2 3::ks) [(1,.rows (rs.map Zn)),(2,.ptr 0 0),(6,.ptr 1 0),(7,.mp 2),(14,.rows (l.map ZT)),(15,I (l.length:Int)),(16,I i),(21,.rows (rs.map Zn)),(22,I (rs.length:Int)),(23,I jj)] [.cells (Za t),.cells (ZT y),.map es]) =
  R K (.run 191 0 ks [(1,.rows (rs.map Zn)),(2,.ptr 0 0),(14,.rows (l.map ZT)),(15,I (l.length:Int)),(16,I i)] [.cells (Za t),.cells (ZT y),.map es])
 | 0,j,jj,Bo,hB,hj,hq=>by
  have d:¬(j:Int) < (rs.length:Int):=by omega
  subst hj
  unfold Zf at hB
  simp -implicitDefEqProofs only [go_sem,simprocAttr,Tryz.f191,Zb] at hB
  subst hB
  rw [Zc]
  simp -implicitDefEqProofs only [go_sem,simprocAttr,d,Za,ZT,List.length_map]
 | q+1,j,jj,Bo,hB,hj,hq=>by
  have hB':=hB
  have d:(j:Int) < (rs.length:Int):=by omega
  have h7:=Zs (i:=j) (n:=rs.length) (by omega) (by omega)
  obtain ⟨r,hr⟩:=Ze (l:=rs) (i:=j) (by omega)
  have gr:=Yj hr
  have xp:=Yy t ht r (hrs r (List.mem_of_getElem? hr)) y.cols hN hk
  have xk:=Y6 (ZQ t y.cols r) (by rw [Z5];exact hk)
  have ih:=Zrz t ht y hN hk hu rs hrs hl l i es ks q (j+1) _ Bo hB' rfl (by omega)
  subst hj
  simp only [Zn] at gr
  simp only [ZX,Za] at xp
  simp only [Za,ZT,hu] at ih ⊢
  unfold Zf at hB
  simp -implicitDefEqProofs only [go_sem,simprocAttr,Tryz.f191,Zb] at hB
  subst hB
  rw [Zc]
  simp -implicitDefEqProofs only [go_sem,simprocAttr,d,h7,gr,xp,xk,hu,Za,ZT,Zn,List.length_map]
  exact ih
theorem Ztt (t:Tbl) (ht:t.cols.length≤1000000) (hN:t.idx.length≤1000000∧∀ y∈t.idx,Zr t y.cols∧y.cols.length≤1000000) (rs:List (List Val)) (hrs:ZK t rs) (hl:rs.length≤1000000) (ks:List It) :
  ∀ (q j:Nat) (jj:Int) (Bo:Code),Zf Tryz.f191 0 Bo→jj=(j:Int)→t.idx.length=j+q →
  RL K (.run 191 0 (.code Bo::.lp Bo (some ([1,2,14,15,16],[])) 1::.blk 0 1::ks) [(1,.rows (rs.map Zn)),(2,.ptr 0 0),(14,.rows (t.idx.map ZT)),(15,I (t.idx.length:Int)),(16,I jj)] [.cells (Za t)]) =
  if Zep t rs (t.idx.drop j)=0 then R K (.run 191 0 ks [] [.cells (Za t)]) else some (I (Zep t rs (t.idx.drop j)),[])
 | 0,j,jj,Bo,hB,hj,hq=>by
  have d:¬(j:Int) < (t.idx.length:Int):=by omega
  subst hj
  rw [List.drop_of_length_le (by omega),if_pos (show Zep t rs []=0 from rfl)]
  unfold Zf at hB
  simp -implicitDefEqProofs only [go_sem,simprocAttr,Tryz.f191,Zb] at hB
  subst hB
  rw [Zc]
  simp -implicitDefEqProofs only [go_sem,simprocAttr,d,Za,List.length_map]
 | q+1,j,jj,Bo,hB,hj,hq=>by
  have hB':=hB
  have d:(j:Int) < (t.idx.length:Int):=by omega
  have hil:=hN.1
  have h7:=Zs (i:=j) (n:=t.idx.length) (by omega) (by omega)
  obtain ⟨y,hy⟩:=Ze (l:=t.idx) (i:=j) (by omega)
  have gy:=Ji hy
  obtain ⟨n1,n2⟩:=hN.2 y (List.mem_of_getElem? hy)
  have ih:=Ztt t ht hN rs hrs hl ks q (j+1) _ Bo hB' rfl (by omega)
  have e0:Zep t rs (t.idx.drop j)=if (if y.uq=true then JB (Z1 true t y.cols) [] rs else 0)=0 then Zep t rs (t.idx.drop (j+1)) else (if y.uq=true then JB (Z1 true t y.cols) [] rs else 0):=by
   rw [ZE hy]
   rfl
  subst hj
  cases hu:y.uq with
  | true =>
   obtain ⟨es',l2⟩:=ZoU t ht y n1 n2 hu rs hrs hl t.idx (j:Int) rs.length 0 [] [] (by omega) SetM.nil
   have l2:=fun ks B hB=>l2 ks 0 B hB rfl
   rw [List.drop_zero] at l2
   simp only [hu,if_true] at e0
   by_cases h0:JB (Z1 true t y.cols) [] rs=0
   ·rw [if_pos h0] at e0
    simp only [h0,if_true,Za,ZT,hu] at l2
    simp only [e0]
    simp only [Za,ZT,hu] at gy ih ⊢
    unfold Zf at hB
    simp -implicitDefEqProofs only [go_sem,simprocAttr,Tryz.f191,Zb] at hB
    subst hB
    rw [Zc]
    simp -implicitDefEqProofs only [go_sem,simprocAttr,d,h7,gy,hu,Za,ZT,List.length_map]
    rw [l2 _ _ (by rfl)]
    simp -implicitDefEqProofs only [go_sem,simprocAttr,h7,Za,ZT,List.length_map]
    exact ih
   ·rw [if_neg h0] at e0
    simp only [h0,if_false,Za,ZT,hu] at l2
    simp only [e0,h0,if_false]
    simp only [Za,ZT,hu] at gy ih ⊢
    unfold Zf at hB
    simp -implicitDefEqProofs only [go_sem,simprocAttr,Tryz.f191,Zb] at hB
    subst hB
    rw [Zc]
    simp -implicitDefEqProofs only [go_sem,simprocAttr,d,h7,gy,hu,Za,ZT,List.length_map]
    rw [l2 _ _ (by rfl)]
  | false =>
   have l2:=fun ks B hB=>Zrz t ht y n1 n2 hu rs hrs hl t.idx (j:Int) [] ks rs.length 0 0 B hB rfl (by omega)
   simp only [hu,Bool.false_eq_true,if_false,if_true] at e0
   simp only [e0]
   simp only [Za,ZT,hu] at gy ih l2 ⊢
   unfold Zf at hB
   simp -implicitDefEqProofs only [go_sem,simprocAttr,Tryz.f191,Zb] at hB
   subst hB
   rw [Zc]
   simp -implicitDefEqProofs only [go_sem,simprocAttr,d,h7,gy,hu,Za,ZT,List.length_map]
   rw [l2 _ _ (by rfl)]
   simp -implicitDefEqProofs only [go_sem,simprocAttr,h7,Za,ZT,List.length_map]
   exact ih
theorem Zfw (t:Tbl) (ht:t.cols.length≤1000000) (hN:t.idx.length≤1000000∧∀ y∈t.idx,Zr t y.cols∧y.cols.length≤1000000) (rs:List (List Val)) (hrs:ZK t rs) (hl:rs.length≤1000000) :
  R K (.call 191 [ZX t,.rows (rs.map Zn)] [])=some (I (Zep t rs t.idx),[]):=by
 have l0:=fun ks B hB=>Ztt t ht hN rs hrs hl ks t.idx.length 0 0 B hB rfl (by omega)
 rw [List.drop_zero] at l0
 by_cases h0:Zep t rs t.idx=0
 ·simp only [h0,if_true] at l0 ⊢
  simp only [ZX,Za] at l0 ⊢
  rw [ZiO]
  simp -implicitDefEqProofs only [go_sem,simprocAttr,Tryz.f191,Za,List.length_map]
  rw [l0 _ _ (by rfl)]
  simp -implicitDefEqProofs only [go_sem,simprocAttr,Za]
 ·simp only [h0,if_false] at l0
  simp only [ZX,Za] at l0 ⊢
  rw [ZiO]
  simp -implicitDefEqProofs only [go_sem,simprocAttr,Tryz.f191,Za,List.length_map]
  rw [l0 _ _ (by rfl)]
theorem Zd3 (t:Tbl) (ht:t.cols.length≤1000000) (hk:t.key.length≤1000000) (hK:Zr t t.key) (hN:t.idx.length≤1000000∧∀ y∈t.idx,Zr t y.cols∧y.cols.length≤1000000) (rs:List (List Val)) (hrs:ZK t rs) (hl:rs.length≤1000000) :
  R K (.call 100 [ZX t,.rows (rs.map Zn)] [])=some (I (Zf3 t rs),[]):=by
 have l0:=fun ks B hB=>ZtA t ht hk hK rs hrs hl ks rs.length 0 1 B hB rfl (by omega)
 rw [List.drop_zero] at l0
 have xu:=Zfw t ht hN rs hrs hl
 unfold Zf3
 by_cases h0:ZaV t rs=0
 ·simp only [h0,if_true] at l0 ⊢
  simp only [ZX,Za] at l0 xu ⊢
  rw [Zjk]
  simp -implicitDefEqProofs only [go_sem,simprocAttr,Tryz.f100,Za,List.length_map]
  rw [l0 _ _ (by rfl)]
  simp -implicitDefEqProofs only [go_sem,simprocAttr,xu,Za]
 ·simp only [h0,if_false] at l0 ⊢
  simp only [ZX,Za] at l0 ⊢
  rw [Zjk]
  simp -implicitDefEqProofs only [go_sem,simprocAttr,Tryz.f100,Za,List.length_map]
  rw [l0 _ _ (by rfl)]
def XL (t:Tbl) (rs:List (List Val)) (n:Nat):Int:=match rs[n]? with
 | some r=>Q4 true t r
 | none=>0
def Zes (t:Tbl) (rs:List (List Val)):Int:=if 5000 < rs.length then 2 else if evE (XL t rs) 0 rs.length=0 then Zf3 t rs else evE (XL t rs) 0 rs.length
def Zbz (x:List Tbl) (ds:List Dat) (i:Nat):Int:=match x[i]?,ds[i]? with
 | some t,some d=>Zes t d.rows
 | _,_=>0
def Xl (x:List Tbl) (ds:List Dat):Int:=if x.map (·.nm)=ds.map (·.nm) then evE (Zbz x ds) 0 x.length else 3
theorem Zrr {b:Bool} {t:Tbl} {r:List Val} (h:Q4 b t r=0):r.length=t.cols.length:=by
 unfold Q4 at h
 split at h
 ·assumption
 ·simp at h
theorem ZdL {t:Tbl} {rs:List (List Val)} (h:evE (XL t rs) 0 rs.length=0):ZK t rs:=by
 intro r hr
 obtain ⟨i,hi,rfl⟩:=List.mem_iff_getElem.1 hr
 have:=Xp _ 0 h i (by omega) (by omega)
 unfold XL at this
 rw [List.getElem?_eq_getElem hi] at this
 exact Zrr this
structure KeyOk (x:List Tbl):Prop where
 key:∀ t∈x,Zr t t.key
 idx:∀ t∈x,∀ y∈t.idx,Zr t y.cols
theorem ZtC (x:List Tbl) (ds:List Dat) (hx:x.length≤1000000) (hl:x.length=ds.length) (ks:List It):∀ (q j:Nat) (jj:Int) (Bo:Code),Zf Tryz.f51 0 Bo→jj=(j:Int)→x.length=j+q →
  RL K (.run 51 0 (.code Bo::.lp Bo (some ([2,3,4,23,24,25],[])) 2::.blk 0 2::ks) [(2,.bool true),(3,.ptr 0 0),(4,.ptr 1 0),(23,.rows (x.map Za)),(24,I (x.length:Int)),(25,I jj)] (dfH x ds)) =
  if (x.drop j).map (·.nm)=(ds.drop j).map (·.nm) then R K (.run 51 0 ks [(2,.bool true),(3,.ptr 0 0),(4,.ptr 1 0)] (dfH x ds)) else some (I 3,[])
 | 0,j,jj,Bo,hB,hj,hq=>by
  subst hj
  have d:¬(j:Int) < (x.length:Int):=by omega
  rw [List.drop_of_length_le (by omega),List.drop_of_length_le (by omega)]
  simp only [List.map_nil,if_true,dfH]
  unfold Zf at hB
  simp -implicitDefEqProofs only [go_sem,simprocAttr,Tryz.f51,Zb] at hB
  subst hB
  rw [Zc]
  simp -implicitDefEqProofs only [go_sem,simprocAttr,d]
 | q+1,j,jj,Bo,hB,hj,hq=>by
  subst hj
  have hB':=hB
  have d:(j:Int) < (x.length:Int):=by omega
  have h7:=Zs (i:=j) (n:=x.length) (by omega) (by omega)
  obtain ⟨t,ht⟩:=Ze (l:=x) (i:=j) (by omega)
  obtain ⟨e,he⟩:=Ze (l:=ds) (i:=j) (by omega)
  have gt:=ZG ht
  have ge:=YE he
  have ih:=ZtC x ds hx hl ks q (j+1) _ Bo hB' rfl (by omega)
  rw [ZE ht,ZE he]
  simp only [List.map_cons,List.cons.injEq]
  simp only [Za,Zh] at gt ge
  by_cases h:t.nm=e.nm
  ·have b0:(e.nm==t.nm)=true:=by simp [h]
   simp only [h,true_and]
   simp only [dfH] at ih ⊢
   unfold Zf at hB
   simp -implicitDefEqProofs only [go_sem,simprocAttr,Tryz.f51,Zb] at hB
   subst hB
   rw [Zc]
   simp -implicitDefEqProofs only [go_sem,simprocAttr,d,h7,gt,ge,b0,bne,Za,Zh]
   exact ih
  ·have b0:(e.nm==t.nm)=false:=by
    rw [←Bool.not_eq_true,beq_iff_eq];exact fun e=>h e.symm
   simp only [h,false_and,if_false,dfH]
   unfold Zf at hB
   simp -implicitDefEqProofs only [go_sem,simprocAttr,Tryz.f51,Zb] at hB
   subst hB
   rw [Zc]
   simp -implicitDefEqProofs only [go_sem,simprocAttr,d,h7,gt,ge,b0,bne,Za,Zh]
theorem Ztw (x:List Tbl) (ds:List Dat) (t:Tbl) (ht:t.cols.length≤1000000) (rs:List (List Val)) (hl:rs.length≤1000000) (hw:∀ r∈rs,r.length≤1000000) (i:Int) (ks:List It) :
  ∀ (q j:Nat) (jj:Int) (Bo:Code),Zf Tryz.f51 4 Bo→jj=(j:Int)→rs.length=j+q →
  RL K (.run 51 0 (.code Bo::.lp Bo (some ([2,4,9,10,41,42,43,61,62,63],[])) 3::.blk 4 3::ks) [(2,.bool true),(4,.ptr 1 0),(9,I i),(10,.ptr 2 0),(41,.rows (x.map Za)),(42,I (x.length:Int)),(43,I i),(61,.rows (rs.map Zn)),(62,I (rs.length:Int)),(63,I jj)] (dfH x ds++[.cells (Za t)])) =
  if evE (XL t rs) j q=0 then R K (.run 51 0 ks [(2,.bool true),(4,.ptr 1 0),(9,I i),(10,.ptr 2 0),(41,.rows (x.map Za)),(42,I (x.length:Int)),(43,I i)] (dfH x ds++[.cells (Za t)])) else some (I (evE (XL t rs) j q),[])
 | 0,j,jj,Bo,hB,hj,hq=>by
  subst hj
  have d:¬(j:Int) < (rs.length:Int):=by omega
  simp only [evE,if_true,dfH,List.cons_append,List.nil_append,Za]
  unfold Zf at hB
  simp -implicitDefEqProofs only [go_sem,simprocAttr,Tryz.f51,Zb] at hB
  subst hB
  rw [Zc]
  simp -implicitDefEqProofs only [go_sem,simprocAttr,d,Za]
 | q+1,j,jj,Bo,hB,hj,hq=>by
  subst hj
  have hB':=hB
  have d:(j:Int) < (rs.length:Int):=by omega
  have h7:=Zs (i:=j) (n:=rs.length) (by omega) (by omega)
  obtain ⟨r,hr⟩:=Ze (l:=rs) (i:=j) (by omega)
  have gr:=Yj hr
  have x0:=Ze5 true t ht r (hw r (List.mem_of_getElem? hr))
  have er:XL t rs j=Q4 true t r:=by simp only [XL,hr]
  have ih:=Ztw x ds t ht rs hl hw i ks q (j+1) _ Bo hB' rfl (by omega)
  simp only [evE,er]
  simp only [Zn] at gr
  simp only [ZX,dfH,List.cons_append,List.nil_append,Za] at x0 ih ⊢
  by_cases h0:Q4 true t r=0
  ·rw [h0] at x0
   simp only [h0,if_true]
   unfold Zf at hB
   simp -implicitDefEqProofs only [go_sem,simprocAttr,Tryz.f51,Zb] at hB
   subst hB
   rw [Zc]
   simp -implicitDefEqProofs only [go_sem,simprocAttr,d,h7,gr,x0,bne,beq_self_eq_true,Zn,Za]
   exact ih
  ·have b0:(Q4 true t r==0)=false:=by simpa using h0
   simp only [h0,if_false]
   unfold Zf at hB
   simp -implicitDefEqProofs only [go_sem,simprocAttr,Tryz.f51,Zb] at hB
   subst hB
   rw [Zc]
   simp -implicitDefEqProofs only [go_sem,simprocAttr,d,h7,gr,x0,b0,bne,Zn,Za]
theorem ZtV (x:List Tbl) (ds:List Dat) (hx:FitX x) (hd:FitD ds) (hk:KeyOk x) (hl:x.length=ds.length) (ks:List It) :
  ∀ (q i:Nat) (ii:Int) (Bo:Code),Zf Tryz.f51 2 Bo→ii=(i:Int)→x.length=i+q →
  RL K (.run 51 0 (.code Bo::.lp Bo (some ([2,4,41,42,43],[])) 2::.blk 2 2::ks) [(2,.bool true),(4,.ptr 1 0),(41,.rows (x.map Za)),(42,I (x.length:Int)),(43,I ii)] (dfH x ds)) =
  if evE (Zbz x ds) i q=0 then R K (.run 51 0 ks [] (dfH x ds)) else some (I (evE (Zbz x ds) i q),[])
 | 0,i,ii,Bo,hB,hi,hq=>by
  subst hi
  have d:¬(i:Int) < (x.length:Int):=by omega
  simp only [evE,if_true,dfH]
  unfold Zf at hB
  simp -implicitDefEqProofs only [go_sem,simprocAttr,Tryz.f51,Zb] at hB
  subst hB
  rw [Zc]
  simp -implicitDefEqProofs only [go_sem,simprocAttr,d]
 | q+1,i,ii,Bo,hB,hi,hq=>by
  subst hi
  have hB':=hB
  have hxl:=hx.len
  have d:(i:Int) < (x.length:Int):=by omega
  have h7:=Zs (i:=i) (n:=x.length) (by omega) (by omega)
  obtain ⟨t,ht⟩:=Ze (l:=x) (i:=i) (by omega)
  obtain ⟨e,he⟩:=Ze (l:=ds) (i:=i) (by omega)
  have gt:=ZG ht
  have ge:=YE he
  have ft:=hx.tbl t (List.mem_of_getElem? ht)
  have fe:=hd.rows e (List.mem_of_getElem? he)
  have ed:Zbz x ds i=Zes t e.rows:=by simp only [Zbz,ht,he]
  have ih:=ZtV x ds hx hd hk hl ks q (i+1) _ Bo hB' rfl (by omega)
  simp only [evE,ed]
  simp only [Za,Zh] at gt ge
  by_cases hbig:5000 < e.rows.length
  ·have d2:(5000:Int) < (e.rows.length:Int):=by omega
   have ew:Zes t e.rows=2:=by rw [Zes,if_pos hbig]
   simp only [ew,show ¬((2:Int)=0) by decide,if_false]
   simp only [dfH]
   unfold Zf at hB
   simp -implicitDefEqProofs only [go_sem,simprocAttr,Tryz.f51,Zb] at hB
   subst hB
   rw [Zc]
   simp -implicitDefEqProofs only [go_sem,simprocAttr,d,gt,ge,d2,Zh,Za,List.length_map]
  ·have d2:¬(5000:Int) < (e.rows.length:Int):=by omega
   have l2:=fun ks B hB=>Ztw x ds t ft.cols e.rows fe.1 fe.2 (i:Int) ks e.rows.length 0 0 B hB rfl (by omega)
   by_cases hz:evE (XL t e.rows) 0 e.rows.length=0
   ·have ew:Zes t e.rows=Zf3 t e.rows:=by rw [Zes,if_neg hbig,if_pos hz]
    have xk:=Zd3 t ft.cols ft.key (hk.key t (List.mem_of_getElem? ht)) ⟨ft.idx,fun y hy=>⟨hk.idx t (List.mem_of_getElem? ht) y hy,(ft.ix y hy).2⟩⟩ e.rows (ZdL hz) fe.1
    simp only [ew]
    simp only [hz,if_true] at l2
    simp only [ZX] at xk
    simp only [dfH,List.cons_append,List.nil_append,Za] at ih l2 xk ⊢
    by_cases h0:Zf3 t e.rows=0
    ·rw [h0] at xk
     simp only [h0,if_true]
     unfold Zf at hB
     simp -implicitDefEqProofs only [go_sem,simprocAttr,Tryz.f51,Zb] at hB
     subst hB
     rw [Zc]
     simp -implicitDefEqProofs only [go_sem,simprocAttr,d,gt,ge,d2,Zh,Za,List.length_map]
     rw [l2 _ _ (by rfl)]
     simp -implicitDefEqProofs only [go_sem,simprocAttr,h7,gt,ge,xk,bne,beq_self_eq_true,Zh,Za]
     exact ih
    ·have b0:(Zf3 t e.rows==0)=false:=by simpa using h0
     simp only [h0,if_false]
     unfold Zf at hB
     simp -implicitDefEqProofs only [go_sem,simprocAttr,Tryz.f51,Zb] at hB
     subst hB
     rw [Zc]
     simp -implicitDefEqProofs only [go_sem,simprocAttr,d,gt,ge,d2,Zh,Za,List.length_map]
     rw [l2 _ _ (by rfl)]
     simp -implicitDefEqProofs only [go_sem,simprocAttr,h7,gt,ge,xk,bne,b0,Zh,Za]
   ·have ew:Zes t e.rows=evE (XL t e.rows) 0 e.rows.length:=by rw [Zes,if_neg hbig,if_neg hz]
    simp only [ew]
    simp only [hz,if_false] at l2 ⊢
    simp only [dfH,List.cons_append,List.nil_append,Za] at ih l2 ⊢
    unfold Zf at hB
    simp -implicitDefEqProofs only [go_sem,simprocAttr,Tryz.f51,Zb] at hB
    subst hB
    rw [Zc]
    simp -implicitDefEqProofs only [go_sem,simprocAttr,d,gt,ge,d2,Zh,Za,List.length_map]
    rw [l2 _ _ (by rfl)]
theorem Zj6 (x:List Tbl) (ds:List Dat) (hx:FitX x) (hd:FitD ds) (hk:KeyOk x):R K (.call 51 [WI x,YF ds,.bool true] [])=some (I (Xl x ds),[]):=by
 by_cases hl:x.length=ds.length
 ·have b0:(((ds.length:Nat):Int)==((x.length:Nat):Int))=true:=by simp [hl]
  have l0:=fun ks B hB=>ZtC x ds hx.len hl ks x.length 0 0 B hB rfl (by omega)
  have l2:=fun ks B hB=>ZtV x ds hx hd hk hl ks x.length 0 0 B hB rfl (by omega)
  simp only [List.drop_zero] at l0
  by_cases hn:x.map (·.nm)=ds.map (·.nm)
  ·have ew:Xl x ds=evE (Zbz x ds) 0 x.length:=by rw [Xl,if_pos hn]
   rw [←ew] at l2
   simp only [hn,if_true] at l0
   simp only [dfH] at l0 l2
   by_cases h0:Xl x ds=0
   ·simp only [h0,if_true] at l2 ⊢
    rw [ZeD]
    simp -implicitDefEqProofs only [go_sem,simprocAttr,Tryz.f51,b0,bne,List.length_map]
    rw [l0 _ _ ?_]
    ·simp -implicitDefEqProofs only [go_sem,simprocAttr,List.length_map]
     rw [l2 _ _ ?_]
     ·simp -implicitDefEqProofs only [go_sem,simprocAttr]
     ·rfl
    ·rfl
   ·simp only [h0,if_false] at l2
    rw [ZeD]
    simp -implicitDefEqProofs only [go_sem,simprocAttr,Tryz.f51,b0,bne,List.length_map]
    rw [l0 _ _ ?_]
    ·simp -implicitDefEqProofs only [go_sem,simprocAttr,List.length_map]
     rw [l2 _ _ ?_]
     rfl
    ·rfl
  ·have ew:Xl x ds=3:=by rw [Xl,if_neg hn]
   rw [ew]
   simp only [hn,if_false] at l0
   simp only [dfH] at l0
   rw [ZeD]
   simp -implicitDefEqProofs only [go_sem,simprocAttr,Tryz.f51,b0,bne,List.length_map]
   rw [l0 _ _ ?_]
   rfl
 ·have b0:(((ds.length:Nat):Int)==((x.length:Nat):Int))=false:=by
   rw [←Bool.not_eq_true,beq_iff_eq];omega
  have hne:¬x.map (·.nm)=ds.map (·.nm):=fun e=>hl (by simpa using congrArg List.length e)
  have ew:Xl x ds=3:=by rw [Xl,if_neg hne]
  rw [ew]
  rw [ZeD]
  simp -implicitDefEqProofs only [go_sem,simprocAttr,Tryz.f51,b0,bne,List.length_map]
theorem Zqq (h:Zd) (n:Nat) (hn:n≤1000000):Yg Tryz.prog 112 h (.int .i64 (n:Int)) (.int .i64 (n:Int))=some (.own h.length n,h++[.rows 1 (List.replicate n [.nilm]) true]):=by
 have e:es Tryz.prog 112=some (1,8):=rfl
 have e2:Wc Tryz.prog 112=some .nilm:=rfl
 unfold Yg
 simp only [if_true,e,e2,Zdj,Zau,Int.toNat_natCast]
 rw [if_pos ⟨by omega,by unfold Zg;omega⟩]
 rfl
theorem We (h:Zd):Yg Tryz.prog 112 h (.int .i64 1) (.int .i64 1)=some (.own h.length 1,h++[.rows 1 [[.nilm]] true]):=Zqq h 1 (by omega)
theorem Y2 (h:Zd):Yg Tryz.prog 112 h (.int .i64 2) (.int .i64 2)=some (.own h.length 2,h++[.rows 1 [[.nilm],[.nilm]] true]):=Zqq h 2 (by omega)
theorem Yq (h:Zd):Yg Tryz.prog 112 h (.int .i64 3) (.int .i64 3)=some (.own h.length 3,h++[.rows 1 [[.nilm],[.nilm],[.nilm]] true]):=Zqq h 3 (by omega)
theorem SetE.nil:SetE []:=⟨[],SetM.nil⟩
def XA (key:List Val→Option (List UInt8)) (S:List (List UInt8)):List (List Val)→Int
 | []=>0
 | r::rs=>match key r with
  | none=>XA key S rs
  | some k=>if k∈S then XA key S rs else 11
theorem Zbq (key:List Val→Option (List UInt8)) (S:List (List UInt8)) (r:List Val) (rs:List (List Val)):XA key S (r::rs)=match key r with
  | none=>XA key S rs
  | some k=>if k∈S then XA key S rs else 11:=rfl
def YI (x:List Tbl) (ds:List Dat) (t:Tbl) (rs:List (List Val)):List Fgn→Int
 | []=>0
 | f::l=>if XA (Z1 true t f.cols) (ZF x ds f.tb) rs=0 then YI x ds t rs l else XA (Z1 true t f.cols) (ZF x ds f.tb) rs
def Yl (x:List Tbl) (ds:List Dat) (i:Nat):Int:=match x[i]?,ds[i]? with
 | some t,some d=>YI x ds t d.rows t.fgn
 | _,_=>0
def Wm (x:List Tbl) (ds:List Dat):Int:=evE (Yl x ds) 0 x.length
theorem ZiW (x:List Tbl) (ds:List Dat) (t0:Tbl) (hc:t0.cols.length≤1000000) (hk:t0.key.length≤1000000) (hN:Zr t0 t0.key) (rs:List (List Val)) (hrs:ZK t0 rs) (hl:rs.length≤1000000) :
  ∀ (q j:Nat) (es:List (AV×AV)) (S:List (List UInt8)),rs.length=j+q→SetM es S→∃ es',SetM es' ((rs.drop j).map (ZD t0 t0.key)++S)∧∀ (ks:List It) (jj:Int) (Bo:Code),Zf Tryz.f52 2 Bo→jj=(j:Int) →
  RL K (.run 52 0 (.code Bo::.lp Bo (some ([2,3,5,6,7,25,26,27,41,42,43],[])) 5::.blk 2 5::ks) [(2,.ptr 0 0),(3,.ptr 1 0),(5,.own 2 1),(6,I 0),(7,.ptr 3 0),(25,.rows (x.map Za)),(26,I 1),(27,I 0),(41,.rows (rs.map Zn)),(42,I (rs.length:Int)),(43,I jj)] [.cells [.rows (x.map Za)],.cells [.rows (ds.map Zh)],.rows 1 [[.mp 4]] true,.cells (Za t0),.map es]) =
  R K (.run 52 0 ks [(2,.ptr 0 0),(3,.ptr 1 0),(5,.own 2 1),(25,.rows (x.map Za)),(26,I 1),(27,I 0)] [.cells [.rows (x.map Za)],.cells [.rows (ds.map Zh)],.rows 1 [[.mp 4]] true,.cells (Za t0),.map es'])
 | 0,j,es,S,hq,hS=>by
  have d:¬(j:Int) < (rs.length:Int):=by omega
  refine ⟨es,by rw [List.drop_of_length_le (by omega)];exact hS,fun ks jj Bo hB hj=>?_⟩
  subst hj
  unfold Zf at hB
  simp -implicitDefEqProofs only [go_sem,simprocAttr,Tryz.f52,Zb] at hB
  subst hB
  rw [Zc]
  simp -implicitDefEqProofs only [go_sem,simprocAttr,d,Za]
 | q+1,j,es,S,hq,hS=>by
  have d:(j:Int) < (rs.length:Int):=by omega
  have h7:=Zs (i:=j) (n:=rs.length) (by omega) (by omega)
  obtain ⟨r,hr⟩:=Ze (l:=rs) (i:=j) (by omega)
  have gr:=Yj hr
  have xp:=Yy t0 hc r (hrs r (List.mem_of_getElem? hr)) t0.key hN hk
  have xk:=Y6 (ZQ t0 t0.key r) (by rw [Z5];exact hk)
  have ekk:YM (ZQ t0 t0.key r)=ZD t0 t0.key r:=rfl
  rw [ekk] at xk
  obtain ⟨v,hf,_,_,hS'⟩:=YY hS (ZD t0 t0.key r)
  obtain ⟨es',h',ih⟩:=ZiW x ds t0  hc hk hN rs hrs hl q (j+1) _ _ (by omega) hS'
  refine ⟨es',h'.same fun s=>(by
   rw [ZE hr]
   simp only [List.map_cons,List.cons_append,List.mem_append,List.mem_cons]
   constructor
   ·rintro (h | h | h)
    ·exact .inr (.inl h)
    ·exact .inl h
    ·exact .inr (.inr h)
   ·rintro (h | h | h)
    ·exact .inr (.inl h)
    ·exact .inl h
    ·exact .inr (.inr h)),fun ks jj Bo hB hj=>?_⟩
  subst hj
  have ih:=ih ks _ Bo hB rfl
  simp only [Zn] at gr
  simp only [ZX,Za] at xp
  simp only [Za] at ih
  unfold Zf at hB
  simp -implicitDefEqProofs only [go_sem,simprocAttr,Tryz.f52,Zb] at hB
  subst hB
  rw [Zc]
  simp -implicitDefEqProofs only [go_sem,simprocAttr,d,h7,gr,xp,xk,hf,Za,Zn]
  exact ih
end Go.Ab
