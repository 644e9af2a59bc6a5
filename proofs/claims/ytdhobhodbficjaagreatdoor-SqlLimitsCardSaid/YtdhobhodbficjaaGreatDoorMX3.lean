/- What is proved: contracts of the program's and the reference's functions in the evaluator, and plain laws on them. Conditions: as each states. -/
import Derived.Test.YtdhobhodbficjaaGreatDoorMX2
set_option linter.unusedSimpArgs false
set_option linter.unusedSectionVars false
set_option linter.unusedVariables false
set_option maxRecDepth 100000
namespace Go.Ab
open Go Go.Proofs
section
variable {Bs:World→Prop}
variable {P:Program} {μ:Mp Bs} {h:Heap} {w:World} {a:Act} {o:Oper} {x:AV}
variable {P:Program} {μ:Mp Bs} {h:Heap} {w:World}
mutual
theorem snapG_sound (hr:Rel μ h w) {f:List AV→Option (List AV)} (hf:Looks μ h w f):∀ (a a':AV) (v:Value),snapG f h a=some a'→Rep μ h w a v→PRep NoM w a' v
 | .own l n,a',v,e,r=>by
  simp only [snapG] at e
  split at e
  ·rename_i z rs wr hl
   split at e
   ·rename_i hn
    split at e
    ·rename_i rs' hs
     simp only [Option.some.injEq] at e
     subst e
     obtain ⟨z',rs2,wr',base,cap,hl',_,rfl,hv⟩:=r
     rw [hl] at hl'
     simp only [Option.some.injEq,Blk.rows.injEq] at hl'
     obtain ⟨rfl,rfl,rfl⟩:=hl'
     obtain ⟨hc,_,hb⟩:=hv hn.symm
     rcases hr.blk l _ hl with ⟨_,hnone⟩ | ⟨b',vs',T',hm',⟨_,hw',_⟩,hlen,hin⟩
     ·have h0:rs=[]:=by
       rcases hb with hb0 | ⟨b,vs,T,_,hm,_⟩
       ·exact List.length_eq_zero_iff.1 (by omega)
       ·rw [hm] at hnone;simp at hnone
      subst h0
      have e2:rs'=[]:=by
       unfold snapOf at hs
       split at hs
       ·simpa using hs.symm
       ·simpa [snapRows] using hs.symm
      subst e2
      have:n=0:=by simpa using hn.symm
      subst this
      exact ⟨base,cap,rfl,Nat.zero_le _,.inl rfl⟩
     ·obtain ⟨h1,h2⟩:=rows_look hf hs hin
      refine ⟨base,cap,by rw [h1,hn],by omega,?_⟩
      rcases hb with rfl | ⟨b,vs,T,rfl,hm,hw,_⟩
      ·left
       have:rs'.length=0:=by omega
       exact List.length_eq_zero_iff.1 this
      ·right
       have eb:b'=b:=by rw [hm] at hm';simpa using hm'.symm
       subst eb
       refine ⟨b',0,z,rfl,PRows.of_at rs' 0 fun i row hrow=>?_⟩
       obtain ⟨h3,h4,h5⟩:=h2 i row hrow
       refine ⟨h3,h4,PMem.of_at row _ fun c a ha=>?_⟩
       obtain ⟨u,hu,hp⟩:=h5 c a ha
       exact ⟨u,by simp only [World.cell?,hw'];simpa using hu,fun x=>x,hp⟩
    ·simp at e
   ·simp at e
  ·simp at e
 | .ptr l o,a',v,e,r=>by
  simp only [snapG] at e
  split at e
  ·rename_i cs hl
   split at e
   ·rename_i cs' hs
    simp only [Option.some.injEq] at e
    subst e
    obtain ⟨cs2,b,hl',hm,rfl⟩:=r
    rcases hr.blk l _ hl with ⟨b',vs',T',hm',hw',_,hin⟩
    have eb:b'=b:=by rw [hm] at hm';simpa using hm'.symm
    subst eb
    obtain ⟨e1,e2,e3⟩:=okRow_some hs
    have h3:=hf cs cs' vs' e1 hin
    refine ⟨b',0,by rw [Nat.zero_add],PMem.of_at cs' 0 fun c a ha=>?_⟩
    obtain ⟨u,hu,hp⟩:=prepL_at cs' vs' h3 c a ha
    exact ⟨u,by simp only [World.cell?,hw'];simpa using hu,fun x=>x,hp⟩
   ·simp at e
  ·simp at e
 | .optr l n i o,a',v,e,r=>by
  simp only [snapG] at e
  split at e
  ·rename_i z rs wr hl
   split at e
   ·rename_i hn
    split at e
    ·rename_i row hrow
     split at e
     ·rename_i row' hs
      simp only [Option.some.injEq] at e
      subst e
      obtain ⟨z',rs2,wr',b,hl',_,rfl,hv⟩:=r
      rw [hl] at hl'
      simp only [Option.some.injEq,Blk.rows.injEq] at hl'
      obtain ⟨rfl,rfl,rfl⟩:=hl'
      have hm:=hv hn.symm
      rcases hr.blk l _ hl with ⟨_,h0⟩ | ⟨b',vs',T',hm',⟨_,hw',_⟩,hlen,hin⟩
      ·rw [hm] at h0;simp at h0
      ·have eb:b'=b:=by rw [hm] at hm';simpa using hm'.symm
       subst eb
       obtain ⟨h5,h6,h7⟩:=hin i row hrow
       obtain ⟨h8,h9,h10⟩:=cells_look hf hs (V:=fun c=>vs'[i*z+c]?) h7
       refine ⟨b',i*z,rfl,PMem.of_at row' (i*z) fun c a ha=>?_⟩
       obtain ⟨u,hu,hp⟩:=h10 c a ha
       exact ⟨u,by simp only [World.cell?,hw'];simpa using hu,fun x=>x,hp⟩
     ·simp at e
    ·simp at e
   ·simp at e
  ·simp at e
 | .nils,a',v,e,r=>by
  simp only [snapG,Option.some.injEq] at e
  subst e
  have hv:v=.slice none 0 0:=r
  subst hv
  exact ⟨none,0,rfl,Nat.le_refl _,.inl rfl⟩
 | .lit rs,a',v,e,r=>by
  simp only [snapG,Option.some.injEq] at e
  subst e
  obtain ⟨base,rfl,hb⟩:=PRep.keep (keeps_no _ _) (.lit rs) v r
  exact ⟨base,rs.length,rfl,Nat.le_refl _,hb⟩
 | .agg cs,a',v,e,r=>by
  simp only [snapG] at e
  split at e
  ·rename_i cs' hs
   simp only [Option.some.injEq] at e
   subst e
   obtain ⟨vs,hv,r⟩:=r
   exact ⟨vs,hv,snapGL_sound hr hf cs cs' vs hs r⟩
  ·simp at e
 | .tup cs,a',v,e,r=>by
  simp only [snapG] at e
  split at e
  ·rename_i cs' hs
   simp only [Option.some.injEq] at e
   subst e
   obtain ⟨vs,hv,r⟩:=r
   exact ⟨vs,hv,snapGL_sound hr hf cs cs' vs hs r⟩
  ·simp at e
 | .fn g cs,a',v,e,r=>by
  simp only [snapG] at e
  split at e
  ·rename_i cs' hs
   simp only [Option.some.injEq] at e
   subst e
   obtain ⟨vs,hv,r⟩:=r
   exact ⟨vs,hv,snapGL_sound hr hf cs cs' vs hs r⟩
  ·simp at e
 | .bnd g cs,a',v,e,r=>by
  simp only [snapG] at e
  split at e
  ·rename_i cs' hs
   simp only [Option.some.injEq] at e
   subst e
   obtain ⟨vs,hv,r⟩:=r
   exact ⟨vs,hv,snapGL_sound hr hf cs cs' vs hs r⟩
  ·simp at e
 | .iface t a,a',v,e,r=>by
  simp only [snapG] at e
  split at e
  ·rename_i a2 hs
   simp only [Option.some.injEq] at e
   subst e
   obtain ⟨x,hv,r⟩:=r
   exact ⟨x,hv,snapG_sound hr hf a a2 x hs r⟩
  ·simp at e
 | .mp _,_,_,e,_=>by simp [snapG] at e
 | .tptr _ _ _,_,_,e,_=>by simp [snapG] at e
 | .town _ _ _,_,_,e,_=>by simp [snapG] at e
 | .vw l n q m,a',v,e,r=>by
  simp only [snapG] at e
  split at e
  ·rename_i z rs wr hl
   split at e
   ·rename_i hc
    obtain ⟨hn,hqm⟩:=hc
    split at e
    ·rename_i rs' hs
     simp only [Option.some.injEq] at e
     subst e
     have hlen:(cut rs q (q+m)).length=m:=by rw [cut_len _ _ _ (by omega)];omega
     rcases Nat.eq_zero_or_pos m with h0 | h0
     ·have hc0:cut rs q (q+m)=[]:=List.length_eq_zero_iff.1 (by rw [hlen];exact h0)
      rw [hc0] at hs
      have e2:rs'=[]:=by
       unfold snapOf at hs
       split at hs
       ·simpa using hs.symm
       ·simpa [snapRows] using hs.symm
      subst e2
      obtain ⟨z2,rs2,wr2,base,cap,h1,h2,rfl,h4⟩:=r
      subst h0
      exact ⟨base,cap,rfl,Nat.zero_le _,.inl rfl⟩
     ·obtain ⟨cap,b,vs,T,rfl,h5,h6,hm,⟨fz,hw,hfz⟩,hlv,hcz,hin⟩:=view_rows hr hl hn (by omega) r
      have hin2:RowsN μ h w z (cut rs q (q+m)) (vs.toList.drop (q*z)).toArray:=fun i row hrow=>by
       rw [cut_get] at hrow
       split at hrow
       ·obtain ⟨q1,q2,q3⟩:=hin (q+i) row hrow
        refine ⟨q1,q2,fun c x hx=>?_⟩
        obtain ⟨u,q4,q5⟩:=q3 c x hx
        refine ⟨u,?_,q5⟩
        simp only [List.getElem?_toArray]
        rw [List.getElem?_drop,show q*z+(i*z+c)=(q+i)*z+c by rw [Nat.add_mul];omega]
        simpa using q4
       ·simp at hrow
      obtain ⟨h1,h2⟩:=rows_look hf hs hin2
      refine ⟨_,cap,by rw [h1,hlen],by omega,.inr ⟨b,q*z,z,rfl,PRows.of_at rs' (q*z) fun i row hrow=>?_⟩⟩
      obtain ⟨h3,h4,h5⟩:=h2 i row hrow
      refine ⟨h3,h4,PMem.of_at row _ fun c a ha=>?_⟩
      obtain ⟨u,hu,hp⟩:=h5 c a ha
      refine ⟨u,?_,fun x=>x,hp⟩
      simp only [World.cell?,hw]
      simp only [List.getElem?_toArray,List.getElem?_drop] at hu
      rw [show q*z+i*z+c=q*z+(i*z+c) by omega]
      simpa using hu
    ·simp at e
   ·simp at e
  ·simp at e
 | .int k n,a',v,e,r=>by
  simp only [snapG,Option.some.injEq] at e
  subst e
  exact r
 | .bool b,a',v,e,r=>by
  simp only [snapG,Option.some.injEq] at e
  subst e
  exact r
 | .str s,a',v,e,r=>by
  simp only [snapG,Option.some.injEq] at e
  subst e
  exact r
 | .nilp,a',v,e,r=>by
  simp only [snapG,Option.some.injEq] at e
  subst e
  exact r
 | .nilf,a',v,e,r=>by
  simp only [snapG,Option.some.injEq] at e
  subst e
  exact r
 | .nili,a',v,e,r=>by
  simp only [snapG,Option.some.injEq] at e
  subst e
  exact r
 | .nilm,a',v,e,r=>by
  simp only [snapG,Option.some.injEq] at e
  subst e
  exact r
 | .emp b,a',v,e,r=>by
  simp only [snapG,Option.some.injEq] at e
  subst e
  exact r
 | .rows rs,a',v,e,r=>by
  simp only [snapG,Option.some.injEq] at e
  subst e
  exact PRep.keep (keeps_no _ _) (.rows rs) v r
 | .rptr row o,a',v,e,r=>by
  simp only [snapG,Option.some.injEq] at e
  subst e
  exact PRep.keep (keeps_no _ _) (.rptr row o) v r
 | .any,a',v,e,r=>by
  simp only [snapG,Option.some.injEq] at e
  subst e
  exact trivial
theorem snapGL_sound (hr:Rel μ h w) {f:List AV→Option (List AV)} (hf:Looks μ h w f):Looks μ h w (snapGL f h)
 | [],cs',vs,e,r=>by
  simp only [snapGL,Option.some.injEq] at e
  subst e
  exact r
 | a::l,cs',vs,e,r=>by
  simp only [snapGL] at e
  split at e
  ·rename_i a2 h1
   split at e
   ·rename_i l2 h2
    simp only [Option.some.injEq] at e
    subst e
    obtain ⟨v,vr,hv,r1,r2⟩:=r
    exact ⟨v,vr,hv,snapG_sound hr hf a a2 v h1 r1,snapGL_sound hr hf l l2 vr h2 r2⟩
   ·simp at e
  ·simp at e
end
theorem snapN_sound (hr:Rel μ h w):∀ n,Looks μ h w (snapN n h)
 | 0=>fun _ _ _ e _=>by simp [snapN] at e
 | n+1=>snapGL_sound hr (snapN_sound hr n)
end
section
variable {Bs:World→Prop}
variable {P:Program} {μ:Mp Bs} {h:Heap} {w:World} {a:Act} {o:Oper} {x:AV}
variable {P:Program} {μ:Mp Bs} {h:Heap} {w:World}
variable {nb:Heap} {w':World} {m:Nat→Option Nat} {o1 o2:Nat→Nat→Prop} {s1 s2:Nat→Prop}
theorem flatA_rep:∀ (a:AV) (v:Value),flatA a=true→Rep (⟨m,o1,s1⟩:Mp Bs) nb w' a v→Rep (⟨m,o2,s2⟩:Mp Bs) nb w' a v
 | .int _ _,_,_,r=>r
 | .bool _,_,_,r=>r
 | .str _,_,_,r=>r
 | .nilp,_,_,r=>r
 | .nilf,_,_,r=>r
 | .nili,_,_,r=>r
 | .nilm,_,_,r=>r
 | .nils,_,_,r=>r
 | .emp _,_,_,r=>r
 | .rows [],_,_,r=>by
  obtain ⟨base,cap,h1,h2,_⟩:=r
  exact ⟨base,cap,h1,h2,.inl rfl⟩
 | .own _ _,_,_,r=>r
 | .ptr _ _,_,_,r=>r
 | .mp _,_,_,r=>r
 | .rows (_::_),_,e,_=>by simp [flatA] at e
 | .lit _,_,e,_=>by simp [flatA] at e
 | .rptr _ _,_,e,_=>by simp [flatA] at e
 | .agg _,_,e,_=>by simp [flatA] at e
 | .tup _,_,e,_=>by simp [flatA] at e
 | .fn _ _,_,e,_=>by simp [flatA] at e
 | .bnd _ _,_,e,_=>by simp [flatA] at e
 | .iface _ _,_,e,_=>by simp [flatA] at e
 | .optr _ _ _ _,_,e,_=>by simp [flatA] at e
 | .tptr _ _ _,_,e,_=>by simp [flatA] at e
 | .town _ _ _,_,e,_=>by simp [flatA] at e
 | .vw _ _ _ _,_,e,_=>by simp [flatA] at e
 | .any,_,e,_=>by simp [flatA] at e
theorem flatL_rep:∀ (l:List AV) (vs:List Value),flatL l=true→RepL (⟨m,o1,s1⟩:Mp Bs) nb w' l vs→RepL (⟨m,o2,s2⟩:Mp Bs) nb w' l vs
 | [],_,_,r=>r
 | a::l,_,e,r=>by
  simp only [flatL,Bool.and_eq_true] at e
  obtain ⟨v,vr,hv,r1,r2⟩:=r
  exact ⟨v,vr,hv,flatA_rep a v e.1 r1,flatL_rep l vr e.2 r2⟩
theorem flatL_mem:∀ {l:List AV} {a:AV},flatL l=true→a∈l→flatA a=true
 | b::l,a,e,ha=>by
  simp only [flatL,Bool.and_eq_true] at e
  rcases List.mem_cons.1 ha with rfl | ha
  ·exact e.1
  ·exact flatL_mem e.2 ha
theorem flatR_mem:∀ {l:List (List AV)} {a:List AV},flatR l=true→a∈l→flatL a=true
 | b::l,a,e,ha=>by
  simp only [flatR,Bool.and_eq_true] at e
  rcases List.mem_cons.1 ha with rfl | ha
  ·exact e.1
  ·exact flatR_mem e.2 ha
theorem flatH_mem:∀ {l:Heap} {a:Blk},flatH l=true→a∈l→flatB a=true
 | b::l,a,e,ha=>by
  simp only [flatH,Bool.and_eq_true] at e
  rcases List.mem_cons.1 ha with rfl | ha
  ·exact e.1
  ·exact flatH_mem e.2 ha
mutual
theorem maskA_rep:∀ (a:AV) (v:Value),Rep (⟨m,o1,s1⟩:Mp Bs) nb w' a v→Rep (⟨m,o2,s2⟩:Mp Bs) nb w' (maskA a) v
 | .int _ _,_,r=>r
 | .bool _,_,r=>r
 | .str _,_,r=>r
 | .nilp,_,r=>r
 | .nilf,_,r=>r
 | .nili,_,r=>r
 | .nilm,_,r=>r
 | .nils,_,r=>r
 | .emp _,_,r=>r
 | .rows [],_,r=>by
  obtain ⟨base,cap,h1,h2,_⟩:=r
  exact ⟨base,cap,h1,h2,.inl rfl⟩
 | .own _ _,_,r=>r
 | .ptr _ _,_,r=>r
 | .mp _,_,r=>r
 | .rows (_::_),_,_=>trivial
 | .lit _,_,_=>trivial
 | .rptr _ _,_,_=>trivial
 | .agg cs,_,r=>by
  obtain ⟨vs,hv,r⟩:=r
  exact ⟨vs,hv,maskL_rep cs vs r⟩
 | .tup cs,_,r=>by
  obtain ⟨vs,hv,r⟩:=r
  exact ⟨vs,hv,maskL_rep cs vs r⟩
 | .fn _ _,_,_=>trivial
 | .bnd _ _,_,_=>trivial
 | .iface _ _,_,_=>trivial
 | .optr _ _ _ _,_,_=>trivial
 | .tptr _ _ _,_,_=>trivial
 | .town _ _ _,_,_=>trivial
 | .vw _ _ _ _,_,_=>trivial
 | .any,_,_=>trivial
theorem maskL_rep:∀ (l:List AV) (vs:List Value),RepL (⟨m,o1,s1⟩:Mp Bs) nb w' l vs→RepL (⟨m,o2,s2⟩:Mp Bs) nb w' (maskL l) vs
 | [],_,r=>r
 | a::l,_,r=>by
  obtain ⟨v,vr,hv,r1,r2⟩:=r
  exact ⟨v,vr,hv,maskA_rep a v r1,maskL_rep l vr r2⟩
end
theorem flatB_rel {l:Nat}:∀ (b:Blk),flatB b=true→BlkRel (⟨m,o1,s1⟩:Mp Bs) nb w' l b→BlkRel (⟨m,o2,s2⟩:Mp Bs) nb w' l b
 | .cells cs,e,r=>by
  obtain ⟨b,vs,T,h1,h2,h3,h4⟩:=r
  exact ⟨b,vs,T,h1,h2,h3,flatL_rep cs vs e h4⟩
 | .rows z rs wr,e,r=>by
  rcases r with r | ⟨b,vs,T,h1,h2,h3,h4⟩
  ·exact .inl r
  ·refine .inr ⟨b,vs,T,h1,h2,h3,fun i row hrow=>?_⟩
   obtain ⟨h5,h6,h7⟩:=h4 i row hrow
   refine ⟨h5,h6,fun c a ha=>?_⟩
   obtain ⟨v,h8,h9⟩:=h7 c a ha
   exact ⟨v,h8,flatA_rep a v (flatL_mem (flatR_mem e (List.mem_of_getElem? hrow)) (List.mem_of_getElem? ha)) h9⟩
 | .hole,_,r=>r
 | .map [],_,r=>by
  obtain ⟨b,ms,clock,h1,h2,h3,ms',h4,h5⟩:=r
  exact ⟨b,ms,clock,h1,h2,h3,ms',h4,h5⟩
 | .map (_::_),e,_=>by simp [flatB] at e
theorem called_borrow {f:FuncId} {args pure:List AV} {r:AV} {n:Nat} {h:Heap} {x:AV} {h':Heap} (hc:Called Bs P f pure [] r nb) (hs:snapN n h args=some pure) (e:borrowed h (some (r,nb))=some (x,h')):Called Bs P f args h x h':=by
 intro μ w vs hr ha
 unfold borrowed at e
 simp only at e
 split at e
 rotate_left
 ·simp at e
 rename_i hf
 simp only [afterMany,Option.some.injEq,Prod.mk.injEq] at e
 obtain ⟨rfl,rfl⟩:=e
 have hp:RepL (⟨fun _=>none,NoM,μ.still⟩:Mp Bs) [] w pure vs:=RepL.pure _ _ (PRepL.keep (fun b o v hc _=>⟨hc,fun hx=>by
  rcases hx with hx | ⟨l,k,hl,_⟩
  ·exact hx
  ·simp at hl⟩) _ _ (snapN_sound hr n args pure vs hs ha))
 have hB:Rel (⟨fun _=>none,NoM,μ.still⟩:Mp Bs) [] w:=⟨fun _ _ _ hl=>by simp at hl,fun _ _ hl=>by simp at hl,fun _ _ _ hl=>by simp at hl,fun _ _ hx=>hx.elim,fun b hb=>⟨(hr.still b hb).1,fun l hl=>by simp at hl⟩,hr.base⟩
 refine (hc _ w vs hB hp).mono ?_
 rintro e w' ⟨v,⟨m2,o2,s2⟩,rfl,q1,q2,q3⟩
 have new:∀ l b,l < nb.length→m2 l=some b→w.heap.size≤b:=fun l b hl hm=>by
  rcases Nat.lt_or_ge b w.heap.size with hb | hb
  ·exact absurd hm ((q2.outside b hb fun l hl=>by simp at hl).2 l hl)
  ·exact hb
 have es:s2=μ.still:=q2.still
 have old:∀ b o,(partMp μ h []).out b o→b < w.heap.size:=(part_nil.rel hr).old
 have r3:Rel (⟨m2,(partMp μ h []).out,μ.still⟩:Mp Bs) nb w':=by
  refine ⟨q1.inj,fun l k hl=>flatB_rel k (flatH_mem hf (List.mem_of_getElem? hl)) (q1.blk l k hl),fun l b o hl hm ho=>?_,fun b o ho=>Nat.lt_of_lt_of_le (old b o ho) q2.size,?_,?_⟩
  ·have h1:=new l b hl hm
   have h2:=old b o ho
   omega
  ·have:=q1.still
   rw [es] at this
   exact this
  ·have:=q1.base
   rw [es] at this
   exact this
 have e3:Ext (partMp μ h []) [] w (⟨m2,(partMp μ h []).out,μ.still⟩:Mp Bs) nb w':=by
  refine ⟨rfl,rfl,q2.os,q2.tape,q2.output,q2.size,Nat.zero_le _,fun b o v hc hm=>?_,q2.outside,fun _ _ hl=>by simp at hl,fun _ _ _ _ hl=>by simp at hl,fun _ _ hl=>by simp at hl,q2.sizes⟩
  obtain ⟨h1,h2⟩:=q2.keep b o v hc (fun hx=>by
   rcases hx with hx | ⟨l,k,hl,_⟩
   ·exact hx
   ·simp at hl)
  refine ⟨h1,fun hx=>?_⟩
  rcases hx with hx | hx
  ·exact hm (.inl hx)
  ·exact h2 (.inr hx)
 have p3:Rep (⟨m2,(partMp μ h []).out,μ.still⟩:Mp Bs) nb w' (maskA r) v:=maskA_rep r v q3
 have hj:=joins_many (h2:=nb) (part_nil (h:=h)) (Nat.zero_le _)
 exact ⟨v,_,rfl,hj.rel part_nil hr r3 e3,hj.ext part_nil e3,hj.rep (μ2:=⟨m2,(partMp μ h []).out,μ.still⟩) part_nil rfl p3⟩
end
section
variable {Bs:World→Prop}
variable {P:Program} {μ:Mp Bs} {h:Heap} {w:World} {a:Act} {o:Oper} {x:AV}
theorem callBy_sound {F:Tk→Res} (hF:Knows Bs P F) {nl:Bool} {bw:Nat} {g:FuncId} {all:List AV} {vall:List Value} {h':Heap} (hr:Rel μ h w) (hall:RepL μ h w all vall)
  (hent:Go.Proofs.Enters P g→(execOp a.eval o).run P w=.ok (.enter g vall.toArray) w) (e:callBy bw F g h all (purA nl h all)=some (x,h')):Goes P o a μ h w x h':=by
 unfold callBy at e
 split at e
 ·rename_i pure hp
  unfold afterPure at e
  split at e
  ·rename_i r hFr
   simp only [Option.some.injEq,Prod.mk.injEq] at e
   obtain ⟨rfl,rfl⟩:=e
   obtain ⟨hen,hcl⟩:=hF _ _ _ _ _ hFr
   exact goes_enter (hent hen) hcl hr.empty (purifiedA hr hp hall) fun v μ2 w' h2 h3 h4 =>
    ⟨μ,hr.from_empty h3,h3.from_empty.1,Rep.from_empty h3 h4⟩
  ·rename_i n b hFr
   split at e
   rotate_left
   ·simp at e
   rename_i hb
   simp only [Option.some.injEq,Prod.mk.injEq] at e
   obtain ⟨rfl,rfl⟩:=e
   obtain ⟨hen,hcl⟩:=hF _ _ _ _ _ hFr
   refine goes_enter (hent hen) hcl (part_nil.rel hr) (RepL.pure _ _ (PRepL.keep (fun b o v hc hm=>⟨hc,fun hx=>hm (part_nil.mut.1 hx)⟩) _ _ (purA_sound hr hp hall)))
    fun v μ2 w' q2 q3 q4=>?_
   exact ⟨_,(joins_new b hb).rel part_nil hr q2 q3,(joins_new b hb).ext part_nil q3,(joins_new b hb).rep part_nil q3.out q4⟩
  ·rename_i r b0 hs0 _ hFr
   simp only [afterMany,Option.some.injEq,Prod.mk.injEq] at e
   obtain ⟨rfl,rfl⟩:=e
   obtain ⟨hen,hcl⟩:=hF _ _ _ _ _ hFr
   refine goes_enter (hent hen) hcl (part_nil.rel hr) (RepL.pure _ _ (PRepL.keep (fun b o v hc hm=>⟨hc,fun hx=>hm (part_nil.mut.1 hx)⟩) _ _ (purA_sound hr hp hall)))
    fun v μ2 w' q2 q3 q4=>?_
   have hj:=joins_many (h2:=b0::hs0) (part_nil (h:=h)) (Nat.zero_le _)
   exact ⟨_,hj.rel part_nil hr q2 q3,hj.ext part_nil q3,hj.rep part_nil q3.out q4⟩
  ·simp at e
 ·have key:lookBy F g h (snapN 8 h all)=some (x,h')→Goes P o a μ h w x h':=fun e=>by
   unfold lookBy at e
   split at e
   ·rename_i pure hs
    cases hFr:F (.call g pure []) with
    | none=>rw [hFr] at e;simp [borrowed] at e
    | some q =>
     obtain ⟨r,nb⟩:=q
     rw [hFr] at e
     obtain ⟨hen,hcl⟩:=hF _ _ _ _ _ hFr
     exact goes_enter (hent hen) (called_borrow hcl hs e) hr hall fun v μ2 w' q2 q3 q4=>⟨μ2,q2,q3,q4⟩
   ·simp at e
  split at e
  ·exact key e
  ·obtain ⟨hen,hcl⟩:=hF _ _ _ _ _ e
   exact goes_enter (hent hen) hcl hr hall fun v μ2 w' q2 q3 q4=>⟨μ2,q2,q3,q4⟩
  split at e
  ·rename_i args hca
   unfold callIn at e
   split at e
   ·rename_i hu
    split at e
    ·rename_i hs hsub
     split at e
     ·rename_i hcl
      unfold afterIn at e
      split at e
      ·rename_i r h2 hFr
       split at e
       ·rename_i hlen
        simp only [Option.some.injEq,Prod.mk.injEq] at e
        obtain ⟨rfl,rfl⟩:=e
        obtain ⟨h1,h4⟩:=sub_at h _ _ _ hsub
        have hp:IsPart h (reach h 100 (locsL args) []) hs:=⟨reach_nodup _ _ _ _ (by simp),h1,h4,under_mem hcl⟩
        refine part_call hF hr hent hp (hp.rep (fun i hi=>(posOf_lt _ _).1 (under_mem hu _ (List.mem_map_of_mem hi))) (convL_sound hr _ _ _ hca hall)) hFr (joins_back hp hlen)
       ·have many:(reach h 100 (locsL args) []).length≤h2.length→afterMany h (reach h 100 (locsL args) []) r h2=some (x,h')→Goes P o a μ h w x h':=fun hle e=>by
         simp only [afterMany,Option.some.injEq,Prod.mk.injEq] at e
         obtain ⟨rfl,rfl⟩:=e
         obtain ⟨h1,h4⟩:=sub_at h _ _ _ hsub
         have hp:IsPart h (reach h 100 (locsL args) []) hs:=⟨reach_nodup _ _ _ _ (by simp),h1,h4,under_mem hcl⟩
         exact part_call hF hr hent hp (hp.rep (fun i hi=>(posOf_lt _ _).1 (under_mem hu _ (List.mem_map_of_mem hi))) (convL_sound hr _ _ _ hca hall)) hFr (joins_many hp hle)
        split at e
        ·rename_i hlen
         split at e
         ·rename_i z rs wr hb
          split at e
          rotate_left
          ·exact many (by omega) e
          rename_i hlz
          simp only [Option.some.injEq,Prod.mk.injEq] at e
          obtain ⟨rfl,rfl⟩:=e
          obtain ⟨h1,h4⟩:=sub_at h _ _ _ hsub
          have hp:IsPart h (reach h 100 (locsL args) []) hs:=⟨reach_nodup _ _ _ _ (by simp),h1,h4,under_mem hcl⟩
          refine part_call hF hr hent hp (hp.rep (fun i hi=>(posOf_lt _ _).1 (under_mem hu _ (List.mem_map_of_mem hi))) (convL_sound hr _ _ _ hca hall)) hFr (joins_more hp hlen hb (by show Blk.rows z (renR _ rs) wr=_;rw [joins_new.loclessR _ rs hlz]))
         ·exact many (by omega) e
        ·split at e
         ·rename_i hle
          exact many hle e
         ·simp at e
      ·simp at e
     ·simp at e
    ·simp at e
   ·simp at e
  ·simp at e
theorem callIn_sound {F:Tk→Res} (hF:Knows Bs P F) {g:FuncId} {ls:List Nat} {args:List AV} {vall:List Value} {h':Heap} (hnd:ls.Nodup) (hr:Rel μ h w) (hall:RepL μ h w args vall)
  (hent:Go.Proofs.Enters P g→(execOp a.eval o).run P w=.ok (.enter g vall.toArray) w) (e:callIn F g h ls args=some (x,h')):Goes P o a μ h w x h':=by
 unfold callIn at e
 split at e
 ·rename_i hu
  split at e
  ·rename_i hs hsub
   split at e
   ·rename_i hcl
    obtain ⟨h1,h4⟩:=sub_at h _ _ _ hsub
    have hp:IsPart h ls hs:=⟨hnd,h1,h4,under_mem hcl⟩
    have hrep:=hp.rep (fun i hi=>(posOf_lt _ _).1 (under_mem hu _ (List.mem_map_of_mem hi))) hall
    unfold afterIn at e
    split at e
    ·rename_i r h2 hFr
     split at e
     ·rename_i hlen
      simp only [Option.some.injEq,Prod.mk.injEq] at e
      obtain ⟨rfl,rfl⟩:=e
      exact part_call hF hr hent hp hrep hFr (joins_back hp hlen)
     ·have many:ls.length≤h2.length→afterMany h ls r h2=some (x,h')→Goes P o a μ h w x h':=fun hle e=>by
       simp only [afterMany,Option.some.injEq,Prod.mk.injEq] at e
       obtain ⟨rfl,rfl⟩:=e
       exact part_call hF hr hent hp hrep hFr (joins_many hp hle)
      split at e
      ·rename_i hlen
       split at e
       ·rename_i z rs wr hb
        split at e
        rotate_left
        ·exact many (by omega) e
        rename_i hlz
        simp only [Option.some.injEq,Prod.mk.injEq] at e
        obtain ⟨rfl,rfl⟩:=e
        exact part_call hF hr hent hp hrep hFr (joins_more hp hlen hb (by show Blk.rows z (renR _ rs) wr=_;rw [joins_new.loclessR _ rs hlz]))
       ·exact many (by omega) e
      ·split at e
       ·rename_i hle
        exact many hle e
       ·simp at e
    ·simp at e
   ·simp at e
  ·simp at e
 ·simp at e
theorem stepW_sound {F:Tk→Res} (hF:Knows Bs P F) {n:Nat} {ev:Operand→AV} {h':Heap} (hr:Rel μ h w) (he:EvRep μ h w ev a.eval) (e:stepW F n ev h o.op=some (x,h')):Goes P o a μ h w x h':=by
 unfold stepW at e
 split at e
 ·rename_i c ho
  split at e
  ·rename_i f hc
   split at e
   ·rename_i g caps hg
    obtain ⟨vs,hf,hcaps⟩:=fn_form he hg
    exact callIn_sound hF List.nodup_range hr ((evs_rep he c.args.toList).append hcaps) (fun hen=>call_enter ho hc hf hen) e
   ·simp at e
  ·simp at e
 ·simp at e
theorem callV_sound {nl:FuncId→Bool×Nat} {F:Tk→Res} (hF:Knows Bs P F) {c:Call} {f:Operand} {ev:Operand→AV} {h':Heap} (hr:Rel μ h w) (he:EvRep μ h w ev a.eval) (ho:o.op=.call c) (hc:c.callee=.value f)
  (e:callV nl F h (evs ev c.args.toList) (ev f)=some (x,h')):Goes P o a μ h w x h':=by
 unfold callV at e
 split at e
 ·rename_i g caps hg
  obtain ⟨vs,hf,hcaps⟩:=fn_form he hg
  exact callBy_sound hF hr ((evs_rep he c.args.toList).append hcaps) (fun hen=>call_enter ho hc hf hen) e
 ·rename_i g fs hg
  obtain ⟨vs,hf,hfs⟩:=bnd_form he hg
  exact callBy_sound hF hr (hfs.append (evs_rep he c.args.toList)) (fun hen=>call_enterB ho hc hf hen) e
 ·simp at e
theorem stepO_sound {C:Cfg} {F:Tk→Res} (hF:Knows Bs C.P F) {ev:Operand→AV} {h':Heap} (hr:Rel μ h w) (he:EvRep μ h w ev a.eval) (e:stepO C F ev h o.op=some (x,h')):Goes C.P o a μ h w x h':=by
 have quiet:val h (stepD C F ev h o.op)=some (x,h')→Goes C.P o a μ h w x h':=fun e=>by
  cases hd:stepD C F ev h o.op with
  | none=>simp [hd,val] at e
  | some v =>
   simp only [hd,val,Option.some.injEq,Prod.mk.injEq] at e
   obtain ⟨rfl,rfl⟩:=e
   exact stepD_sound hF hr he hd
 cases ho:o.op with
 | alloc t =>
  simp only [stepO,ho] at e
  exact allocT_goes hr ho e
 | box t y =>
  simp only [stepO,ho] at e
  exact box_goes hr he ho e
 | store t y z =>
  simp only [stepO,ho] at e
  cases hs:aStore C.P t (ev y) (ev z) h with
  | none=>simp [hs,vunit] at e
  | some h1 =>
   simp only [hs,vunit,Option.some.injEq,Prod.mk.injEq] at e
   obtain ⟨rfl,rfl⟩:=e
   exact store_goes hr he ho hs
 | makeSlice t n m =>
  simp only [stepO,ho] at e
  exact makeSlice_goes hr he ho e
 | convert t u y =>
  simp only [stepO,ho] at e
  exact convert_goes hr he ho e
 | buildSlice t n parts =>
  simp only [stepO,ho] at e
  cases hd:unlessB (C.wrB t) (stepD C F ev h (.buildSlice t n parts)) with
  | some v =>
   simp only [hd,orBuild,Option.some.injEq,Prod.mk.injEq] at e
   obtain ⟨rfl,rfl⟩:=e
   have hd':stepD C F ev h (.buildSlice t n parts)=some v:=by
    unfold unlessB at hd
    split at hd
    ·simp at hd
    ·exact hd
   exact stepD_sound hF hr he (by rw [ho];exact hd')
  | none =>
   simp only [hd,orBuild] at e
   exact buildN_goes hr he ho e
 | makeMap t r =>
  cases r with
  | none =>
   simp only [stepO,ho,Option.some.injEq,Prod.mk.injEq] at e
   obtain ⟨rfl,rfl⟩:=e
   exact makeMap_goes hr ho
  | some _=>simp [stepO,ho,stepD,val] at e
 | mapUpdate t m k y =>
  simp only [stepO,ho] at e
  cases hs:mapSet C.P t h (ev m) (ev k) (ev y) with
  | none=>simp [hs,vunit] at e
  | some h1 =>
   simp only [hs,vunit,Option.some.injEq,Prod.mk.injEq] at e
   obtain ⟨rfl,rfl⟩:=e
   exact mapSet_goes hr he (.inl ho) hs
 | insert t m k y =>
  simp only [stepO,ho] at e
  cases hs:mapNew C.P t h (ev m) (ev k) (ev y) with
  | none=>simp [hs,vunit] at e
  | some h1 =>
   simp only [hs,vunit,Option.some.injEq,Prod.mk.injEq] at e
   obtain ⟨rfl,rfl⟩:=e
   exact mapSet_goes hr he (.inr ho) (mapNew_set hs).2
 | call c =>
  simp only [stepO,ho,callOp] at e
  split at e
  ·rename_i f hc
   exact callV_sound hF hr he ho hc e
  ·rename_i hc
   exact append_goes hr he ho hc e
  ·rename_i hc
   exact clear_goes hr he ho hc e
  ·rename_i hc
   exact cap_goes hr he ho hc e
  ·rename_i hc
   exact copy_goes hr he ho hc e
  ·rename_i b hne _ _ _ hc
   refine quiet ?_
   simp only [ho,stepD,callOpD,hc]
   exact e
  ·simp at e
 | _ =>
  refine quiet ?_
  simpa only [stepO,ho] using e
end
section
variable {Bs:World→Prop}
variable {P:Program} {μ μ':Mp Bs} {h h':Heap} {w w':World}
def OpsFit (n:Nat) (ops:Array Oper):Prop:=∀ (i:Nat) (o:Oper),ops[i]? = some o→∀ d,o.dst=some d→d < n
theorem act_put_size (a:Act) (d:Option Nat) (v:Value):(a.put d v).tmps.size=a.tmps.size:=by
 cases d<;>simp [Act.put]
theorem act_put_defers (a:Act) (d:Option Nat) (v:Value):(a.put d v).defers=a.defers:=by
 cases d<;>rfl
theorem FrRel.ext (e:Ext μ h w μ' h' w') {fr:Fr} {t:Array Value} (r:FrRel μ h w fr t):FrRel μ' h' w' fr t:=fun i=>Rep.ext e _ _ (r i)
theorem FrRel.put {fr:Fr} {a:Act} {d:Option Nat} {x:AV} {v:Value} (r:FrRel μ h w fr a.tmps) (hd:∀ i,d=some i→i < a.tmps.size) (hx:Rep μ h w x v):FrRel μ h w (Go.Ab.put fr d x) (a.put d v).tmps:=by
 cases d with
 | none=>exact r
 | some i =>
  intro j
  have hi:=hd i rfl
  by_cases hij:i=j
  ·subst hij
   simp only [Go.Ab.put,get,if_true,Act.put]
   simpa [Array.getD,hi] using hx
  ·simp only [Go.Ab.put,get,if_neg hij,Act.put]
   have:(a.tmps.setIfInBounds i v).getD j undef=a.tmps.getD j undef:=by
    simp only [Array.getD_eq_getD_getElem?]
    rw [Array.getElem?_setIfInBounds_ne hij]
   rw [this]
   exact r j
theorem undef_rep:Rep μ h w (.tup []) undef:=⟨[],rfl,rfl⟩
theorem yielded_bool {ops:Array Oper} {t:Array Value} {fr:Fr} {j:Nat} {b:Bool} (r:FrRel μ h w fr t) (e:getO fr (slotOf ops.toList j)=.bool b):yielded ops t j=some b:=by
 unfold yielded
 unfold slotOf at e
 simp only [Array.getElem?_toList] at e
 cases ho:ops[j]? with
 | none=>simp [ho,getO] at e
 | some o =>
  simp only [ho] at e
  cases hd:o.dst with
  | none=>simp [hd,getO] at e
  | some d =>
   simp only [hd,getO] at e
   have h1:=r d
   rw [e] at h1
   have h2:t.getD d undef=.bool b:=h1
   rw [Array.getD_eq_getD_getElem?] at h2
   cases hv:t[d]? with
   | none=>simp [hv,undef] at h2
   | some v =>
    simp only [hv,Option.getD_some] at h2
    subst h2
    simp [hd,hv]
theorem yielded_none {ops:Array Oper} {t:Array Value} {fr:Fr} {j:Nat} (r:FrRel μ h w fr t) (e:getO fr (slotOf ops.toList j)=.tup []):yielded ops t j=none:=by
 unfold yielded
 unfold slotOf at e
 simp only [Array.getElem?_toList] at e
 cases ho:ops[j]? with
 | none=>simp
 | some o =>
  simp only [ho] at e
  cases hd:o.dst with
  | none=>simp [hd]
  | some d =>
   simp only [hd,getO] at e
   have h1:=r d
   rw [e] at h1
   obtain ⟨vs,h2,h3⟩:=h1
   have h3':vs=[]:=h3
   subst h3'
   rw [Array.getD_eq_getD_getElem?] at h2
   cases hv:t[d]? with
   | none=>simp [hd,hv]
   | some v =>
    simp only [hv,Option.getD_some] at h2
    subst h2
    simp [hd,hv]
def Ends (μ:Mp Bs) (h:Heap) (w:World) (a:Act) (fr':Fr) (h':Heap) (Q:Exit→Act→World→Prop):Prop :=
 ∀ a' μ' w',Rel μ' h' w'→Ext μ h w μ' h' w'→FrRel μ' h' w' fr' a'.tmps→a'.tmps.size=a.tmps.size→a'.defers=a.defers→Q .normal a' w'
theorem range_cons {n m:Nat} (h:n < m):List.range' n (m - n)=n::List.range' (n+1) (m - (n+1)):=by
 have:m - n=(m - (n+1))+1:=by omega
 rw [this,List.range'_succ]
theorem aOps_sound {C:Cfg} {F:Tk→Res} (hF:Knows Bs C.P F) {ops:Array Oper} {Q:Exit→Act→World→Prop}:∀ (rest:List Oper) (n:Nat) (fr fr':Fr) (h h':Heap) (a:Act) (μ:Mp Bs) (w:World),
  ops.toList.drop n=rest→OpsFit a.tmps.size ops→Rel μ h w→FrRel μ h w fr a.tmps→aOps C F ops.toList rest fr h=some (fr',h')→Ends μ h w a fr' h' Q→wpOps C.P ops Q (List.range' n (ops.size - n)) a w
 | [],n,fr,fr',h,h',a,μ,w,hd,_,hr,hf,e,hQ=>by
  have hn:ops.size≤n:=by
   have:=congrArg List.length hd
   simp at this
   omega
  have:ops.size - n=0:=by omega
  rw [this]
  simp only [List.range'_zero,wpOps]
  simp only [aOps,Option.some.injEq,Prod.mk.injEq] at e
  obtain ⟨rfl,rfl⟩:=e
  exact hQ a μ w hr (Ext.refl _ _ _) hf rfl rfl
 | o::rest,n,fr,fr',h,h',a,μ,w,hd,hfit,hr,hf,e,hQ=>by
  have hlt:n < ops.size:=by
   have:=congrArg List.length hd
   simp at this
   omega
  have ho:ops[n]? = some o:=by
   have:=congrArg (fun l=>l[0]?) hd
   simp only [List.getElem?_drop,Nat.add_zero,List.getElem?_cons_zero,Array.getElem?_toList] at this
   exact this
  have hd':ops.toList.drop (n+1)=rest:=by
   have:=congrArg List.tail hd
   simpa [List.tail_drop] using this
  have fit:∀ i,o.dst=some i→i < a.tmps.size:=hfit n o ho
  rw [range_cons hlt]
  simp only [wpOps,ho]
  have run:∀ {v:AV} {h1:Heap},stepO C F (ev fr) h o.op=some (v,h1)→aOps C F ops.toList rest (Go.Ab.put fr o.dst v) h1=some (fr',h')→o.wp C.P a w (wpOps C.P ops Q (List.range' (n+1) (ops.size - (n+1)))) Q:=by
   intro v h1 hs hn
   refine stepO_sound hF hr (ev_rep hf) hs _ _ ?_
   intro u μ' w' h2 h3 h4
   refine aOps_sound hF rest (n+1) _ fr' h1 h' (a.put o.dst u) μ' w' hd' (by rw [act_put_size];exact hfit) h2 ((hf.ext h3).put fit h4) hn ?_
   intro a' μ2 w2 q1 q2 q3 q4 q5
   exact hQ a' μ2 w2 q1 (h3.trans q2) q3 (by rw [q4,act_put_size]) (by rw [q5,act_put_defers])
  have skip:aOps C F ops.toList rest (Go.Ab.put fr o.dst (.tup [])) h=some (fr',h')→wpOps C.P ops Q (List.range' (n+1) (ops.size - (n+1))) (a.put o.dst undef) w:=by
   intro hn
   refine aOps_sound hF rest (n+1) _ fr' h h' (a.put o.dst undef) μ w hd' (by rw [act_put_size];exact hfit) hr (hf.put fit undef_rep) hn ?_
   intro a' μ2 w2 q1 q2 q3 q4 q5
   exact hQ a' μ2 w2 q1 q2 q3 (by rw [q4,act_put_size]) (by rw [q5,act_put_defers])
  simp only [aOps] at e
  split at e
  ·rename_i hg
   have hw:Region.wanted o (yielded ops a.tmps)=true:=by simp [Region.wanted,hg]
   simp only [hw,if_true]
   split at e
   ·rename_i v h1 hs
    exact .inl (run hs e)
   ·simp at e
  ·rename_i j want hg
   split at e
   ·rename_i b hb
    have hy:=yielded_bool hf hb
    split at e
    ·rename_i hbw
     subst hbw
     have hw:Region.wanted o (yielded ops a.tmps)=true:=by simp [Region.wanted,hg,hy]
     simp only [hw,if_true]
     split at e
     ·rename_i v h1 hs
      exact .inl (run hs e)
     ·simp at e
    ·rename_i hbw
     have hw:Region.wanted o (yielded ops a.tmps)=false:=by simp [Region.wanted,hg,hy,hbw]
     simp only [hw,Bool.false_eq_true,if_false]
     exact skip e
   ·rename_i hb
    have hy:=yielded_none hf hb
    have hw:Region.wanted o (yielded ops a.tmps)=false:=by simp [Region.wanted,hg,hy]
    simp only [hw,Bool.false_eq_true,if_false]
    exact skip e
   ·simp at e
end
section
variable {Bs:World→Prop}
def readsO:Op→List Operand
 | .load _ x=>[x]
 | .slice _ x _ _ _=>[x]
 | .indexAddr _ x _=>[x]
 | .lookup _ x _ _=>[x]
 | .buildSlice _ _ ps=>ps.toList.map (·.2)
 | .insert _ _ _ v=>[v]
 | .store _ a _=>[a]
 | .binOp _ _ x y _=>bif nilC y then [x] else []
 | .call c=>match c.callee with
  | .value f=>f::c.args.toList
  | _=>[]
 | _=>[]
theorem allocT_some {b:Bool} {t:TypeId} {r:Option (AV×Heap)} {x:AV} {h':Heap} (e:allocT b t r=some (x,h')):∃ x0,r=some (x0,h'):=by
 cases b with
 | false=>exact ⟨x,e⟩
 | true =>
  simp only [allocT,cond_true] at e
  unfold tyP at e
  split at e
  ·simp only [Option.some.injEq,Prod.mk.injEq] at e
   obtain ⟨_,rfl⟩:=e
   exact ⟨_,rfl⟩
  ·simp at e
theorem alloc_push {h:Heap} {v:Option AV} {x:AV} {h':Heap} (e:Go.Ab.alloc h v=some (x,h')):∃ b,h'=h++[b]:=by
 unfold Go.Ab.alloc at e
 split at e
 ·split at e
  ·simp only [Option.some.injEq,Prod.mk.injEq] at e
   exact ⟨_,e.2.symm⟩
  ·simp at e
 ·simp at e
theorem appendX_some {el:Option TypeId} {wq:Bool} {h:Heap} {z b:Nat} {ys:List (List AV)} {xs x:AV} {h':Heap} (e:appendX el wq h z b ys xs=some (x,h')):∃ xs' x',appendTo wq h z b xs' ys=some (x',h')∧locs xs'=locs xs:=by
 unfold appendX at e
 split at e
 ·rename_i t l n
  split at e
  ·refine ⟨.own l n,?_⟩
   unfold tyO at e
   split at e
   ·rename_i l' n' h'' ha
    simp only [Option.some.injEq,Prod.mk.injEq] at e
    obtain ⟨_,rfl⟩:=e
    exact ⟨_,ha,rfl⟩
   ·simp at e
  ·simp at e
 ·exact ⟨xs,x,e,rfl⟩
end
section
variable {Bs:World→Prop}
variable {P:Program} {h h':Heap}
mutual
theorem purify_local:∀ a:AV,(∀ l,l∈locs a→h[l]? = h'[l]?)→purify h a=purify h' a
 | .own l n,e=>by simp only [purify];rw [e l (by simp [locs])]
 | .agg cs,e=>by simp only [purify];rw [purifyL_local cs e]
 | .tup cs,e=>by simp only [purify];rw [purifyL_local cs e]
 | .fn _ cs,e=>by simp only [purify];rw [purifyL_local cs e]
 | .bnd _ cs,e=>by simp only [purify];rw [purifyL_local cs e]
 | .iface _ a,e=>by simp only [purify];rw [purify_local a e]
 | .ptr _ _,_=>rfl
 | .optr _ _ _ _,_=>rfl
 | .mp _,_=>rfl
 | .tptr _ _ _,_=>rfl
 | .town _ _ _,_=>rfl
 | .vw _ _ _ _,_=>rfl
 | .nils,_=>rfl
 | .lit _,_=>rfl
 | .int _ _,_=>rfl
 | .bool _,_=>rfl
 | .str _,_=>rfl
 | .nilp,_=>rfl
 | .nilf,_=>rfl
 | .nili,_=>rfl
 | .emp _,_=>rfl
 | .nilm,_=>rfl
 | .rows _,_=>rfl
 | .rptr _ _,_=>rfl
 | .any,_=>rfl
theorem purifyL_local:∀ l:List AV,(∀ i,i∈locsL l→h[i]? = h'[i]?)→purifyL h l=purifyL h' l
 | [],_=>rfl
 | a::r,e=>by
  simp only [purifyL]
  rw [purify_local a (fun l hl=>e l (by simp [locsL,hl])),purifyL_local r (fun l hl=>e l (by simp [locsL,hl]))]
end
mutual
theorem purifyK_local:∀ a:AV,(∀ l,l∈locs a→h[l]? = h'[l]?)→purifyK h a=purifyK h' a
 | .own l n,e=>by simp only [purifyK];rw [e l (by simp [locs])]
 | .agg cs,e=>by simp only [purifyK];rw [purifyKL_local cs e]
 | .tup cs,e=>by simp only [purifyK];rw [purifyKL_local cs e]
 | .fn _ cs,e=>by simp only [purifyK];rw [purifyKL_local cs e]
 | .bnd _ cs,e=>by simp only [purifyK];rw [purifyKL_local cs e]
 | .iface _ a,e=>by simp only [purifyK];rw [purifyK_local a e]
 | .ptr _ _,_=>rfl
 | .optr _ _ _ _,_=>rfl
 | .mp _,_=>rfl
 | .tptr _ _ _,_=>rfl
 | .town _ _ _,_=>rfl
 | .vw _ _ _ _,_=>rfl
 | .nils,_=>rfl
 | .lit _,_=>rfl
 | .int _ _,_=>rfl
 | .bool _,_=>rfl
 | .str _,_=>rfl
 | .nilp,_=>rfl
 | .nilf,_=>rfl
 | .nili,_=>rfl
 | .emp _,_=>rfl
 | .nilm,_=>rfl
 | .rows _,_=>rfl
 | .rptr _ _,_=>rfl
 | .any,_=>rfl
theorem purifyKL_local:∀ l:List AV,(∀ i,i∈locsL l→h[i]? = h'[i]?)→purifyKL h l=purifyKL h' l
 | [],_=>rfl
 | a::r,e=>by
  simp only [purifyKL]
  rw [purifyK_local a (fun l hl=>e l (by simp [locsL,hl])),purifyKL_local r (fun l hl=>e l (by simp [locsL,hl]))]
end
theorem pur_local {kn:Bool} {a:AV} (e:∀ l,l∈locs a→h[l]? = h'[l]?):pur kn h a=pur kn h' a:=by
 cases kn with
 | true=>exact purifyK_local a e
 | false=>exact purify_local a e
theorem purA_local {nl:Bool} {a:List AV} (e:∀ l,l∈locsL a→h[l]? = h'[l]?):purA nl h a=purA nl h' a:=by
 cases nl with
 | true=>exact purifyKL_local a e
 | false=>exact purifyL_local a e
theorem aLoad_local {t:TypeId} {a:AV} (e:∀ l,l∈locs a→h[l]? = h'[l]?):aLoad P t a h=aLoad P t a h':=by
 cases a<;>simp only [aLoad]
 ·rw [e _ (by simp [locs])]
 ·rw [e _ (by simp [locs])]
theorem sliceV_local {lo hi:Option AV} {x:AV} {k:TK} (e:∀ l,l∈locs x→h[l]? = h'[l]?):sliceV h lo hi x k=sliceV h' lo hi x k:=by
 cases k<;>simp only [sliceV]
 cases x<;>simp only [sliceR]
 ·rw [e _ (by simp [locs])]
 ·rw [e _ (by simp [locs])]
theorem slice3_local {lo hi mx x:AV} {k:TK} (e:∀ l,l∈locs x→h[l]? = h'[l]?):slice3 h lo hi mx k x=slice3 h' lo hi mx k x:=by
 cases x<;>simp only [slice3]
 rw [e _ (by simp [locs])]
theorem indexP_local {t:TypeId} {i x:AV} (e:∀ l,l∈locs x→h[l]? = h'[l]?):indexP P t h i x=indexP P t h' i x:=by
 cases i<;>simp only [indexP]
 cases x<;>simp only
 ·rw [e _ (by simp [locs])]
 ·rw [e _ (by simp [locs])]
theorem entriesOf_local {x:AV} (e:∀ l,l∈locs x→h[l]? = h'[l]?):entriesOf h x=entriesOf h' x:=by
 cases x<;>simp only [entriesOf]
 rw [e _ (by simp [locs])]
theorem nilEq_local {op:BinOp} {t:TypeId} {x y:AV} (e:∀ l,l∈locs x→h[l]? = h'[l]?):nilEq P op t h x y=nilEq P op t h' x y:=by
 cases y<;>simp only [nilEq]
 cases x<;>simp only [nilOf]
 rw [e _ (by simp [locs])]
theorem pieces_local {kn:Bool} {ev:Operand→AV} {z:Nat}:∀ (ps:List (Nat×Operand)) (i:Nat),(∀ p,p∈ps→∀ l,l∈locs (ev p.2)→h[l]? = h'[l]?)→pieces kn h ev z i ps=pieces kn h' ev z i ps
 | [],_,_=>rfl
 | (j,x)::r,i,e=>by
  simp only [pieces]
  rw [pur_local (e (j,x) (by simp)),pieces_local r (i+1) (fun p hp=>e p (by simp [hp]))]
theorem locsL_evs (ev:Operand→AV):∀ (xs:List Operand) (l:Nat),l∈locsL (evs ev xs)→∃ x,x∈xs∧l∈locs (ev x)
 | [],l,hl=>by simp [evs,locsL] at hl
 | x::xs,l,hl=>by
  simp only [evs,locsL,List.mem_append] at hl
  rcases hl with hl | hl
  ·exact ⟨x,by simp,hl⟩
  ·obtain ⟨y,h1,h2⟩:=locsL_evs ev xs l hl
   exact ⟨y,by simp [h1],h2⟩
theorem locsL_append (a b:List AV) (l:Nat):l∈locsL (a++b)↔l∈locsL a∨l∈locsL b:=by
 induction a with
 | nil=>simp [locsL]
 | cons x r ih=>simp [locsL,ih,or_assoc]
theorem stepD_local {C:Cfg} {F:Tk→Res} {ev:Operand→AV} (o:Op) (e:∀ x,x∈readsO o→∀ l,l∈locs (ev x)→h[l]? = h'[l]?):stepD C F ev h o=stepD C F ev h' o:=by
 cases o with
 | load t a=>simp only [stepD];exact aLoad_local (e a (by simp [readsO]))
 | slice t x lo hi mx =>
  cases mx with
  | none=>simp only [stepD];exact sliceV_local (e x (by simp [readsO]))
  | some _ =>
   cases lo<;>cases hi<;>simp only [stepD]
   exact slice3_local (e x (by simp [readsO]))
 | indexAddr t x i=>simp only [stepD];exact indexP_local (e x (by simp [readsO]))
 | binOp op t x y u =>
  simp only [stepD,heapC]
  cases hn:nilC y with
  | false=>rfl
  | true =>
   simp only [cond_true]
   rw [nilEq_local (e x (by simp [readsO,hn]))]
 | lookup t x i ok=>simp only [stepD,lookupV];rw [entriesOf_local (h:=h) (h':=h') (e x (by simp [readsO]))]
 | buildSlice t n ps =>
  simp only [stepD]
  split
  ·rw [pieces_local ps.toList 0 fun p hp=>e p.2 (by simp only [readsO,List.mem_map];exact ⟨p,hp,rfl⟩)]
  ·rfl
 | call c =>
  simp only [stepD,callOpD]
  split
  ·rename_i f hc
   unfold callD
   split
   ·rename_i g caps hg
    rw [purA_local (h:=h) (h':=h')]
    intro l hl
    rw [locsL_append] at hl
    rcases hl with hl | hl
    ·obtain ⟨x,h1,h2⟩:=locsL_evs ev _ _ hl
     exact e x (by simp only [readsO,hc];exact List.mem_cons_of_mem _ h1) l h2
    ·exact e f (by simp [readsO,hc]) l (by rw [hg];exact hl)
   ·rfl
  ·rfl
  ·rfl
 | makeFunc f first captured=>cases f<;>rfl
 | _=>rfl
mutual
theorem purifyK_some:∀ (a a':AV),purify h a=some a'→∃ b,purifyK h a=some b
 | .own l n,a',e=>⟨a',by simpa only [purify,purifyK] using e⟩
 | .agg cs,a',e=>by
  simp only [purify] at e
  split at e
  ·rename_i cs' hcs
   obtain ⟨b,hb⟩:=purifyKL_some cs cs' hcs
   exact ⟨.agg b,by simp [purifyK,hb]⟩
  ·simp at e
 | .tup cs,a',e=>by
  simp only [purify] at e
  split at e
  ·rename_i cs' hcs
   obtain ⟨b,hb⟩:=purifyKL_some cs cs' hcs
   exact ⟨.tup b,by simp [purifyK,hb]⟩
  ·simp at e
 | .fn f cs,a',e=>by
  simp only [purify] at e
  split at e
  ·rename_i cs' hcs
   obtain ⟨b,hb⟩:=purifyKL_some cs cs' hcs
   exact ⟨.fn f b,by simp [purifyK,hb]⟩
  ·simp at e
 | .bnd f cs,a',e=>by
  simp only [purify] at e
  split at e
  ·rename_i cs' hcs
   obtain ⟨b,hb⟩:=purifyKL_some cs cs' hcs
   exact ⟨.bnd f b,by simp [purifyK,hb]⟩
  ·simp at e
 | .iface t a,a',e=>by
  simp only [purify] at e
  split at e
  ·rename_i a2 ha
   obtain ⟨b,hb⟩:=purifyK_some a a2 ha
   exact ⟨.iface t b,by simp [purifyK,hb]⟩
  ·simp at e
 | .ptr _ _,_,e=>by simp [purify] at e
 | .optr _ _ _ _,_,e=>by simp [purify] at e
 | .mp _,_,e=>by simp [purify] at e
 | .tptr _ _ _,_,e=>by simp [purify] at e
 | .town _ _ _,_,e=>by simp [purify] at e
 | .vw _ _ _ _,_,e=>by simp [purify] at e
 | .nils,_,_=>⟨_,rfl⟩
 | .lit _,_,_=>⟨_,rfl⟩
 | .int _ _,_,_=>⟨_,rfl⟩
 | .bool _,_,_=>⟨_,rfl⟩
 | .str _,_,_=>⟨_,rfl⟩
 | .nilp,_,_=>⟨_,rfl⟩
 | .nilf,_,_=>⟨_,rfl⟩
 | .nili,_,_=>⟨_,rfl⟩
 | .emp _,_,_=>⟨_,rfl⟩
 | .nilm,_,_=>⟨_,rfl⟩
 | .rows _,_,_=>⟨_,rfl⟩
 | .rptr _ _,_,_=>⟨_,rfl⟩
 | .any,_,_=>⟨_,rfl⟩
theorem purifyKL_some:∀ (l l':List AV),purifyL h l=some l'→∃ b,purifyKL h l=some b
 | [],_,_=>⟨_,rfl⟩
 | a::r,l',e=>by
  simp only [purifyL] at e
  split at e
  ·rename_i a2 ha
   split at e
   ·rename_i r2 hr
    obtain ⟨b,hb⟩:=purifyK_some a a2 ha
    obtain ⟨c,hc⟩:=purifyKL_some r r2 hr
    exact ⟨b::c,by simp [purifyKL,hb,hc]⟩
   ·simp at e
  ·simp at e
end
theorem purA_none {nl:Bool} {l:List AV} (e:purA nl h l=none):purifyL h l=none:=by
 cases nl with
 | false=>exact e
 | true =>
  cases hp:purifyL h l with
  | none=>rfl
  | some l' =>
   obtain ⟨b,hb⟩:=purifyKL_some l l' hp
   rw [show purA true h l=purifyKL h l from rfl,hb] at e
   simp at e
theorem callBy_away {F:Tk→Res} {nl:Bool} {bw:Nat} (hbw:bw≠2) {g:FuncId} {all:List AV} {x:AV} {T:List Nat} (hT:∀ args,purifyL h all=none→convL h all=some args→T=reach h 100 (locsL args) []) (e:callBy bw F g h all (purA nl h all)=some (x,h')):h.length≤h'.length∧∀ l,l < h.length→l∉T→h'[l]? = h[l]? := by
 unfold callBy at e
 split at e
 ·rename_i pure hp
  unfold afterPure at e
  split at e
  ·simp only [Option.some.injEq,Prod.mk.injEq] at e
   obtain ⟨_,rfl⟩:=e
   exact ⟨Nat.le_refl _,fun _ _ _=>rfl⟩
  ·split at e
   ·simp only [Option.some.injEq,Prod.mk.injEq] at e
    obtain ⟨_,rfl⟩:=e
    exact ⟨by simp,fun l hl _=>List.getElem?_append_left hl⟩
   ·simp at e
  ·simp only [afterMany,Option.some.injEq,Prod.mk.injEq] at e
   obtain ⟨_,rfl⟩:=e
   exact ⟨by simp [back],fun l hl _=>by simp only [back];exact List.getElem?_append_left hl⟩
  ·simp at e
 ·rename_i hp
  have key:lookBy F g h (snapN 8 h all)=some (x,h')→h.length≤h'.length∧∀ l,l < h.length→l∉T→h'[l]? = h[l]? := fun e=>by
   unfold lookBy at e
   split at e
   ·unfold borrowed at e
    split at e
    ·split at e
     ·simp only [afterMany,Option.some.injEq,Prod.mk.injEq] at e
      obtain ⟨_,rfl⟩:=e
      exact ⟨by simp [back],fun l hl _=>by simp only [back];exact List.getElem?_append_left hl⟩
     ·simp at e
    ·simp at e
   ·simp at e
  split at e
  ·exact key e
  ·rename_i hb2
   exact absurd hb2 (bwOf_ne hbw)
  split at e
  ·rename_i args hca
   have hTe:=hT args (purA_none hp) hca
   unfold callIn at e
   split at e
   ·split at e
    ·split at e
     ·unfold afterIn at e
      split at e
      ·split at e
       ·simp only [Option.some.injEq,Prod.mk.injEq] at e
        obtain ⟨_,rfl⟩:=e
        refine ⟨by rw [back_length];exact Nat.le_refl _,fun l _ hn=>back_old _ _ _ _ _ ?_⟩
        rw [←hTe];exact hn
       ·rename_i r0 h2 _ _
        have many:afterMany h (reach h 100 (locsL args) []) r0 h2=some (x,h')→h.length≤h'.length∧∀ l,l < h.length→l∉T→h'[l]? = h[l]? := fun e=>by
         simp only [afterMany,Option.some.injEq,Prod.mk.injEq] at e
         obtain ⟨_,rfl⟩:=e
         refine ⟨by simp [back_length],fun l hl hn=>?_⟩
         rw [List.getElem?_append_left (by rw [back_length];exact hl)]
         refine back_old _ _ _ _ _ ?_
         rw [←hTe];exact hn
        split at e
        ·split at e
         ·split at e
          rotate_left
          ·exact many e
          simp only [Option.some.injEq,Prod.mk.injEq] at e
          obtain ⟨_,rfl⟩:=e
          refine ⟨by simp [back_length],fun l hl hn=>?_⟩
          rw [List.getElem?_append_left (by rw [back_length];exact hl)]
          refine back_old _ _ _ _ _ ?_
          rw [←hTe];exact hn
         ·exact many e
        ·split at e
         ·exact many e
         ·simp at e
      ·simp at e
     ·simp at e
    ·simp at e
   ·simp at e
  ·simp at e
theorem callIn_away {F:Tk→Res} {g:FuncId} {ls:List Nat} {args:List AV} {x:AV} (e:callIn F g h ls args=some (x,h')):h.length≤h'.length∧∀ l,l < h.length→l∉ls→h'[l]? = h[l]? := by
 have stay:∀ h2:Heap,h'=back (outer ls h.length) ls h2 h→h.length≤h'.length∧∀ l,l < h.length→l∉ls→h'[l]? = h[l]? := fun h2 hh=>by
  subst hh
  exact ⟨by rw [back_length];exact Nat.le_refl _,fun l _ hn=>back_old _ _ _ _ _ hn⟩
 have more:∀ h2 h3:Heap,h'=back (outer ls h.length) ls h2 h++h3→h.length≤h'.length∧∀ l,l < h.length→l∉ls→h'[l]? = h[l]? := fun h2 h3 hh=>by
  subst hh
  refine ⟨by simp [back_length],fun l hl hn=>?_⟩
  rw [List.getElem?_append_left (by rw [back_length];exact hl)]
  exact back_old _ _ _ _ _ hn
 unfold callIn at e
 split at e
 ·split at e
  ·split at e
   ·unfold afterIn at e
    split at e
    ·split at e
     ·simp only [Option.some.injEq,Prod.mk.injEq] at e
      exact stay _ e.2.symm
     ·have many:∀ r0 h2,afterMany h ls r0 h2=some (x,h')→h.length≤h'.length∧∀ l,l < h.length→l∉ls→h'[l]? = h[l]? := fun r0 h2 e=>by
       simp only [afterMany,Option.some.injEq,Prod.mk.injEq] at e
       exact more _ _ e.2.symm
      split at e
      ·split at e
       ·split at e
        ·simp only [Option.some.injEq,Prod.mk.injEq] at e
         exact more _ _ e.2.symm
        ·exact many _ _ e
       ·exact many _ _ e
      ·split at e
       ·exact many _ _ e
       ·simp at e
    ·simp at e
   ·simp at e
  ·simp at e
 ·simp at e
theorem stepW_away {F:Tk→Res} {n:Nat} {ev:Operand→AV} {x:AV} (o:Op) (e:stepW F n ev h o=some (x,h')):h.length≤h'.length∧∀ l,l < h.length→l∉List.range n→h'[l]? = h[l]? := by
 unfold stepW at e
 split at e
 ·split at e
  ·split at e
   ·exact callIn_away e
   ·simp at e
  ·simp at e
 ·simp at e
theorem stepO_away {C:Cfg} (hsh:∀ g,(C.nlA g).2≠2) {F:Tk→Res} {ev:Operand→AV} {x:AV} (o:Op) (e:stepO C F ev h o=some (x,h')):h.length≤h'.length∧∀ l,l < h.length→l∉touches ev h o→h'[l]? = h[l]? := by
 have quiet:∀ {v:Option AV},val h v=some (x,h')→h.length≤h'.length∧∀ l,l < h.length→l∉touches ev h o→h'[l]? = h[l]? := fun {v} ev'=>by
  cases v with
  | none=>simp [val] at ev'
  | some v =>
   simp only [val,Option.some.injEq,Prod.mk.injEq] at ev'
   obtain ⟨_,rfl⟩:=ev'
   exact ⟨Nat.le_refl _,fun _ _ _=>rfl⟩
 have push:∀ b:Blk,h'=h++[b]→h.length≤h'.length∧∀ l,l < h.length→l∉touches ev h o→h'[l]? = h[l]? := fun b hb=>by
  subst hb
  exact ⟨by simp,fun l hl _=>List.getElem?_append_left hl⟩
 have alo:∀ {v:Option AV},Go.Ab.alloc h v=some (x,h')→∃ b,h'=h++[b]:=fun {v} ea=>by
  unfold Go.Ab.alloc at ea
  split at ea
  ·split at ea
   ·simp only [Option.some.injEq,Prod.mk.injEq] at ea
    exact ⟨_,ea.2.symm⟩
   ·simp at ea
  ·simp at ea
 have setl:∀ (l0:Nat) (b:Blk),h'=h.set l0 b→l0∈touches ev h o→h.length≤h'.length∧∀ l,l < h.length→l∉touches ev h o→h'[l]? = h[l]? := fun l0 b hb ht=>by
  subst hb
  refine ⟨by simp,fun l hl hn=>?_⟩
  rw [List.getElem?_set_ne]
  intro e0
  subst e0
  exact hn ht
 have mset:∀ {t:TypeId} {m k v:Operand},(∀ l,ev m=.mp l→l∈touches ev h o)→vunit (mapSet C.P t h (ev m) (ev k) (ev v))=some (x,h')→h.length≤h'.length∧∀ l,l < h.length→l∉touches ev h o→h'[l]? = h[l]? := fun {t m k v} ht e=>by
  simp only [vunit] at e
  split at e
  ·rename_i h1 hs
   simp only [Option.some.injEq,Prod.mk.injEq] at e
   obtain ⟨_,rfl⟩:=e
   unfold mapSet at hs
   split at hs
   ·rename_i l0 hp
    split at hs
    ·split at hs
     ·split at hs
      ·simp only [Option.some.injEq] at hs
       exact setl l0 _ hs.symm (ht l0 hp)
      ·simp at hs
     ·simp at hs
    ·simp at hs
   ·simp at hs
  ·simp at e
 cases o with
 | alloc t =>
  simp only [stepO] at e
  obtain ⟨x0,e0⟩:=allocT_some e
  obtain ⟨b,hb⟩:=alloc_push e0
  exact push b hb
 | box t y =>
  simp only [stepO] at e
  obtain ⟨b,hb⟩:=alo e
  exact push b hb
 | store t p v =>
  simp only [stepO,vunit] at e
  split at e
  ·rename_i h1 hs
   simp only [Option.some.injEq,Prod.mk.injEq] at e
   obtain ⟨_,rfl⟩:=e
   unfold aStore at hs
   split at hs
   ·rename_i l0 o0 hp
    split at hs
    ·split at hs
     ·split at hs
      ·simp only [Option.some.injEq] at hs
       exact setl l0 _ hs.symm (by simp [touches,hp,locs])
      ·simp at hs
     ·simp at hs
    ·simp at hs
   ·rename_i l0 n0 i0 o0 hp
    split at hs
    ·split at hs
     ·split at hs
      ·split at hs
       ·split at hs
        ·simp only [Option.some.injEq] at hs
         exact setl l0 _ hs.symm (by simp [touches,hp,locs])
        ·simp at hs
       ·simp at hs
      ·simp at hs
     ·simp at hs
    ·simp at hs
   ·simp at hs
  ·simp at e
 | makeMap t r =>
  cases r with
  | none =>
   simp only [stepO,Option.some.injEq,Prod.mk.injEq] at e
   exact push _ e.2.symm
  | some _=>simp [stepO,stepD,val] at e
 | buildSlice t n parts =>
  simp only [stepO] at e
  cases hd:unlessB (C.wrB t) (stepD C F ev h (.buildSlice t n parts)) with
  | some v =>
   simp only [hd,orBuild] at e
   exact quiet (v:=some v) e
  | none =>
   simp only [hd,orBuild] at e
   unfold buildN at e
   split at e
   ·unfold sliceN at e
    split at e
    ·split at e
     ·simp only [Option.some.injEq,Prod.mk.injEq] at e
      exact push _ e.2.symm
     ·simp at e
    ·simp at e
   ·simp at e
 | mapUpdate t m k v =>
  simp only [stepO] at e
  exact mset (fun l0 hp=>by simp [touches,hp,locs]) e
 | insert t m k v =>
  simp only [stepO] at e
  refine mset (t:=t) (m:=m) (k:=k) (v:=v) (fun l0 hp=>by simp [touches,hp,locs]) ?_
  cases hs:mapNew C.P t h (ev m) (ev k) (ev v) with
  | none=>simp [hs,vunit] at e
  | some h1 =>
   rw [hs] at e
   rw [(mapNew_set hs).2]
   exact e
 | convert t u y =>
  simp only [stepO] at e
  exact quiet e
 | makeSlice t n m =>
  simp only [stepO] at e
  unfold makeSliceV at e
  split at e
  ·split at e
   ·split at e
    ·split at e
     ·unfold makeOf at e
      split at e
      ·split at e
       ·simp only [Option.some.injEq,Prod.mk.injEq] at e
        exact push _ e.2.symm
       ·simp at e
      ·simp at e
     ·simp at e
    ·simp at e
   ·simp at e
  ·simp at e
 | call c =>
  simp only [stepO,callOp] at e
  split at e
  ·rename_i f hc
   unfold callV at e
   split at e
   ·rename_i g caps hg
    exact callBy_away (hsh _) (fun args h1 h2=>by simp [touches,hc,touchesCall,hg,h1,h2]) e
   ·rename_i g fs hg
    exact callBy_away (hsh _) (fun args h1 h2=>by simp [touches,hc,touchesCall,hg,h1,h2]) e
   ·simp at e
  ·rename_i hc
   unfold appendV at e
   split at e
   ·rename_i xs ys hxy
    split at e
    ·split at e
     ·split at e
      ·split at e
       ·split at e
        ·obtain ⟨xs',x',e,hlx⟩:=appendX_some e
         unfold appendTo at e
         split at e
         ·split at e
          ·simp only [Option.some.injEq,Prod.mk.injEq] at e
           exact push _ e.2.symm
          ·simp at e
         ·split at e
          ·simp only [Option.some.injEq,Prod.mk.injEq] at e
           exact push _ e.2.symm
          ·split at e
           ·simp only [Option.some.injEq,Prod.mk.injEq] at e
            obtain ⟨_,rfl⟩:=e
            exact ⟨Nat.le_refl _,fun _ _ _=>rfl⟩
           ·simp at e
         ·rename_i l0 n0
          split at e
          ·split at e
           ·simp only [Option.some.injEq,Prod.mk.injEq] at e
            exact setl l0 _ e.2.symm (by simp [touches,hc,hxy,locsL,←hlx,locs])
           ·simp at e
          ·simp at e
         ·rename_i l0 n0 m0
          split at e
          ·split at e
           ·simp only [Option.some.injEq,Prod.mk.injEq] at e
            exact setl l0 _ e.2.symm (by simp [touches,hc,hxy,locsL,←hlx,locs])
           ·simp at e
          ·simp at e
         ·simp at e
        ·simp at e
       ·simp at e
      ·simp at e
     ·split at e
      ·unfold appendS at e
       split at e
       ·split at e
        ·obtain ⟨xs',x',e,hlx⟩:=appendX_some e
         unfold appendTo at e
         split at e
         ·split at e
          ·simp only [Option.some.injEq,Prod.mk.injEq] at e
           exact push _ e.2.symm
          ·simp at e
         ·split at e
          ·simp only [Option.some.injEq,Prod.mk.injEq] at e
           exact push _ e.2.symm
          ·split at e
           ·simp only [Option.some.injEq,Prod.mk.injEq] at e
            obtain ⟨_,rfl⟩:=e
            exact ⟨Nat.le_refl _,fun _ _ _=>rfl⟩
           ·simp at e
         ·rename_i l0 n0
          split at e
          ·split at e
           ·simp only [Option.some.injEq,Prod.mk.injEq] at e
            exact setl l0 _ e.2.symm (by simp [touches,hc,hxy,locsL,←hlx,locs])
           ·simp at e
          ·simp at e
         ·rename_i l0 n0 m0
          split at e
          ·split at e
           ·simp only [Option.some.injEq,Prod.mk.injEq] at e
            exact setl l0 _ e.2.symm (by simp [touches,hc,hxy,locsL,←hlx,locs])
           ·simp at e
          ·simp at e
         ·simp at e
        ·simp at e
       ·simp at e
      ·simp at e
     ·split at e
      ·split at e
       ·unfold appendMk at e
        split at e
        ·split at e
         ·unfold makeOf at e
          split at e
          ·split at e
           ·simp only [Option.some.injEq,Prod.mk.injEq] at e
            exact push _ e.2.symm
           ·simp at e
          ·simp at e
         ·simp at e
        ·simp at e
       ·simp at e
      ·simp at e
     ·simp at e
    ·simp at e
   ·simp at e
  ·rename_i hc
   unfold vunit at e
   split at e
   ·rename_i h1 hcl
    simp only [Option.some.injEq,Prod.mk.injEq] at e
    obtain ⟨_,rfl⟩:=e
    unfold clearV at hcl
    split at hcl
    ·rename_i y hy
     split at hcl
     ·split at hcl
      ·split at hcl
       ·unfold clearTo at hcl
        split at hcl
        ·rename_i l0 _ _ _
         split at hcl
         ·split at hcl
          ·simp only [Option.some.injEq] at hcl
           exact setl l0 _ hcl.symm (by simp [touches,hc,hy,locsL,locs])
          ·simp at hcl
         ·simp at hcl
        ·simp at hcl
       ·simp at hcl
      ·simp at hcl
     ·simp at hcl
    ·simp at hcl
   ·simp at e
  ·exact quiet e
  ·rename_i hc
   unfold copyV at e
   split at e
   ·rename_i dst src hy
    split at e
    ·split at e
     ·unfold copyTo at e
      split at e
      ·rename_i l0 _ _ _
       unfold copyAt at e
       split at e
       ·split at e
        ·split at e
         ·split at e
          ·simp only [Option.some.injEq,Prod.mk.injEq] at e
           exact setl l0 _ e.2.symm (by simp [touches,hc,hy,locsL,locs])
          ·simp at e
         ·simp at e
        ·simp at e
       ·simp at e
      ·rename_i l0 _
       unfold copyAt at e
       split at e
       ·split at e
        ·split at e
         ·split at e
          ·simp only [Option.some.injEq,Prod.mk.injEq] at e
           exact setl l0 _ e.2.symm (by simp [touches,hc,hy,locsL,locs])
          ·simp at e
         ·simp at e
        ·simp at e
       ·simp at e
      ·simp at e
     ·simp at e
    ·simp at e
   ·simp at e
  ·exact quiet e
  ·simp at e
 | _=>exact quiet (by simpa only [stepO] using e)
end
section
variable {Bs:World→Prop}
variable {P:Program} {h h':Heap} {ev ev':Operand→AV}
theorem evs_congr:∀ (l:List Operand),(∀ x,x∈l→ev x=ev' x)→evs ev l=evs ev' l
 | [],_=>rfl
 | x::r,e=>by simp only [evs];rw [e x (by simp),evs_congr r (fun y hy=>e y (by simp [hy]))]
theorem evo_congr (x:Option Operand) (e:∀ y,x=some y→ev y=ev' y):evo ev x=evo ev' x:=by
 cases x with
 | none=>rfl
 | some y=>simp only [evo];rw [e y rfl]
theorem pieces_congr {kn:Bool} {z:Nat}:∀ (ps:List (Nat×Operand)) (i:Nat),(∀ p,p∈ps→ev p.2=ev' p.2)→pieces kn h ev z i ps=pieces kn h ev' z i ps
 | [],_,_=>rfl
 | (j,x)::r,i,e=>by
  simp only [pieces]
  rw [e (j,x) (by simp),pieces_congr r (i+1) (fun p hp=>e p (by simp [hp]))]
theorem fillBy_congr {place:Nat→Option (Nat×Nat)}:∀ (ps:List (Nat×Operand)) (cs:List AV),(∀ p,p∈ps→ev p.2=ev' p.2)→fillBy place ev cs ps=fillBy place ev' cs ps
 | [],_,_=>rfl
 | (j,x)::r,cs,e=>by
  have hx:ev x=ev' x:=e (j,x) (by simp)
  have hr:∀ cs,fillBy place ev cs r=fillBy place ev' cs r:=fun cs=>fillBy_congr r cs (fun p hp=>e p (by simp [hp]))
  simp only [fillBy,hx,hr]
theorem buildV_congr {p:Option Plc} {z:Option AV} (ps:List (Nat×Operand)) (e:∀ p,p∈ps→ev p.2=ev' p.2):buildV ev ps p z=buildV ev' ps p z:=by
 unfold buildV
 split
 ·exact fillBy_congr _ _ e
 ·rfl
theorem stepD_congr {C:Cfg} {F:Tk→Res} (o:Op) (e:∀ x,x∈o.operands→ev x=ev' x):stepD C F ev h o=stepD C F ev' h o:=by
 cases o with
 | build t ps =>
  simp only [stepD]
  exact buildV_congr _ fun p hp=>e p.2 (by simp only [Op.operands];simpa using ⟨p.1,by simpa using hp⟩)
 | buildSlice t n ps =>
  simp only [stepD]
  split
  ·rw [pieces_congr ps.toList 0 fun p hp=>e p.2 (by simp only [Op.operands];simpa using ⟨p.1,by simpa using hp⟩)]
  ·rfl
 | makeFunc f first captured =>
  cases f with
  | func g =>
   simp only [stepD]
   rw [evs_congr (ev:=ev) (ev':=ev') captured.toList fun x hx=>e x (by simp only [Op.operands];simp;exact .inr (by simpa using hx)),evs_congr (ev:=ev) (ev':=ev') first.toList fun x hx=>e x (by simp only [Op.operands];simp;exact .inl (by simpa using hx))]
  | _=>rfl
 | slice t x lo hi mx =>
  cases mx with
  | none =>
   simp only [stepD]
   rw [e x (by simp [Op.operands]),evo_congr lo fun y hy=>e y (by subst hy;simp [Op.operands]),evo_congr hi fun y hy=>e y (by subst hy;simp [Op.operands])]
  | some m =>
   cases lo with
   | none =>
    cases hi with
    | none=>rfl
    | some hi =>
     simp only [stepD]
     rw [e x (by simp [Op.operands]),e hi (by simp [Op.operands]),e m (by simp [Op.operands])]
   | some lo =>
    cases hi with
    | none=>rfl
    | some hi =>
     simp only [stepD]
     rw [e x (by simp [Op.operands]),e lo (by simp [Op.operands]),e hi (by simp [Op.operands]),e m (by simp [Op.operands])]
 | call c =>
  have hargs:evs ev c.args.toList=evs ev' c.args.toList:=evs_congr _ fun x hx=>e x (by simp only [Op.operands,Call.operands];simp;exact .inr (by simpa using hx))
  simp only [stepD,callOpD,hargs]
  split
  ·rename_i f hc
   rw [e f (by simp [Op.operands,Call.operands,hc])]
  ·rfl
  ·rfl
 | binOp op t x y t' =>
  simp only [stepD]
  rw [e x (by simp [Op.operands]),e y (by simp [Op.operands])]
 | pick c a b =>
  simp only [stepD]
  rw [e c (by simp [Op.operands]),e a (by simp [Op.operands]),e b (by simp [Op.operands])]
 | indexAddr t x i=>simp only [stepD];rw [e x (by simp [Op.operands]),e i (by simp [Op.operands])]
 | index t x i=>simp only [stepD];rw [e x (by simp [Op.operands]),e i (by simp [Op.operands])]
 | lookup t x i ok=>simp only [stepD];rw [e x (by simp [Op.operands]),e i (by simp [Op.operands])]
 | move x=>simp only [stepD];rw [e x (by simp [Op.operands])]
 | assign x=>simp only [stepD];rw [e x (by simp [Op.operands])]
 | load t x=>simp only [stepD];rw [e x (by simp [Op.operands])]
 | nilCheck x=>simp only [stepD];rw [e x (by simp [Op.operands])]
 | unOp op t x=>simp only [stepD];rw [e x (by simp [Op.operands])]
 | convert s t x=>simp only [stepD];rw [e x (by simp [Op.operands])]
 | makeInterface t x=>simp only [stepD];rw [e x (by simp [Op.operands])]
 | fieldAddr t x f=>simp only [stepD];rw [e x (by simp [Op.operands])]
 | field t x f=>simp only [stepD];rw [e x (by simp [Op.operands])]
 | extract x i=>simp only [stepD];rw [e x (by simp [Op.operands])]
 | _=>rfl
theorem piecesN_congr {z:Nat}:∀ (l:List (Nat×Operand)) (i:Nat),(∀ p,p∈l→ev p.2=ev' p.2)→piecesN h ev z i l=piecesN h ev' z i l
 | [],_,_=>rfl
 | (j,x)::r,i,e=>by
  simp only [piecesN]
  rw [show ev x=ev' x from e (j,x) (by simp),piecesN_congr r (i+1) fun p hp=>e p (List.mem_cons_of_mem _ hp)]
theorem buildN_congr {q:Bool} {t:TypeId} {n:Nat} {ps:Array (Nat×Operand)} {z:Option (Nat×Nat)} (e:∀ x,x∈(Op.buildSlice t n ps).operands→ev x=ev' x):buildN q h ev n ps.toList z=buildN q h ev' n ps.toList z:=by
 cases z with
 | none=>rfl
 | some z =>
  simp only [buildN]
  rw [piecesN_congr _ _ fun p hp=>e p.2 (by simp only [Op.operands];simp;exact ⟨p.1,by simpa using hp⟩)]
theorem stepO_congr {C:Cfg} {F:Tk→Res} (o:Op) (e:∀ x,x∈o.operands→ev x=ev' x):stepO C F ev h o=stepO C F ev' h o:=by
 have hd:=stepD_congr (C:=C) (F:=F) (h:=h) o e
 cases o with
 | alloc t=>rfl
 | box t x=>simp only [stepO];rw [e x (by simp [Op.operands])]
 | store t a v=>simp only [stepO];rw [e a (by simp [Op.operands]),e v (by simp [Op.operands])]
 | makeSlice t n m=>simp only [stepO];rw [e n (by simp [Op.operands]),e m (by simp [Op.operands])]
 | convert t u y=>simp only [stepO];rw [e y (by simp [Op.operands])]
 | buildSlice t n ps=>simp only [stepO];rw [hd,buildN_congr e]
 | makeMap t r=>cases r<;>rfl
 | mapUpdate t m k v=>simp only [stepO];rw [e m (by simp [Op.operands]),e k (by simp [Op.operands]),e v (by simp [Op.operands])]
 | insert t m k v=>simp only [stepO];rw [e m (by simp [Op.operands]),e k (by simp [Op.operands]),e v (by simp [Op.operands])]
 | call c =>
  have hargs:evs ev c.args.toList=evs ev' c.args.toList:=evs_congr _ fun x hx=>e x (by simp only [Op.operands,Call.operands];simp;exact .inr (by simpa using hx))
  simp only [stepO,callOp,hargs]
  split
  ·rename_i f hc
   rw [e f (by simp [Op.operands,Call.operands,hc])]
  ·rfl
  ·rfl
  ·rfl
  ·rfl
  ·rfl
  ·rfl
 | _=>simpa only [stepO] using congrArg (val h) hd
theorem stepA_congr {C:Cfg} {l:Nat} (o:Op) (e:∀ x,x∈o.operands→ev x=ev' x):stepA C ev h l o=stepA C ev' h l o:=by
 cases o with
 | box t x=>simp only [stepA];rw [e x (by simp [Op.operands])]
 | makeMap t r=>cases r<;>rfl
 | makeSlice t n m=>simp only [stepA];rw [e n (by simp [Op.operands]),e m (by simp [Op.operands])]
 | _=>rfl
theorem touches_congr (o:Op) (e:∀ x,x∈o.operands→ev x=ev' x):touches ev h o=touches ev' h o:=by
 cases o with
 | store t a v=>simp only [touches];rw [e a (by simp [Op.operands])]
 | mapUpdate t m k v=>simp only [touches];rw [e m (by simp [Op.operands])]
 | insert t m k v=>simp only [touches];rw [e m (by simp [Op.operands])]
 | call c =>
  have hargs:evs ev c.args.toList=evs ev' c.args.toList:=evs_congr _ fun x hx=>e x (by simp only [Op.operands,Call.operands];simp;exact .inr (by simpa using hx))
  simp only [touches,hargs]
  split
  ·rename_i f hc
   rw [e f (by simp [Op.operands,Call.operands,hc])]
  ·rfl
 | _=>rfl
end
section
variable {Bs:World→Prop}
def evF (g:Nat→AV):Operand→AV
 | .tmp t=>g t
 | .const v=>ofVal v
 | .func f=>.fn f []
 | .global _=>.any
theorem ev_evF (fr:Fr):ev fr=evF (get fr):=by funext x;cases x<;>rfl
def updF (g:Nat→AV):Option Nat→AV→Nat→AV
 | some d,v=>fun i=>if d=i then v else g i
 | none,_=>g
theorem get_put (fr:Fr) (d:Option Nat) (v:AV):get (put fr d v)=updF (get fr) d v:=by
 cases d with
 | none=>rfl
 | some d=>funext i;rfl
theorem updF_other {g:Nat→AV} {d:Option Nat} {v:AV} {s:Nat} (h:d≠some s):updF g d v s=g s:=by
 cases d with
 | none=>rfl
 | some d =>
  have:d≠s:=fun e=>h (by rw [e])
  simp [updF,this]
theorem updF_comm {g:Nat→AV} {d e:Option Nat} {v u:AV} (h:∀ s,d=some s→e≠some s):updF (updF g d v) e u=updF (updF g e u) d v:=by
 cases d with
 | none=>rfl
 | some d =>
  cases e with
  | none=>rfl
  | some e =>
   have hne:d≠e:=fun x=>h d rfl (by rw [x])
   funext i
   simp only [updF]
   by_cases h1:d=i
   ·subst h1
    have:¬e=d:=fun x=>hne x.symm
    simp [this]
   ·simp [h1]
def slotF (g:Nat→AV):Option Nat→AV
 | some d=>g d
 | none=>.any
theorem slot_eq (fr:Fr) (d:Option Nat):getO fr d=slotF (get fr) d:=by cases d<;>rfl
def guardF (ops:Array Oper) (g:Nat→AV) (o:Oper):Option Bool :=
 match o.guard with
 | none=>some true
 | some (j,want)=>match slotF g (slotOf ops.toList j) with
  | .bool b=>some (decide (b=want))
  | .tup []=>some false
  | _=>none
def stepI (C:Cfg) (F:Tk→Res) (dy:List (Nat×Nat)) (pl:Nat→Nat) (ops:Array Oper) (i:Nat) (g:Nat→AV) (h:Heap):Option (AV×Heap×List Nat) :=
 match ops[i]? with
 | none=>none
 | some o=>match guardF ops g o with
  | some true=>match stepQ C F dy pl i (evF g) h o.op with
   | some (x,h')=>some (x,h',chg h h' (touchesQ (pl 0) dy i (evF g) h o.op))
   | none=>none
  | some false=>some (.tup [],h,[])
  | none=>none
end
section
variable {Bs:World→Prop}
variable {C:Cfg} {F:Tk→Res} {dy:List (Nat×Nat)} {pl:Nat→Nat} {ops:Array Oper} {i:Nat} {o:Oper} {g g':Nat→AV} {h h':Heap} {x:AV} {T:List Nat}
theorem evF_congr (e:∀ t,t∈o.looksAt ops→g t=g' t):∀ y,y∈o.op.operands→evF g y=evF g' y:=fun y hy=>by
 cases y with
 | tmp t=>exact e t (List.mem_append_left _ (List.mem_filterMap.2 ⟨.tmp t,by simpa using hy,rfl⟩))
 | _=>rfl
theorem guardF_congr (e:∀ t,t∈o.looksAt ops→g t=g' t):guardF ops g o=guardF ops g' o:=by
 unfold guardF
 cases hg:o.guard with
 | none=>rfl
 | some jw =>
  obtain ⟨j,want⟩:=jw
  have:slotF g (slotOf ops.toList j)=slotF g' (slotOf ops.toList j):=by
   unfold slotOf
   simp only [Array.getElem?_toList]
   cases hj:ops[j]? with
   | none=>rfl
   | some oj =>
    simp only
    cases hd:oj.dst with
    | none=>rfl
    | some d=>exact e d (List.mem_append_right _ (by simp [hg,hj,hd]))
  simp only [this]
theorem stepW_congr {F:Tk→Res} {n:Nat} {ev ev':Operand→AV} {h:Heap} (o:Op) (e:∀ x,x∈o.operands→ev x=ev' x):stepW F n ev h o=stepW F n ev' h o:=by
 cases o with
 | call c =>
  have hargs:evs ev c.args.toList=evs ev' c.args.toList:=evs_congr _ fun x hx=>e x (by simp only [Op.operands,Call.operands];simp;exact .inr (by simpa using hx))
  simp only [stepW,hargs]
  split
  ·rename_i f hc
   rw [e f (by simp [Op.operands,Call.operands,hc])]
  ·rfl
 | _=>rfl
theorem stepQ_congr (e:∀ t,t∈o.looksAt ops→g t=g' t):stepQ C F dy pl i (evF g) h o.op=stepQ C F dy pl i (evF g') h o.op:=by
 unfold stepQ
 rw [stepD_congr _ (evF_congr e),stepO_congr _ (evF_congr e),stepA_congr _ (evF_congr e),stepW_congr _ (evF_congr e)]
theorem stepI_congr (ho:ops[i]? = some o) (e:∀ t,t∈o.looksAt ops→g t=g' t):stepI C F dy pl ops i g h=stepI C F dy pl ops i g' h:=by
 unfold stepI touchesQ
 simp only [ho]
 rw [guardF_congr e,stepQ_congr e,touches_congr _ (evF_congr e)]
theorem eqK_ok {a b:IntKind} (h:eqK a b=true):a=b:=by simpa [eqK] using h
mutual
theorem eqA_ok:∀ (a b:AV),eqA a b=true→a=b
 | .int k a,b,h=>by cases b<;>simp [eqA] at h;obtain ⟨h1,h2⟩:=h;rw [eqK_ok h1,h2]
 | .bool a,b,h=>by cases b<;>simp [eqA] at h;rw [h]
 | .str a,b,h=>by cases b<;>simp [eqA] at h;rw [h]
 | .nilp,b,h=>by cases b<;>simp [eqA] at h;rfl
 | .nilf,b,h=>by cases b<;>simp [eqA] at h;rfl
 | .nili,b,h=>by cases b<;>simp [eqA] at h;rfl
 | .nilm,b,h=>by cases b<;>simp [eqA] at h;rfl
 | .nils,b,h=>by cases b<;>simp [eqA] at h;rfl
 | .emp a,b,h=>by cases b<;>simp [eqA] at h;rw [h]
 | .rows a,b,h=>by cases b<;>simp [eqA] at h;rw [eqR_ok a _ h]
 | .lit a,b,h=>by cases b<;>simp [eqA] at h;rw [eqR_ok a _ h]
 | .rptr a o,b,h=>by cases b<;>simp [eqA] at h;rw [eqL_ok a _ h.1,h.2]
 | .agg a,b,h=>by cases b<;>simp [eqA] at h;rw [eqL_ok a _ h]
 | .tup a,b,h=>by cases b<;>simp [eqA] at h;rw [eqL_ok a _ h]
 | .fn f a,b,h=>by cases b<;>simp [eqA] at h;rw [eqL_ok a _ h.2,h.1]
 | .bnd f a,b,h=>by cases b<;>simp [eqA] at h;rw [eqL_ok a _ h.2,h.1]
 | .iface t a,b,h=>by cases b<;>simp [eqA] at h;rw [eqA_ok a _ h.2,h.1]
 | .ptr l o,b,h=>by cases b<;>simp [eqA] at h;rw [h.1,h.2]
 | .own l n,b,h=>by cases b<;>simp [eqA] at h;rw [h.1,h.2]
 | .optr l n i o,b,h=>by cases b<;>simp [eqA] at h;rw [h.1,h.2.1,h.2.2.1,h.2.2.2]
 | .mp l,b,h=>by cases b<;>simp [eqA] at h;rw [h]
 | .tptr t l o,b,h=>by cases b<;>simp [eqA] at h;rw [h.1,h.2.1,h.2.2]
 | .town t l n,b,h=>by cases b<;>simp [eqA] at h;rw [h.1,h.2.1,h.2.2]
 | .vw l n a m,b,h=>by cases b<;>simp [eqA] at h;rw [h.1.1,h.1.2,h.2.1,h.2.2]
 | .any,b,h=>by cases b<;>simp [eqA] at h
theorem eqL_ok:∀ (a b:List AV),eqL a b=true→a=b
 | [],b,h=>by cases b<;>simp [eqL] at h;rfl
 | a::r,b,h=>by
  cases b with
  | nil=>simp [eqL] at h
  | cons b s =>
   simp only [eqL,Bool.and_eq_true] at h
   rw [eqA_ok a b h.1,eqL_ok r s h.2]
theorem eqR_ok:∀ (a b:List (List AV)),eqR a b=true→a=b
 | [],b,h=>by cases b<;>simp [eqR] at h;rfl
 | a::r,b,h=>by
  cases b with
  | nil=>simp [eqR] at h
  | cons b s =>
   simp only [eqR,Bool.and_eq_true] at h
   rw [eqL_ok a b h.1,eqR_ok r s h.2]
end
theorem eqE_ok:∀ (a b:List (AV×AV)),eqE a b=true→a=b
 | [],b,h=>by cases b<;>simp [eqE] at h;rfl
 | (a,a')::r,b,h=>by
  cases b with
  | nil=>simp [eqE] at h
  | cons b s =>
   obtain ⟨b,b'⟩:=b
   simp only [eqE,Bool.and_eq_true] at h
   rw [eqA_ok a b h.1,eqA_ok a' b' h.2.1,eqE_ok r s h.2.2]
theorem eqB_ok {a b:Option Blk} (h:eqB a b=true):a=b:=by
 unfold eqB at h
 split at h
 ·rw [eqL_ok _ _ h]
 ·simp only [Bool.and_eq_true,beq_iff_eq] at h
  rw [h.1,h.2.1,eqR_ok _ _ h.2.2]
 ·rw [eqE_ok _ _ h]
 ·rfl
 ·simp at h
theorem chg_away {h h':Heap} {l:Nat}:∀ {T:List Nat},l∉chg h h' T→(l∉T→h'[l]? = h[l]?)→h'[l]? = h[l]?
 | [],_,e=>e (by simp)
 | x::T,hn,e=>by
  simp only [chg] at hn
  by_cases hl:l=x
  ·subst hl
   split at hn
   ·rename_i hq;exact (eqB_ok hq).symm
   ·simp at hn
  ·split at hn
   ·exact chg_away hn fun h1=>e (by simp [hl,h1])
   ·exact chg_away (fun h2=>hn (List.mem_cons_of_mem _ h2)) fun h1=>e (by simp [hl,h1])
theorem stepI_quiet (ho:ops[i]? = some o) (hq:isQ dy i o.op=true) (e:stepI C F dy pl ops i g h=some (x,h',T)):h'=h∧T=[]:=by
 unfold stepI at e
 simp only [ho] at e
 split at e
 ·unfold stepQ touchesQ at e
  simp only [hq,if_true] at e
  cases hd:stepD C (lv F) (evF g) h o.op with
  | none=>simp [hd,val] at e
  | some v =>
   simp only [hd,val,Option.some.injEq,Prod.mk.injEq] at e
   exact ⟨e.2.1.symm,e.2.2.symm⟩
 ·simp only [Option.some.injEq,Prod.mk.injEq] at e
  exact ⟨e.2.1.symm,e.2.2.symm⟩
 ·simp at e
mutual
theorem PRep.no_locs {M:Nat→Nat→Prop} {w:World}:∀ (a:AV) (v:Value),PRep M w a v→locs a=[]
 | .agg cs,_,r=>by obtain ⟨vs,_,r⟩:=r;exact PRepL.no_locs cs vs r
 | .tup cs,_,r=>by obtain ⟨vs,_,r⟩:=r;exact PRepL.no_locs cs vs r
 | .fn _ cs,_,r=>by obtain ⟨vs,_,r⟩:=r;exact PRepL.no_locs cs vs r
 | .bnd _ cs,_,r=>by obtain ⟨vs,_,r⟩:=r;exact PRepL.no_locs cs vs r
 | .iface _ a,_,r=>by obtain ⟨y,_,r⟩:=r;exact PRep.no_locs a y r
 | .ptr _ _,_,r=>r.elim
 | .own _ _,_,r=>r.elim
 | .optr _ _ _ _,_,r=>r.elim
 | .mp _,_,r=>r.elim
 | .tptr _ _ _,_,r=>r.elim
 | .town _ _ _,_,r=>r.elim
 | .vw _ _ _ _,_,r=>r.elim
 | .int _ _,_,_=>rfl
 | .bool _,_,_=>rfl
 | .str _,_,_=>rfl
 | .nilp,_,_=>rfl
 | .nilf,_,_=>rfl
 | .nili,_,_=>rfl
 | .emp _,_,_=>rfl
 | .nilm,_,_=>rfl
 | .nils,_,_=>rfl
 | .rows _,_,_=>rfl
 | .lit _,_,_=>rfl
 | .rptr _ _,_,_=>rfl
 | .any,_,_=>rfl
theorem PRepL.no_locs {M:Nat→Nat→Prop} {w:World}:∀ (l:List AV) (vs:List Value),PRepL M w l vs→locsL l=[]
 | [],_,_=>rfl
 | a::r,_,x=>by
  obtain ⟨v,vr,_,h1,h2⟩:=x
  simp only [locsL]
  rw [PRep.no_locs a v h1,PRepL.no_locs r vr h2]
  rfl
end
theorem ofVal_locs (v:Value):locs (ofVal v)=[]:=PRep.no_locs (M:=fun _ _=>True) (w:=default) _ v (ofVal_rep v)
def readsT (o:Op):List Nat:=(readsO o).filterMap fun
 | .tmp t=>some t
 | _=>none
theorem readsT_mem {o:Op} {t:Nat} (h:Operand.tmp t∈readsO o):t∈readsT o:=List.mem_filterMap.2 ⟨_,h,rfl⟩
theorem stepI_local (ho:ops[i]? = some o) (hq:isQ dy i o.op=true) (e:∀ s,s∈readsT o.op→∀ l,l∈locs (g s)→h[l]? = h'[l]?) (hs:stepI C F dy pl ops i g h=some (x,h,T)):stepI C F dy pl ops i g h'=some (x,h',T):=by
 unfold stepI at hs ⊢
 simp only [ho] at hs ⊢
 cases hg:guardF ops g o with
 | none=>simp [hg] at hs
 | some b =>
  cases b with
  | true =>
   simp only [hg] at hs ⊢
   unfold stepQ touchesQ at hs ⊢
   simp only [hq,if_true] at hs ⊢
   have:stepD C (lv F) (evF g) h o.op=stepD C (lv F) (evF g) h' o.op:=stepD_local _ fun y hy l hl=>by
    cases y with
    | tmp t=>exact e t (readsT_mem hy) l hl
    | const v=>rw [show evF g (.const v)=ofVal v from rfl,ofVal_locs] at hl;simp at hl
    | func f=>simp [evF,locs,locsL] at hl
    | global _=>simp [evF,locs] at hl
   rw [←this]
   cases hd:stepD C (lv F) (evF g) h o.op with
   | none=>simp [hd,val] at hs
   | some v =>
    simp only [hd,val,Option.some.injEq,Prod.mk.injEq,chg] at hs
    simp only [val,chg]
    rw [hs.1,hs.2.2]
  | false =>
   simp only [hg,Option.some.injEq,Prod.mk.injEq] at hs
   simp only
   rw [←hs.1,←hs.2.2]
theorem stepA_spec {C:Cfg} {ev:Operand→AV} {h h':Heap} {l:Nat} {o:Op} {x:AV} (e:stepA C ev h l o=some (x,h')):∃ b,h[l]? = some .hole∧h'=h.set l b∧∀ h2:Heap,h2[l]? = some .hole→stepA C ev h2 l o=some (x,h2.set l b):=by
 have core:∀ {v:Option AV},fill h l v=some (x,h')→∃ b,h[l]? = some .hole∧h'=h.set l b∧∀ h2:Heap,h2[l]? = some .hole→fill h2 l v=some (x,h2.set l b):=by
  intro v e
  unfold fill at e
  split at e
  ·split at e
   ·rename_i a cs hcs hl
    simp only [Option.some.injEq,Prod.mk.injEq] at e
    obtain ⟨rfl,rfl⟩:=e
    exact ⟨.cells cs,hl,rfl,fun h2 hh=>by simp only [fill,hcs,hh]⟩
   ·simp at e
  ·simp at e
 unfold stepA at e ⊢
 split at e
 ·exact core e
 ·exact core e
 ·unfold fillM at e
  split at e
  ·rename_i hl
   simp only [Option.some.injEq,Prod.mk.injEq] at e
   obtain ⟨rfl,rfl⟩:=e
   exact ⟨.map [],hl,rfl,fun h2 hh=>by simp only [fillM,hh]⟩
  ·simp at e
 ·unfold fillS at e
  split at e
  ·rename_i heq
   split at e
   ·rename_i hl
    simp only [Option.some.injEq,Prod.mk.injEq] at e
    obtain ⟨rfl,rfl⟩:=e
    exact ⟨_,hl,rfl,fun h2 hh=>by simp only [heq,fillS,hh]⟩
   ·simp at e
  ·simp at e
 ·simp at e
theorem alo_noQ {dy:List (Nat×Nat)} {i:Nat} {o:Op} (h:alo o=true):isQ dy i o=false:=by
 unfold alo at h
 split at h
 ·rfl
 ·rfl
 ·rfl
 ·rfl
 ·simp at h
theorem stepI_allo (ho:ops[i]? = some o) (ha:alo o.op=true) (e:stepI C F dy pl ops i g h=some (x,h',T)) :
  T=[]∧((h'=h∧∀ h2,stepI C F dy pl ops i g h2=some (x,h2,[]))∨∃ b,h[pl i]? = some .hole∧h'=h.set (pl i) b∧∀ h2:Heap,h2[pl i]? = some .hole→stepI C F dy pl ops i g h2=some (x,h2.set (pl i) b,[])):=by
 have hT2:∀ h2,touchesQ (pl 0) dy i (evF g) h2 o.op=[]:=fun h2=>by
  unfold touchesQ
  split
  ·rfl
  ·first | rfl | rw [if_pos ha]
 have hT:=hT2 h
 unfold stepI at e ⊢
 simp only [ho] at e ⊢
 cases hg:guardF ops g o with
 | none=>simp [hg] at e
 | some b =>
  cases b with
  | false =>
   simp only [hg,Option.some.injEq,Prod.mk.injEq] at e
   obtain ⟨rfl,rfl,rfl⟩:=e
   exact ⟨rfl,.inl ⟨rfl,fun h2=>rfl⟩⟩
  | true =>
   simp only [hg] at e ⊢
   unfold stepQ at e ⊢
   simp only [alo_noQ ha,ha,if_true,Bool.false_eq_true,if_false,hT2] at e ⊢
   split at e
   ·rename_i y h1 hs
    simp only [Option.some.injEq,Prod.mk.injEq] at e
    obtain ⟨rfl,rfl,rfl⟩:=e
    obtain ⟨b,h3,h4,h5⟩:=stepA_spec hs
    exact ⟨rfl,.inr ⟨b,h3,h4,fun h2 hh=>by rw [h5 h2 hh];rfl⟩⟩
   ·simp at e
theorem stepI_away (e:stepI C F dy pl ops i g h=some (x,h',T)):h.length≤h'.length∧∀ l,l < h.length→l∉T→h[l]? ≠ some .hole→h'[l]? = h[l]? := by
 cases ho:ops[i]? with
 | none=>simp [stepI,ho] at e
 | some o =>
  by_cases hq:isQ dy i o.op=true
  ·obtain ⟨rfl,_⟩:=stepI_quiet ho hq e
   exact ⟨Nat.le_refl _,fun _ _ _ _=>rfl⟩
  ·by_cases ha:alo o.op=true
   ·obtain ⟨_,h1 | ⟨b,h1,h2,_⟩⟩:=stepI_allo ho ha e
    ·obtain ⟨rfl,_⟩:=h1
     exact ⟨Nat.le_refl _,fun _ _ _ _=>rfl⟩
    ·subst h2
     refine ⟨by simp,fun l hl _ hn=>List.getElem?_set_ne fun e=>?_⟩
     subst e
     exact hn h1
   ·unfold stepI at e
    simp only [ho] at e
    split at e
    ·unfold stepQ touchesQ at e
     simp only [hq,ha] at e
     by_cases hw:isWd dy i o.op=true
     ·simp only [hw,if_true,Bool.false_eq_true,if_false] at e
      split at e
      ·rename_i y h1 hs
       simp only [Option.some.injEq,Prod.mk.injEq] at e
       obtain ⟨rfl,rfl,rfl⟩:=e
       have:=stepW_away _ hs
       exact ⟨this.1,fun l h1 h2 _=>chg_away h2 fun h3=>this.2 l h1 h3⟩
      ·simp at e
     ·simp only [hw] at e
      split at e
      ·rename_i y h1 hs
       simp only [Option.some.injEq,Prod.mk.injEq] at e
       obtain ⟨rfl,rfl,rfl⟩:=e
       have:=stepO_away (shut_no C) _ (by simpa using hs)
       exact ⟨this.1,fun l h1 h2 _=>chg_away h2 fun h3=>this.2 l h1 (by simpa using h3)⟩
      ·simp at e
    ·simp only [Option.some.injEq,Prod.mk.injEq] at e
     obtain ⟨_,rfl,_⟩:=e
     exact ⟨Nat.le_refl _,fun _ _ _ _=>rfl⟩
    ·simp at e
theorem stepI_alo (ho:ops[i]? = some o) (ha:alo o.op=true) (e:stepI C F dy pl ops i g h=some (x,h',T)):T=[]:=(stepI_allo ho ha e).1
end
def memC:Op→Bool
 | .call c=>match c.callee with
  | .value _=>true
  | _=>false
 | _=>false
def setR (p:Nat) (b:Blk):Option (AV×Heap)→Option (AV×Heap)
 | some (r,h)=>some (r,h.set p b)
 | none=>none
section
variable {h h':Heap} {p:Nat} {b:Blk}
mutual
theorem conv_local:∀ a:AV,(∀ l,l∈locs a→h[l]? = h'[l]?)→conv h a=conv h' a
 | .own l n,e=>by simp only [conv];rw [e l (by simp [locs])]
 | .agg cs,e=>by simp only [conv];rw [convL_local cs e]
 | .tup _,_=>rfl
 | .fn _ _,_=>rfl
 | .bnd _ _,_=>rfl
 | .iface _ _,_=>rfl
 | .ptr _ _,_=>rfl
 | .optr _ _ _ _,_=>rfl
 | .mp _,_=>rfl
 | .tptr _ _ _,_=>rfl
 | .town _ _ _,_=>rfl
 | .vw _ _ _ _,_=>rfl
 | .nils,_=>rfl
 | .lit _,_=>rfl
 | .int _ _,_=>rfl
 | .bool _,_=>rfl
 | .str _,_=>rfl
 | .nilp,_=>rfl
 | .nilf,_=>rfl
 | .nili,_=>rfl
 | .emp _,_=>rfl
 | .nilm,_=>rfl
 | .rows _,_=>rfl
 | .rptr _ _,_=>rfl
 | .any,_=>rfl
theorem convL_local:∀ l:List AV,(∀ i,i∈locsL l→h[i]? = h'[i]?)→convL h l=convL h' l
 | [],_=>rfl
 | a::r,e=>by
  simp only [convL]
  rw [conv_local a (fun l hl=>e l (by simp [locsL,hl])),convL_local r (fun l hl=>e l (by simp [locsL,hl]))]
end
mutual
theorem conv_locs:∀ a a':AV,conv h a=some a'→∀ l,l∈locs a'→l∈locs a
 | .own l n,a',e,i,hi=>by
  simp only [conv] at e
  split at e
  ·split at e
   ·simp only [Option.some.injEq] at e;subst e;exact hi
   ·split at e
    ·simp only [Option.some.injEq] at e;subst e;simp [locs] at hi
    ·simp at e
  ·simp at e
 | .agg cs,a',e,i,hi=>by
  simp only [conv] at e
  split at e
  ·rename_i cs' hcs
   simp only [Option.some.injEq] at e;subst e
   exact convL_locs cs cs' hcs i hi
  ·simp at e
 | .nils,a',e,i,hi=>by simp only [conv,Option.some.injEq] at e;subst e;simp [locs] at hi
 | .lit _,a',e,i,hi=>by simp only [conv,Option.some.injEq] at e;subst e;simp [locs] at hi
 | .tup _,a',e,i,hi=>by simp only [conv,Option.some.injEq] at e;subst e;exact hi
 | .fn _ _,a',e,i,hi=>by simp only [conv,Option.some.injEq] at e;subst e;exact hi
 | .bnd _ _,a',e,i,hi=>by simp only [conv,Option.some.injEq] at e;subst e;exact hi
 | .iface _ _,a',e,i,hi=>by simp only [conv,Option.some.injEq] at e;subst e;exact hi
 | .ptr _ _,a',e,i,hi=>by simp only [conv,Option.some.injEq] at e;subst e;exact hi
 | .optr _ _ _ _,a',e,i,hi=>by simp only [conv,Option.some.injEq] at e;subst e;exact hi
 | .mp _,a',e,i,hi=>by simp only [conv,Option.some.injEq] at e;subst e;exact hi
 | .tptr _ _ _,a',e,i,hi=>by simp only [conv,Option.some.injEq] at e;subst e;exact hi
 | .town _ _ _,a',e,i,hi=>by simp only [conv,Option.some.injEq] at e;subst e;exact hi
 | .vw _ _ _ _,a',e,i,hi=>by simp only [conv,Option.some.injEq] at e;subst e;exact hi
 | .int _ _,a',e,i,hi=>by simp only [conv,Option.some.injEq] at e;subst e;exact hi
 | .bool _,a',e,i,hi=>by simp only [conv,Option.some.injEq] at e;subst e;exact hi
 | .str _,a',e,i,hi=>by simp only [conv,Option.some.injEq] at e;subst e;exact hi
 | .nilp,a',e,i,hi=>by simp only [conv,Option.some.injEq] at e;subst e;exact hi
 | .nilf,a',e,i,hi=>by simp only [conv,Option.some.injEq] at e;subst e;exact hi
 | .nili,a',e,i,hi=>by simp only [conv,Option.some.injEq] at e;subst e;exact hi
 | .emp _,a',e,i,hi=>by simp only [conv,Option.some.injEq] at e;subst e;exact hi
 | .nilm,a',e,i,hi=>by simp only [conv,Option.some.injEq] at e;subst e;exact hi
 | .rows _,a',e,i,hi=>by simp only [conv,Option.some.injEq] at e;subst e;exact hi
 | .rptr _ _,a',e,i,hi=>by simp only [conv,Option.some.injEq] at e;subst e;exact hi
 | .any,a',e,i,hi=>by simp only [conv,Option.some.injEq] at e;subst e;exact hi
theorem convL_locs:∀ a a':List AV,convL h a=some a'→∀ l,l∈locsL a'→l∈locsL a
 | [],a',e,i,hi=>by simp only [convL,Option.some.injEq] at e;subst e;exact hi
 | a::r,a',e,i,hi=>by
  simp only [convL] at e
  split at e
  ·rename_i x hx
   split at e
   ·rename_i y hy
    simp only [Option.some.injEq] at e;subst e
    simp only [locsL,List.mem_append] at hi ⊢
    rcases hi with hi | hi
    ·exact .inl (conv_locs a x hx i hi)
    ·exact .inr (convL_locs r y hy i hi)
   ·simp at e
  ·simp at e
end
theorem fill_at (l:Nat) (hl:l≠p):h[l]? = (h.set p b)[l]? := (List.getElem?_set_ne (fun e=>hl e.symm)).symm
theorem fill_all {L:List Nat} (hn:p∉L):∀ l,l∈L→h[l]? = (h.set p b)[l]? := fun l hl=>fill_at l fun e=>hn (e▸hl)
theorem reach_fill (hb:∀ (l:Nat) (k:Blk),h[l]? = some k→p∉locsB k):∀ (n:Nat) (l s:List Nat),p∉l→p∉s→reach (h.set p b) n l s=reach h n l s∧p∉reach h n l s
 | 0,l,s,_,h2=>⟨rfl,h2⟩
 | n+1,[],s,_,h2=>⟨rfl,h2⟩
 | n+1,x::l,s,h1,h2=>by
  simp only [List.mem_cons,not_or] at h1
  have hx:=fill_at (h:=h) (b:=b) x fun e=>h1.1 e.symm
  simp only [reach]
  rw [←hx]
  split
  ·exact reach_fill hb n l s h1.2 h2
  ·have hs:p∉s++[x]:=by simp [h2,h1.1]
   split
   ·rename_i k hk
    exact reach_fill hb n _ _ (by simp only [List.mem_append,not_or];exact ⟨h1.2,hb x k hk⟩) hs
   ·exact reach_fill hb n _ _ h1.2 hs
theorem sub_fill (σ:Nat→Nat):∀ ls:List Nat,p∉ls→sub (h.set p b) σ ls=sub h σ ls
 | [],_=>rfl
 | l::r,hn=>by
  simp only [List.mem_cons,not_or] at hn
  simp only [sub]
  rw [←fill_at (h:=h) (b:=b) l fun e=>hn.1 e.symm,sub_fill σ r hn.2]
theorem back_fill (σ:Nat→Nat):∀ (ls:List Nat) (bs h:Heap),p∉ls→back σ ls bs (h.set p b)=(back σ ls bs h).set p b
 | [],bs,h,_=>by cases bs<;>rfl
 | l::ls,[],h,_=>rfl
 | l::ls,k::bs,h,hn=>by
  simp only [List.mem_cons,not_or] at hn
  simp only [back]
  rw [List.set_comm _ _ hn.1,back_fill σ ls bs _ hn.2]
theorem back_len (σ:Nat→Nat):∀ (ls:List Nat) (bs h:Heap),(back σ ls bs h).length=h.length
 | [],bs,h=>by cases bs<;>rfl
 | l::ls,[],h=>rfl
 | l::ls,k::bs,h=>by simp only [back];rw [back_len σ ls bs];simp
theorem set_app {x:Heap} (hp:p < h.length):h.set p b++x=(h++x).set p b:=(List.set_append_left _ _ hp).symm
theorem afterMany_fill (hp:p < h.length) {ls:List Nat} (hn:p∉ls) (r:AV) (hs:Heap):afterMany (h.set p b) ls r hs=setR p b (afterMany h ls r hs):=by
 simp only [afterMany,setR,List.length_set]
 rw [back_fill _ ls hs h hn,set_app (by rw [back_len];exact hp)]
theorem afterPure_fill (hp:p < h.length):∀ r:Res,afterPure (h.set p b) r=setR p b (afterPure h r)
 | none=>rfl
 | some (r,[])=>by cases r<;>rfl
 | some (r,k::hs)=>by
  have many:afterMany (h.set p b) [] r (k::hs)=setR p b (afterMany h [] r (k::hs)):=afterMany_fill hp (by simp) _ _
  unfold afterPure
  split
  ·rename_i e;simp at e
  ·rename_i n b' e
   simp only [Option.some.injEq,Prod.mk.injEq,List.cons.injEq] at e
   obtain ⟨rfl,rfl,rfl⟩:=e
   split
   ·simp only [setR,List.length_set];rw [set_app hp]
   ·rfl
  ·rename_i _ e
   simp only [Option.some.injEq,Prod.mk.injEq,List.cons.injEq] at e
   obtain ⟨rfl,rfl,rfl⟩:=e
   exact many
  ·rename_i e;simp at e
theorem afterIn_fill (hp:p < h.length) {ls:List Nat} (hn:p∉ls):∀ r:Res,afterIn (h.set p b) ls r=setR p b (afterIn h ls r)
 | none=>rfl
 | some (r,hs)=>by
  simp only [afterIn,List.length_set]
  rw [back_fill _ ls hs h hn]
  split
  ·rfl
  ·split
   ·split
    ·split
     ·simp only [setR];rw [set_app (by rw [back_len];exact hp)]
     ·exact afterMany_fill hp hn _ _
    ·exact afterMany_fill hp hn _ _
   ·split
    ·exact afterMany_fill hp hn _ _
    ·rfl
theorem snapRows_fill {f f':List AV→Option (List AV)}:∀ rs:List (List AV),(∀ row,row∈rs→f row=f' row)→snapRows f rs=snapRows f' rs
 | [],_=>rfl
 | row::r,e=>by
  simp only [snapRows]
  rw [e row (by simp),snapRows_fill r fun x hx=>e x (by simp [hx])]
theorem locsR_row:∀ {rs:List (List AV)} {row:List AV},row∈rs→∀ l,l∈locsL row→l∈locsR rs
 | a::rs,row,hm,l,hl=>by
  simp only [locsR,List.mem_append]
  rcases List.mem_cons.1 hm with rfl | hm
  ·exact .inl hl
  ·exact .inr (locsR_row hm l hl)
mutual
theorem snapG_fill {f f':List AV→Option (List AV)} (hb:∀ (l:Nat) (k:Blk),h[l]? = some k→p∉locsB k) (hf:∀ cs:List AV,p∉locsL cs→f' cs=f cs):∀ a:AV,p∉locs a→snapG f' (h.set p b) a=snapG f h a
 | .own l n,hn=>by
  have e:=fill_at (h:=h) (b:=b) (p:=p) l (fun e=>hn (by simp [locs,e]))
  simp only [snapG,←e]
  cases hl:h[l]? with
  | none=>rfl
  | some k =>
   have hk:=hb l k hl
   cases k with
   | rows z rs wr =>
    have er:snapOf f' rs=snapOf f rs:=by
     unfold snapOf
     split
     ·rfl
     ·exact snapRows_fill rs fun row hrow=>hf row fun hx=>hk (locsR_row hrow p hx)
    simp only [er]
   | _=>rfl
 | .ptr l o,hn=>by
  have e:=fill_at (h:=h) (b:=b) (p:=p) l (fun e=>hn (by simp [locs,e]))
  simp only [snapG,←e]
  cases hl:h[l]? with
  | none=>rfl
  | some k =>
   have hk:=hb l k hl
   cases k with
   | cells cs=>simp only [hf cs hk]
   | _=>rfl
 | .optr l n i o,hn=>by
  have e:=fill_at (h:=h) (b:=b) (p:=p) l (fun e=>hn (by simp [locs,e]))
  simp only [snapG,←e]
  cases hl:h[l]? with
  | none=>rfl
  | some k =>
   have hk:=hb l k hl
   cases k with
   | rows z rs wr =>
    cases hr:rs[i]? with
    | none=>simp only [hr]
    | some row=>simp only [hr,hf row fun hx=>hk (locsR_row (List.mem_of_getElem? hr) p hx)]
   | _=>rfl
 | .agg cs,hn=>by simp only [snapG];rw [snapGL_fill hb hf cs hn]
 | .tup cs,hn=>by simp only [snapG];rw [snapGL_fill hb hf cs hn]
 | .fn _ cs,hn=>by simp only [snapG];rw [snapGL_fill hb hf cs hn]
 | .bnd _ cs,hn=>by simp only [snapG];rw [snapGL_fill hb hf cs hn]
 | .iface _ a,hn=>by simp only [snapG];rw [snapG_fill hb hf a hn]
 | .mp _,_=>rfl
 | .tptr _ _ _,_=>rfl
 | .town _ _ _,_=>rfl
 | .vw l n q m,hn=>by
  have e:=fill_at (h:=h) (b:=b) (p:=p) l (fun e=>hn (by simp [locs,e]))
  simp only [snapG,←e]
  cases hl:h[l]? with
  | none=>rfl
  | some k =>
   have hk:=hb l k hl
   cases k with
   | rows z rs wr =>
    have er:snapOf f' (cut rs q (q+m))=snapOf f (cut rs q (q+m)):=by
     unfold snapOf
     split
     ·rfl
     ·exact snapRows_fill _ fun row hrow=>hf row fun hx=>hk (locsR_row (by unfold cut at hrow;exact List.mem_of_mem_drop (List.mem_of_mem_take hrow)) p hx)
    simp only [er]
   | _=>rfl
 | .int _ _,_=>rfl
 | .bool _,_=>rfl
 | .str _,_=>rfl
 | .nilp,_=>rfl
 | .nilf,_=>rfl
 | .nili,_=>rfl
 | .nilm,_=>rfl
 | .nils,_=>rfl
 | .emp _,_=>rfl
 | .rows _,_=>rfl
 | .lit _,_=>rfl
 | .rptr _ _,_=>rfl
 | .any,_=>rfl
theorem snapGL_fill {f f':List AV→Option (List AV)} (hb:∀ (l:Nat) (k:Blk),h[l]? = some k→p∉locsB k) (hf:∀ cs:List AV,p∉locsL cs→f' cs=f cs):∀ l:List AV,p∉locsL l→snapGL f' (h.set p b) l=snapGL f h l
 | [],_=>rfl
 | a::r,hn=>by
  simp only [locsL,List.mem_append,not_or] at hn
  simp only [snapGL]
  rw [snapG_fill hb hf a hn.1,snapGL_fill hb hf r hn.2]
end
theorem snapN_fill (hb:∀ (l:Nat) (k:Blk),h[l]? = some k→p∉locsB k):∀ (n:Nat) (cs:List AV),p∉locsL cs→snapN n (h.set p b) cs=snapN n h cs
 | 0,_,_=>rfl
 | n+1,cs,hn=>by
  simp only [snapN]
  exact snapGL_fill hb (fun cs hn=>snapN_fill hb n cs hn) cs hn
theorem borrowed_fill (hp:p < h.length):∀ r:Option (AV×Heap),borrowed (h.set p b) r=setR p b (borrowed h r)
 | none=>rfl
 | some (r,nb)=>by
  unfold borrowed
  simp only
  split
  ·exact afterMany_fill hp (by simp) _ _
  ·rfl
theorem callBy_fill {F:Tk→Res} (hp:p < h.length) (hb:∀ (l:Nat) (k:Blk),h[l]? = some k→p∉locsB k) (bw:Nat) (hbw:bw≠2) (g:FuncId) (args:List AV) (ha:p∉locsL args) (o:Option (List AV)):callBy bw F g (h.set p b) args o=setR p b (callBy bw F g h args o):=by
 unfold callBy
 split
 ·exact afterPure_fill hp _
 ·have key:lookBy F g (h.set p b) (snapN 8 (h.set p b) args)=setR p b (lookBy F g h (snapN 8 h args)):=by
   rw [snapN_fill hb 8 args ha]
   unfold lookBy
   split
   ·exact borrowed_fill hp _
   ·rfl
  split
  ·exact key
  ·rename_i hb2
   exact absurd hb2 (bwOf_ne hbw)
  rw [←convL_local args (fill_all ha)]
  split
  ·rename_i args' hc
   have hn':p∉locsL args':=fun hx=>ha (convL_locs _ _ hc p hx)
   obtain ⟨h1,h2⟩:=reach_fill (b:=b) hb 100 (locsL args') [] hn' (by simp)
   rw [h1]
   unfold callIn
   split
   ·rw [sub_fill _ _ h2]
    split
    ·split
     ·exact afterIn_fill hp h2 _
     ·rfl
    ·rfl
   ·rfl
  ·rfl
theorem callV_fill {nl:FuncId→Bool×Nat} (hnl:∀ g,(nl g).2≠2) {F:Tk→Res} (hp:p < h.length) (hb:∀ (l:Nat) (k:Blk),h[l]? = some k→p∉locsB k) (args:List AV) (f:AV) (ha:p∉locsL args) (hf:p∉locs f):callV nl F (h.set p b) args f=setR p b (callV nl F h args f):=by
 cases f with
 | fn g caps =>
  have hn:p∉locsL (args++caps):=fun hx=>by
   rw [locsL_append] at hx
   exact hx.elim ha hf
  simp only [callV]
  rw [←purA_local (fill_all hn)]
  exact callBy_fill hp hb _ (hnl _) _ _ hn _
 | bnd g fs =>
  have hn:p∉locsL (fs++args):=fun hx=>by
   rw [locsL_append] at hx
   exact hx.elim hf ha
  simp only [callV]
  rw [←purA_local (fill_all hn)]
  exact callBy_fill hp hb _ (hnl _) _ _ hn _
 | _=>rfl
theorem callIn_fill {F:Tk→Res} {g:FuncId} {ls:List Nat} {args:List AV} (hp:p < h.length) (hn:p∉ls):callIn F g (h.set p b) ls args=setR p b (callIn F g h ls args):=by
 unfold callIn
 split
 ·rw [sub_fill _ _ hn]
  split
  ·split
   ·exact afterIn_fill hp hn _
   ·rfl
  ·rfl
 ·rfl
theorem stepW_fill {F:Tk→Res} {n:Nat} {ev:Operand→AV} (hp:p < h.length) (hn:n≤p) (o:Op):stepW F n ev (h.set p b) o=setR p b (stepW F n ev h o):=by
 have hr:p∉List.range n:=by simp;omega
 unfold stepW
 split
 ·split
  ·split
   ·exact callIn_fill hp hr
   ·rfl
  ·rfl
 ·rfl
theorem touches_fill (hb:∀ (l:Nat) (k:Blk),h[l]? = some k→p∉locsB k) (args:List AV) (f:AV) (ha:p∉locsL args) (hf:p∉locs f):touchesCall (h.set p b) args f=touchesCall h args f∧p∉touchesCall h args f:=by
 have one:∀ l:List AV,p∉locsL l→(match purifyL (h.set p b) l with
   | some _=>[]
   | none=>match convL (h.set p b) l with
    | some l=>reach (h.set p b) 100 (locsL l) []
    | none=>[])=(match purifyL h l with
   | some _=>[]
   | none=>match convL h l with
    | some l=>reach h 100 (locsL l) []
    | none=>[])∧p∉(match purifyL h l with
   | some _=>[]
   | none=>match convL h l with
    | some l=>reach h 100 (locsL l) []
    | none=>[]):=fun l hn=>by
  rw [←purifyL_local l (fill_all hn),←convL_local l (fill_all hn)]
  split
  ·simp
  ·split
   ·rename_i l' hc
    exact reach_fill hb 100 _ [] (fun hx=>hn (convL_locs _ _ hc p hx)) (by simp)
   ·simp
 cases f with
 | fn g caps=>exact one _ (fun hx=>((locsL_append _ _ _).1 hx).elim ha hf)
 | bnd g fs=>exact one _ (fun hx=>((locsL_append _ _ _).1 hx).elim hf ha)
 | _=>exact ⟨rfl,by simp [touchesCall]⟩
theorem chg_fill {h':Heap}:∀ T:List Nat,p∉T→chg (h.set p b) (h'.set p b) T=chg h h' T
 | [],_=>rfl
 | l::T,hn=>by
  simp only [List.mem_cons,not_or] at hn
  have e:¬p=l:=hn.1
  simp only [chg]
  rw [List.getElem?_set_ne e,List.getElem?_set_ne e,chg_fill T hn.2]
end
section
variable {C:Cfg} {F:Tk→Res} {dy:List (Nat×Nat)} {pl:Nat→Nat} {ops:Array Oper} {i:Nat} {o:Oper} {g:Nat→AV} {h:Heap} {p:Nat} {b:Blk}
theorem stepI_fill (ho:ops[i]? = some o) (hm:memC o.op=true) (hq:isQ dy i o.op=false) (hp0:pl 0≤p) (hp:p < h.length) (hb:∀ (l:Nat) (k:Blk),h[l]? = some k→p∉locsB k) (hg:∀ s,p∉locs (g s)) :
  stepI C F dy pl ops i g (h.set p b)=(match stepI C F dy pl ops i g h with
   | some (x,h',T)=>some (x,h'.set p b,T)
   | none=>none)∧∀ x h' T,stepI C F dy pl ops i g h=some (x,h',T)→h'[p]? = h[p]? := by
 have he:∀ y,p∉locs (evF g y):=fun y=>by
  cases y with
  | tmp t=>exact hg t
  | const v=>rw [show evF g (.const v)=ofVal v from rfl,ofVal_locs];simp
  | func f=>simp [evF,locs,locsL]
  | global _=>simp [evF,locs]
 have hes:∀ l:List Operand,p∉locsL (evs (evF g) l):=fun l hx=>by
  obtain ⟨y,_,h2⟩:=locsL_evs _ _ _ hx
  exact he y h2
 unfold memC at hm
 cases hop:o.op with
 | call c =>
  rw [hop] at hm hq
  cases hc:c.callee with
  | value f =>
   have hal:alo (Op.call c)=false:=rfl
   by_cases hw:isWd dy i (.call c)=true
   ·have key:∀ h:Heap,stepQ C F dy pl i (evF g) h (.call c)=stepW F (pl 0) (evF g) h (.call c):=fun h=>by
     simp only [stepQ,hq,hal,hw,Bool.false_eq_true,if_false,if_true]
    have tkey:∀ h:Heap,touchesQ (pl 0) dy i (evF g) h (.call c)=List.range (pl 0):=fun h=>by
     simp only [touchesQ,hq,hal,hw,Bool.false_eq_true,if_false,if_true]
    have t2:p∉List.range (pl 0):=by simp;omega
    have hfill:=stepW_fill (F:=F) (ev:=evF g) (b:=b) hp hp0 (.call c)
    refine ⟨?_,?_⟩
    ·unfold stepI
     simp only [ho,hop,key,tkey,hfill]
     cases guardF ops g o with
     | none=>rfl
     | some d =>
      cases d with
      | false=>rfl
      | true =>
       cases hv:stepW F (pl 0) (evF g) h (.call c) with
       | none=>rfl
       | some q =>
        obtain ⟨x,h'⟩:=q
        simp only [setR]
        rw [chg_fill _ t2]
    ·intro x h' T e
     unfold stepI at e
     simp only [ho,hop,key,tkey] at e
     split at e
     ·split at e
      ·rename_i hv
       simp only [Option.some.injEq,Prod.mk.injEq] at e
       obtain ⟨rfl,rfl,_⟩:=e
       exact (stepW_away _ hv).2 p hp t2
      ·simp at e
     ·simp only [Option.some.injEq,Prod.mk.injEq] at e
      obtain ⟨_,rfl,_⟩:=e
      rfl
     ·simp at e
   have hw:isWd dy i (.call c)=false:=by simpa using hw
   obtain ⟨t1,t2⟩:=touches_fill (b:=b) hb (evs (evF g) c.args.toList) (evF g f) (hes _) (he _)
   have key:∀ h:Heap,stepQ C F dy pl i (evF g) h (.call c)=callV C.shut.nlA F h (evs (evF g) c.args.toList) (evF g f):=fun h=>by
    simp only [stepQ,hq,hal,hw,Bool.false_eq_true,if_false,stepO,callOp,hc]
   have tkey:∀ h:Heap,touchesQ (pl 0) dy i (evF g) h (.call c)=touchesCall h (evs (evF g) c.args.toList) (evF g f):=fun h=>by
    simp only [touchesQ,hq,hal,hw,Bool.false_eq_true,if_false,touches,hc]
   have hfill:=callV_fill (nl:=C.shut.nlA) (shut_no C) (F:=F) (b:=b) hp hb (evs (evF g) c.args.toList) (evF g f) (hes _) (he _)
   refine ⟨?_,?_⟩
   ·unfold stepI
    simp only [ho,hop,key,tkey,hfill,t1]
    cases guardF ops g o with
    | none=>rfl
    | some d =>
     cases d with
     | false=>rfl
     | true =>
      cases hv:callV C.shut.nlA F h (evs (evF g) c.args.toList) (evF g f) with
      | none=>rfl
      | some q =>
       obtain ⟨x,h'⟩:=q
       simp only [setR]
       rw [chg_fill _ t2]
   ·intro x h' T e
    unfold stepI at e
    simp only [ho,hop,key,tkey] at e
    split at e
    ·split at e
     ·rename_i hv
      simp only [Option.some.injEq,Prod.mk.injEq] at e
      obtain ⟨rfl,rfl,_⟩:=e
      have:=stepO_away (C:=C.shut) (shut_no C) (F:=F) (ev:=evF g) (h:=h) (.call c) (by simpa only [stepO,callOp,hc] using hv)
      refine this.2 p hp ?_
      simpa only [touches,hc] using t2
     ·simp at e
    ·simp only [Option.some.injEq,Prod.mk.injEq] at e
     obtain ⟨_,rfl,_⟩:=e
     rfl
    ·simp at e
  | _=>simp [hc] at hm
 | _=>simp [hop] at hm
end
theorem less_total:∀ a b:List UInt8,a≠b→Op.bytesLess a b=!Op.bytesLess b a
 | [],[],h=>absurd rfl h
 | [],_::_,_=>rfl
 | _::_,[],_=>rfl
 | x::a,y::b,h=>by
  simp only [Op.bytesLess]
  by_cases hxy:x=y
  ·subst hxy
   have:=less_total a b fun e=>h (by rw [e])
   simp [this]
  ·have h1:(x==y)=false:=by simpa using hxy
   have h2:(y==x)=false:=by simpa using fun e:y=x=>hxy e.symm
   simp only [h1,h2,Bool.false_and,Bool.or_false]
   rcases UInt8.lt_or_lt_of_ne hxy with h3 | h3
   ·have:¬y < x:=fun h4=>absurd (UInt8.lt_trans h3 h4) (UInt8.lt_irrefl _)
    simp [h3,this]
   ·have:¬x < y:=fun h4=>absurd (UInt8.lt_trans h3 h4) (UInt8.lt_irrefl _)
    simp [h3,this]
theorem less_trans:∀ a b c:List UInt8,Op.bytesLess a b=true→Op.bytesLess b c=true→Op.bytesLess a c=true
 | _,_,[],_,h=>by simp [Op.bytesLess] at h
 | _,[],_::_,h,_=>by simp [Op.bytesLess] at h
 | [],_::_,_::_,_,_=>rfl
 | x::a,y::b,z::c,h,h'=>by
  simp only [Op.bytesLess,Bool.or_eq_true,Bool.and_eq_true,decide_eq_true_eq,beq_iff_eq] at h h' ⊢
  rcases h with h | ⟨rfl,h⟩
  ·rcases h' with h' | ⟨rfl,_⟩
   ·exact .inl (UInt8.lt_trans h h')
   ·exact .inl h
  ·rcases h' with h' | ⟨rfl,h'⟩
   ·exact .inl h'
   ·exact .inr ⟨rfl,less_trans a b c h h'⟩
theorem ltKey_trans {a b:List UInt8} {c:AV} (h:Op.bytesLess a b=true) (h':ltKey (.str b) c=true):ltKey (.str a) c=true:=by
 cases c<;>simp only [ltKey] at h' ⊢<;>first | exact less_trans _ _ _ h h' | exact h'
theorem insA_comm {a b:List UInt8} (hab:a≠b) (v u:AV):∀ es:List (AV×AV),insA (.str a) v (insA (.str b) u es)=insA (.str b) u (insA (.str a) v es)
 | []=>by
  have h:=less_total a b hab
  simp only [insA,ltKey]
  by_cases hb:Op.bytesLess b a=true
  ·rw [hb] at h;simp [h,hb]
  ·rw [Bool.not_eq_true] at hb;rw [hb] at h;simp [h,hb]
 | e::r=>by
  have h:=less_total a b hab
  have ih:=insA_comm hab v u r
  cases hA:ltKey (.str a) e.1 with
  | true =>
   cases hB:ltKey (.str b) e.1 with
   | true =>
    simp only [insA,hA,hB,if_true]
    have e1:ltKey (.str a) (.str b)=Op.bytesLess a b:=rfl
    have e2:ltKey (.str b) (.str a)=Op.bytesLess b a:=rfl
    cases hb:Op.bytesLess b a<;>rw [hb] at h<;>simp [e1,e2,h,hb,hA,hB]
   | false =>
    have hba:Op.bytesLess b a=false:=by
     cases hb:Op.bytesLess b a with
     | false=>rfl
     | true=>rw [ltKey_trans hb hA] at hB;cases hB
    have e2:ltKey (.str b) (.str a)=false:=hba
    simp [insA,hA,hB,e2]
  | false =>
   cases hB:ltKey (.str b) e.1 with
   | true =>
    have hab':Op.bytesLess a b=false:=by
     cases hb:Op.bytesLess a b with
     | false=>rfl
     | true=>rw [ltKey_trans hb hB] at hA;cases hA
    have e1:ltKey (.str a) (.str b)=false:=hab'
    simp [insA,hA,hB,e1]
   | false=>simp [insA,hA,hB,ih]
theorem findA_ins {kk:KK} {k k' u:AV}:∀ (es:List (AV×AV)) (n:Nat),findA kk k (insA k' u es) n=some none↔(keyEq kk k k'=some false∧findA kk k es n=some none)
 | [],n=>by
  simp only [insA,findA]
  cases keyEq kk k k' with
  | none=>simp
  | some q=>cases q<;>simp
 | (c,x)::r,n=>by
  simp only [insA]
  split
  ·simp only [findA]
   cases hq:keyEq kk k k' with
   | none=>simp
   | some q =>
    cases q with
    | true=>simp
    | false =>
     simp only [true_and]
     cases keyEq kk k c with
     | none=>simp
     | some q=>cases q<;>simp [findA_none r (n+1+1) (n+1)]
  ·simp only [findA]
   cases hq:keyEq kk k c with
   | none=>simp
   | some q =>
    cases q with
    | true=>simp
    | false=>simp only;exact findA_ins r (n+1)
where
 findA_none {kk:KK} {k:AV}:∀ (es:List (AV×AV)) (n m:Nat),findA kk k es n=some none↔findA kk k es m=some none
  | [],_,_=>by simp [findA]
  | (c,x)::r,n,m=>by
   simp only [findA]
   cases keyEq kk k c with
   | none=>simp
   | some q =>
    cases q with
    | true=>simp
    | false=>exact findA_none r (n+1) (m+1)
theorem insA_len (k v:AV):∀ es:List (AV×AV),(insA k v es).length=es.length+1
 | []=>rfl
 | p::r=>by
  simp only [insA]
  split
  ·rfl
  ·simp [insA_len k v r]
theorem mapNew_spec {P:Program} {t:TypeId} {h h':Heap} {l:Nat} {k v:AV}:mapNew P t h (.mp l) k v=some h'↔∃ kk e es v',kkOf P t=some (kk,e)∧h[l]? = some (.map es)∧keyOk kk k=true∧purify h v=some v'∧findA kk k es 0=some none∧h'=h.set l (.map (insA k v' es)):=by
 constructor
 ·intro e
  obtain ⟨h1,h2⟩:=mapNew_set e
  unfold noKey at h1
  simp only at h1
  split at h1
  ·rename_i kk el es hk hl
   split at h1
   ·rename_i hf
    simp only [mapSet,hk,hl,hf] at h2
    split at h2
    ·rename_i ho
     cases hv:purify h v with
     | none=>simp [hv] at h2
     | some v' =>
      simp only [hv,mapPut,Option.some.injEq] at h2
      exact ⟨kk,el,es,v',hk,hl,ho,rfl,hf,h2.symm⟩
    ·simp at h2
   ·simp at h1
  ·simp at h1
 ·rintro ⟨kk,e,es,v',h1,h2,h3,h4,h5,rfl⟩
  simp [mapNew,noKey,mapSet,h1,h2,h3,h4,h5,mapPut]
mutual
/-- What may be kept of a value hangs on the slices that nothing writes. -/
theorem purify_inv {h h':Heap} (H:∀ l n,purify h' (.own l n)=purify h (.own l n)):∀ a:AV,purify h' a=purify h a
 | .own l n=>H l n
 | .agg cs=>by simp only [purify,purifyL_inv H cs]
 | .tup cs=>by simp only [purify,purifyL_inv H cs]
 | .fn _ cs=>by simp only [purify,purifyL_inv H cs]
 | .bnd _ cs=>by simp only [purify,purifyL_inv H cs]
 | .iface _ a=>by simp only [purify,purify_inv H a]
 | .nils=>rfl
 | .lit _=>rfl
 | .ptr _ _=>rfl
 | .optr _ _ _ _=>rfl
 | .mp _=>rfl
 | .tptr _ _ _=>rfl
 | .town _ _ _=>rfl
 | .vw _ _ _ _=>rfl
 | .int _ _=>rfl
 | .bool _=>rfl
 | .str _=>rfl
 | .nilp=>rfl
 | .nilf=>rfl
 | .nili=>rfl
 | .emp _=>rfl
 | .nilm=>rfl
 | .rows _=>rfl
 | .rptr _ _=>rfl
 | .any=>rfl
theorem purifyL_inv {h h':Heap} (H:∀ l n,purify h' (.own l n)=purify h (.own l n)):∀ l:List AV,purifyL h' l=purifyL h l
 | []=>rfl
 | a::r=>by simp only [purifyL,purify_inv H a,purifyL_inv H r]
end
theorem aStore_spec {P:Program} {t:TypeId} {p v:AV} {h h1:Heap} (e:aStore P t p v h=some h1):∃ l b,locs p=[l]∧l < h.length∧h1=h.set l b∧(∀ v',keptA h1 v'=keptA h v') ∧
  ∀ h2:Heap,h2[l]? = h[l]? → (∀ v',keptA h2 v'=keptA h v')→aStore P t p v h2=some (h2.set l b):=by
 have kept:∀ {h1:Heap},(∀ l n,purify h1 (.own l n)=purify h (.own l n))→∀ v',keptA h1 v'=keptA h v':=fun H v'=>by
  unfold keptA
  rw [purify_inv H v']
 unfold aStore at e
 split at e
 ·rename_i l o
  split at e
  ·rename_i cs hl
   have hlt:=(List.getElem?_eq_some_iff.1 hl).1
   split at e
   ·rename_i vs hvs
    split at e
    ·rename_i hc
     simp only [Option.some.injEq] at e
     subst e
     refine ⟨l,_,rfl,hlt,rfl,kept fun l2 n2=>?_,fun h2 e2 _=>?_⟩
     ·by_cases hll:l=l2
      ·subst hll
       simp only [purify,List.getElem?_set_self hlt,hl]
      ·simp only [purify,List.getElem?_set_ne hll]
     ·simp only [aStore,e2,hl,hvs,if_pos hc]
    ·simp at e
   ·simp at e
  ·simp at e
 ·rename_i l n i o
  split at e
  ·rename_i sz rs hl
   have hlt:=(List.getElem?_eq_some_iff.1 hl).1
   split at e
   ·rename_i vs hvs
    split at e
    ·rename_i hn
     split at e
     ·rename_i row hrow
      split at e
      ·rename_i hc
       simp only [Option.some.injEq] at e
       subst e
       refine ⟨l,_,rfl,hlt,rfl,kept fun l2 n2=>?_,fun h2 e2 hk=>?_⟩
       ·by_cases hll:l=l2
        ·subst hll
         simp only [purify,List.getElem?_set_self hlt,hl,Bool.true_eq_false,false_and,and_false,if_false]
        ·simp only [purify,List.getElem?_set_ne hll]
       ·simp only [aStore,e2,hl,hk,hvs,if_pos hn,hrow,if_pos hc]
      ·simp at e
     ·simp at e
    ·simp at e
   ·simp at e
  ·simp at e
 ·simp at e
def stPair (oi oj:Oper):Option (Nat×Nat) :=
 match oi,oj with
 | ⟨_,.store _ (.tmp a) _,_,_,_,none⟩,⟨_,.store _ (.tmp b) _,_,_,_,none⟩=>some (a,b)
 | _,_=>none
def insPair (oi oj:Oper):Bool :=
 match oi,oj with
 | ⟨_,.insert t (.tmp m) (.const (.string k)) _,_,_,_,none⟩,⟨_,.insert t' (.tmp m') (.const (.string k')) _,_,_,_,none⟩=>decide (t=t')&&(decide (m=m')&&!(k.data.toList==k'.data.toList))
 | _,_=>false
section
variable {C:Cfg} {F:Tk→Res} {dy:List (Nat×Nat)} {pl:Nat→Nat} {ops:Array Oper} {i j:Nat} {oi oj:Oper} {g:Nat→AV} {h h' h'':Heap} {x y:AV} {T T':List Nat}
theorem chg_map {l:Nat} {k v:AV} {es:List (AV×AV)} (hl:h[l]? = some (.map es)):chg h (h.set l (.map (insA k v es))) [l]=[l]:=by
 have hlt:=(List.getElem?_eq_some_iff.1 hl).1
 simp only [chg,hl,List.getElem?_set_self hlt]
 have:¬eqB (some (.map es)) (some (.map (insA k v es)))=true:=fun e=>by
  have:=eqB_ok e
  simp only [Option.some.injEq,Blk.map.injEq] at this
  have:=congrArg List.length this
  rw [insA_len] at this
  omega
 rw [if_neg this]
theorem stepI_ins {t:TypeId} {m:Nat} {k:Value} {u:Operand} (ho:ops[i]? = some oi) (hop:oi.op=.insert t (.tmp m) (.const k) u) (hg:oi.guard=none) :
  stepI C F dy pl ops i g h=some (x,h',T)↔∃ l kk e es v',g m=.mp l∧kkOf C.P t=some (kk,e)∧h[l]? = some (.map es)∧keyOk kk (ofVal k)=true∧purify h (evF g u)=some v'∧findA kk (ofVal k) es 0=some none∧h'=h.set l (.map (insA (ofVal k) v' es))∧x=.any∧T=[l]:=by
 have hq:isQ dy i (.insert t (.tmp m) (.const k) u)=false:=rfl
 have hal:alo (.insert t (.tmp m) (.const k) u)=false:=rfl
 have e1:stepI C F dy pl ops i g h=(match vunit (mapNew C.P t h (g m) (ofVal k) (evF g u)) with
   | some (x,h')=>some (x,h',chg h h' (locs (g m)))
   | none=>none):=by
  unfold stepI
  have hwd:isWd dy i (.insert t (.tmp m) (.const k) u)=false:=rfl
  simp only [ho,hop,guardF,hg,stepQ,touchesQ,hq,hal,hwd,Bool.false_eq_true,if_false,stepO,touches]
  rfl
 rw [e1]
 constructor
 ·intro e
  cases hs:mapNew C.P t h (g m) (ofVal k) (evF g u) with
  | none=>simp [hs,vunit] at e
  | some h1 =>
   simp only [hs,vunit,Option.some.injEq,Prod.mk.injEq] at e
   obtain ⟨rfl,rfl,rfl⟩:=e
   have:∃ l,g m=.mp l:=by
    have:=(mapNew_set hs).1
    unfold noKey at this
    split at this
    ·exact ⟨_,by assumption⟩
    ·simp at this
   obtain ⟨l,hl⟩:=this
   rw [hl] at hs ⊢
   obtain ⟨kk,el,es,v',h1,h2,h3,h4,h5,rfl⟩:=mapNew_spec.1 hs
   exact ⟨l,kk,el,es,v',rfl,h1,h2,h3,h4,h5,rfl,rfl,by simp only [locs];exact chg_map h2⟩
 ·rintro ⟨l,kk,el,es,v',hl,h1,h2,h3,h4,h5,rfl,rfl,rfl⟩
  rw [hl,mapNew_spec.2 ⟨kk,el,es,v',h1,h2,h3,h4,h5,rfl⟩]
  simp only [vunit,locs]
  rw [chg_map h2]
theorem stepI_sto {t:TypeId} {p:Nat} {u:Operand} (ho:ops[i]? = some oi) (hop:oi.op=.store t (.tmp p) u) (hg:oi.guard=none) :
  stepI C F dy pl ops i g h=some (x,h',T)↔aStore C.P t (g p) (evF g u) h=some h'∧x=.any∧T=chg h h' (locs (g p)):=by
 have hq:isQ dy i (.store t (.tmp p) u)=false:=rfl
 have hal:alo (.store t (.tmp p) u)=false:=rfl
 have e1:stepI C F dy pl ops i g h=(match vunit (aStore C.P t (g p) (evF g u) h) with
   | some (x,h')=>some (x,h',chg h h' (locs (g p)))
   | none=>none):=by
  unfold stepI
  have hwd:isWd dy i (.store t (.tmp p) u)=false:=rfl
  simp only [ho,hop,guardF,hg,stepQ,touchesQ,hq,hal,hwd,Bool.false_eq_true,if_false,stepO,touches]
  rfl
 rw [e1]
 constructor
 ·intro e
  cases hs:aStore C.P t (g p) (evF g u) h with
  | none=>simp [hs,vunit] at e
  | some h1 =>
   simp only [hs,vunit,Option.some.injEq,Prod.mk.injEq] at e
   obtain ⟨rfl,rfl,rfl⟩:=e
   exact ⟨rfl,rfl,rfl⟩
 ·rintro ⟨h1,rfl,rfl⟩
  rw [h1]
  rfl
theorem sto_diamond {p q:Nat} (ho:ops[i]? = some oi) (ho':ops[j]? = some oj) (hp:stPair oi oj=some (p,q))
  (h1:stepI C F dy pl ops i g h=some (x,h',T)) (h2:stepI C F dy pl ops j g h'=some (y,h'',T'))
  (ci:∀ l,l∈locs (g q)→l∉T) (cj:∀ l,l∈locs (g p)→l∉T') :
  ∃ h2,stepI C F dy pl ops j g h=some (y,h2,T')∧stepI C F dy pl ops i g h2=some (x,h'',T):=by
 unfold stPair at hp
 split at hp
 ·simp only [Option.some.injEq,Prod.mk.injEq] at hp
  obtain ⟨rfl,rfl⟩:=hp
  obtain ⟨a1,rfl,rfl⟩:=(stepI_sto ho rfl rfl).1 h1
  obtain ⟨b1,rfl,rfl⟩:=(stepI_sto ho' rfl rfl).1 h2
  obtain ⟨l,b,a2,a3,rfl,a5,a6⟩:=aStore_spec a1
  obtain ⟨l2,b2,c2,c3,rfl,c5,c6⟩:=aStore_spec b1
  rw [a2] at cj ⊢
  rw [c2] at ci ⊢
  by_cases hll:l=l2
  ·subst hll
   have s1:eqB h[l]? (h.set l b)[l]? = true:=by
    have:=ci l (by simp)
    rw [a2] at this
    by_cases he:eqB h[l]? (h.set l b)[l]? = true
    ·exact he
    ·simp only [chg,if_neg he] at this
     exact absurd (List.mem_singleton.2 rfl) this
   have s2:eqB (h.set l b)[l]? ((h.set l b).set l b2)[l]? = true:=by
    have:=cj l (by simp)
    rw [c2] at this
    by_cases he:eqB (h.set l b)[l]? ((h.set l b).set l b2)[l]? = true
    ·exact he
    ·simp only [chg,if_neg he] at this
     exact absurd (List.mem_singleton.2 rfl) this
   have e1:h.set l b=h:=by
    have:=eqB_ok s1
    rw [List.getElem?_set_self a3] at this
    exact list_set_same this
   rw [e1] at s2 h2 b1 ⊢
   have e2:h.set l b2=h:=by
    have:=eqB_ok s2
    rw [List.getElem?_set_self a3] at this
    exact list_set_same this
   rw [e2] at h2 b1 ⊢
   rw [e1] at h1 a1
   refine ⟨h,?_,?_⟩
   ·exact (stepI_sto ho' rfl rfl).2 ⟨b1,rfl,by rw [c2]⟩
   ·exact (stepI_sto ho rfl rfl).2 ⟨a1,rfl,by rw [a2]⟩
  ·refine ⟨h.set l2 b2,(stepI_sto ho' rfl rfl).2 ⟨c6 h (by rw [List.getElem?_set_ne hll]) (fun v'=>(a5 v').symm),rfl,?_⟩,(stepI_sto ho rfl rfl).2 ⟨?_,rfl,?_⟩⟩
   ·rw [c2]
    simp only [chg,List.getElem?_set_ne hll]
    have hlt2:l2 < h.length:=by simpa using c3
    rw [List.getElem?_set_self c3,List.getElem?_set_self hlt2]
   ·rw [List.set_comm _ _ hll]
    have hk:∀ v',keptA (h.set l2 b2) v'=keptA h v':=fun v'=>by
     have:=(aStore_spec (c6 h (by rw [List.getElem?_set_ne hll]) (fun v'=>(a5 v').symm)))
     obtain ⟨l3,b3,d2,d3,d4,d5,_⟩:=this
     exact d5 v'
    exact a6 _ (by rw [List.getElem?_set_ne (fun e=>hll e.symm)]) hk
   ·rw [a2]
    have hlt2:l2 < h.length:=by simpa using c3
    rw [List.set_comm _ _ hll]
    simp only [chg]
    rw [List.getElem?_set_ne (fun e=>hll e.symm),List.getElem?_set_self a3,List.getElem?_set_self (by simpa using a3)]
 ·simp at hp
theorem ins_diamond (ho:ops[i]? = some oi) (ho':ops[j]? = some oj) (hp:insPair oi oj=true)
  (h1:stepI C F dy pl ops i g h=some (x,h',T)) (h2:stepI C F dy pl ops j g h'=some (y,h'',T'))
  (ci:∀ s,s∈readsT oj.op→∀ l,l∈locs (g s)→l∉T) (cj:∀ s,s∈readsT oi.op→∀ l,l∈locs (g s)→l∉T') :
  ∃ h2,stepI C F dy pl ops j g h=some (y,h2,T')∧stepI C F dy pl ops i g h2=some (x,h'',T):=by
 unfold insPair at hp
 split at hp
 ·rename_i d1 t m k u t1 p1 ed1 d2 t' m' k' u' t2 p2 ed2
  simp only [Bool.and_eq_true,decide_eq_true_eq,Bool.not_eq_true',beq_eq_false_iff_ne] at hp
  obtain ⟨rfl,rfl,hk⟩:=hp
  have ok1:ofVal (.string k)=.str k.data.toList:=rfl
  have ok2:ofVal (.string k')=.str k'.data.toList:=rfl
  obtain ⟨l,kk,e,es,v,a1,a2,a3,a4,a5,a6,rfl,rfl,rfl⟩:=(stepI_ins ho rfl rfl).1 h1
  obtain ⟨l2,kk2,e2,es2,v2,b1,b2,b3,b4,b5,b6,rfl,rfl,rfl⟩:=(stepI_ins ho' rfl rfl).1 h2
  rw [a1] at b1
  obtain rfl:l=l2:=by simpa using b1
  rw [a2] at b2
  simp only [Option.some.injEq,Prod.mk.injEq] at b2
  obtain ⟨rfl,rfl⟩:=b2
  have hlt:=(List.getElem?_eq_some_iff.1 a3).1
  rw [List.getElem?_set_self hlt] at b3
  simp only [Option.some.injEq,Blk.map.injEq] at b3
  subst b3
  obtain ⟨c1,c2⟩:=(findA_ins _ _).1 b6
  have loc:∀ {w:Operand} {bl:Blk},(∀ s,w=.tmp s→∀ l',l'∈locs (g s)→l'∉[l])→purify (h.set l bl) (evF g w)=purify h (evF g w):=fun {w bl} hw=>by
   refine (purify_local _ fun l' hl'=>?_).symm
   refine fill_at l' fun e=>?_
   subst e
   cases w with
   | tmp s=>exact hw s rfl l' hl' (by simp)
   | const q=>rw [show evF g (.const q)=ofVal q from rfl,ofVal_locs] at hl';simp at hl'
   | func f=>simp [evF,locs,locsL] at hl'
   | global _=>simp [evF,locs] at hl'
  have p2':purify h (evF g u')=some v2:=by
   rw [←b5]
   exact (loc fun s hs=>ci s (by rw [hs];simp [readsT,readsO])).symm
  have c0:keyEq kk (ofVal (.string k)) (ofVal (.string k'))=some false:=by
   rw [ok1,ok2] at c1 ⊢
   cases kk<;>simp only [keyEq] at c1 ⊢<;>first | (simp at c1) | skip
   all_goals (simp only [Option.some.injEq,beq_eq_false_iff_ne];exact hk)
  refine ⟨h.set l (.map (insA (ofVal (.string k')) v2 es)),(stepI_ins ho' rfl rfl).2 ⟨l,kk,e,es,v2,a1,a2,a3,b4,p2',c2,rfl,rfl,rfl⟩,
   (stepI_ins ho rfl rfl).2 ⟨l,kk,e,insA (ofVal (.string k')) v2 es,v,a1,a2,by rw [List.getElem?_set_self hlt],a4,?_,(findA_ins _ _).2 ⟨c0,a6⟩,?_,rfl,rfl⟩⟩
  ·rw [←a5]
   exact loc fun s hs=>cj s (by rw [hs];simp [readsT,readsO])
  ·rw [List.set_set,List.set_set,ok1,ok2,insA_comm hk]
 ·simp at hp
end
section
variable {Bs:World→Prop}
variable {P:Program} {μ μ' μ0:Mp Bs} {h h' h0:Heap} {w w' w0:World}
theorem Ext.length_le (e:Ext μ h w μ' h' w'):h.length≤h'.length:=e.len
mutual
theorem ren_id:∀ a:AV,ren (fun l=>l) a=a
 | .agg cs=>by simp only [ren,renL_id cs]
 | .tup cs=>by simp only [ren,renL_id cs]
 | .fn _ cs=>by simp only [ren,renL_id cs]
 | .bnd _ cs=>by simp only [ren,renL_id cs]
 | .iface _ a=>by simp only [ren,ren_id a]
 | .ptr _ _=>rfl
 | .own _ _=>rfl
 | .optr _ _ _ _=>rfl
 | .mp _=>rfl
 | .tptr _ _ _=>rfl
 | .town _ _ _=>rfl
 | .vw _ _ _ _=>rfl
 | .int _ _=>rfl
 | .bool _=>rfl
 | .str _=>rfl
 | .nilp=>rfl
 | .nilf=>rfl
 | .nili=>rfl
 | .emp _=>rfl
 | .nilm=>rfl
 | .nils=>rfl
 | .rows _=>rfl
 | .lit _=>rfl
 | .rptr _ _=>rfl
 | .any=>rfl
theorem renL_id:∀ l:List AV,renL (fun l=>l) l=l
 | []=>rfl
 | a::r=>by simp only [renL,ren_id a,renL_id r]
end
theorem renR_id:∀ rs:List (List AV),renR (fun l=>l) rs=rs
 | []=>rfl
 | r::rs=>by simp only [renR,renL_id r,renR_id rs]
theorem RowsN.each {μ':Mp Bs} {h':Heap} {w':World} {z:Nat} {rs:List (List AV)} {vs:Array Value} (F:∀ (a:AV) (v:Value),(∀ i,i∈locs a→i∈locsR rs)→Rep μ h w a v→Rep μ' h' w' a v) (r:RowsN μ h w z rs vs):RowsN μ' h' w' z rs vs:=by
 intro i row hrow
 obtain ⟨h1,h2,h3⟩:=r i row hrow
 refine ⟨h1,h2,fun c a ha=>?_⟩
 obtain ⟨v,h4,h5⟩:=h3 c a ha
 exact ⟨v,h4,F a v (fun i hi=>locsR_in (List.mem_of_getElem? hrow) (locsL_in (List.mem_of_getElem? ha) hi)) h5⟩
theorem renB_id (b:Blk):renB (fun l=>l) b=b:=by
 cases b with
 | cells cs=>simp only [renB,renL_id]
 | rows z rs wr=>simp only [renB,renR_id]
 | hole=>rfl
 | map es=>rfl
theorem take_at {n l:Nat} (hl:l < n):(h.take n)[l]? = h[l]? := by rw [List.getElem?_take,if_pos hl]
theorem take_some {n l:Nat} {k:Blk} (e:(h.take n)[l]? = some k):l < n∧h[l]? = some k:=by
 rw [List.getElem?_take] at e
 split at e
 ·rename_i hl;exact ⟨hl,e⟩
 ·simp at e
theorem cut_mut {n b o:Nat} (hm:Mut μ (h.take n) b o):Mut μ h b o:=by
 rcases hm with ho | ⟨l,k,hl,hm,ho⟩
 ·exact .inl ho
 ·exact .inr ⟨l,k,(take_some hl).2,hm,ho⟩
theorem cut_keeps {n:Nat}:Keeps (Mut μ h) w (Mut μ (h.take n)) w:=fun _ _ _ hc hm=>⟨hc,fun hx=>hm (cut_mut hx)⟩
theorem cut_at {n l:Nat} (hl:l < n):KeepsAt μ h μ (h.take n) (fun l=>l) l:=fun k hk=>⟨by rw [renB_id];show (h.take n)[l]? = some k;rw [take_at hl];exact hk,rfl⟩
theorem Rep.cut {n:Nat} {a:AV} {v:Value} (hn:∀ l,l∈locs a→l < n) (r:Rep μ h w a v):Rep μ (h.take n) w a v:=by
 have:=Rep.ren (μ':=μ) (h':=h.take n) (σ:=fun l=>l) (fun b o hx=>cut_mut hx) a v (fun l hl=>cut_at (hn l hl)) r
 rwa [ren_id] at this
theorem RepL.cut {n:Nat} {a:List AV} {v:List Value} (hn:∀ l,l∈locsL a→l < n) (r:RepL μ h w a v):RepL μ (h.take n) w a v:=by
 have:=RepL.ren (μ':=μ) (h':=h.take n) (σ:=fun l=>l) (fun b o hx=>cut_mut hx) a v (fun l hl=>cut_at (hn l hl)) r
 rwa [renL_id] at this
theorem Rel.cut {n:Nat} (hr:Rel μ h w) (hu:under n (locsH (h.take n))=true):Rel μ (h.take n) w where
 inj:=fun l l' b hl hl'=>hr.inj l l' b (by simp at hl;omega) (by simp at hl';omega)
 blk:=fun l k hl=>by
  obtain ⟨hlt,hl'⟩:=take_some hl
  have:=hr.blk l k hl'
  cases k with
  | cells cs =>
   obtain ⟨b,vs,T,h1,h2,h3,h4⟩:=this
   exact ⟨b,vs,T,h1,h2,h3,RepL.cut (fun i hi=>under_mem hu i (locsH_at hl i hi)) h4⟩
  | rows z rs wr =>
   rcases this with h1 | ⟨b,vs,T,h1,h2,h3,h4⟩
   ·exact .inl h1
   ·exact .inr ⟨b,vs,T,h1,h2,h3,h4.each fun a v hi r=>Rep.cut (fun i hx=>under_mem hu i (locsH_at hl i (hi i hx))) r⟩
  | hole=>exact this
  | map es =>
   obtain ⟨b,ms,c,h1,h2,h3⟩:=this
   exact ⟨b,ms,c,h1,h2,h3.keep cut_keeps⟩
 apart:=fun l b o hl=>hr.apart l b o (by simp at hl;omega)
 old:=hr.old
 still:=fun b hb=>⟨(hr.still b hb).1,fun l hl=>(hr.still b hb).2 l (by simp at hl;omega)⟩
 base:=hr.base
theorem Ext.cut {n:Nat} (e:Ext μ0 h0 w0 μ h w) (hn:h0.length≤n):Ext μ0 h0 w0 μ (h.take n) w where
 out:=e.out
 still:=e.still
 os:=e.os
 tape:=e.tape
 output:=e.output
 size:=e.size
 keep:=fun b o v hc hm=>by
  obtain ⟨h1,h2⟩:=e.keep b o v hc hm
  exact ⟨h1,fun hx=>h2 (cut_mut hx)⟩
 outside:=fun b hb ho=>by
  obtain ⟨h1,h2⟩:=e.outside b hb ho
  exact ⟨h1,fun l hl=>h2 l (by simp at hl;omega)⟩
 cells:=fun l cs hl=>by
  obtain ⟨⟨cs',h1⟩,h2⟩:=e.cells l cs hl
  have:=(List.getElem?_eq_some_iff.1 hl).1
  exact ⟨⟨cs',by rw [take_at (by omega)];exact h1⟩,h2⟩
 rows:=fun l z rs wr hl=>by
  obtain ⟨rs',wr',h1,h2⟩:=e.rows l z rs wr hl
  have:=(List.getElem?_eq_some_iff.1 hl).1
  exact ⟨rs',wr',by rw [take_at (by omega)];exact h1,h2⟩
 len:=by
  have:=e.len
  simp
  omega
 maps:=fun l es hl=>by
  obtain ⟨⟨es',h1⟩,h2⟩:=e.maps l es hl
  have:=(List.getElem?_eq_some_iff.1 hl).1
  exact ⟨⟨es',by rw [take_at (by omega)];exact h1⟩,h2⟩
 sizes:=e.sizes
theorem FrRel.cut {n:Nat} {fr:Fr} {t:Array Value} (hu:under n (locsF fr)=true) (hf:FrRel μ h w fr t):FrRel μ (h.take n) w fr t:=fun i=>by
 refine Rep.cut (fun l hl=>under_mem hu l ?_) (hf i)
 exact get_locs fr i l hl
where
 get_locs:∀ (fr:Fr) (i l:Nat),l∈locs (get fr i)→l∈locsF fr
  | [],i,l,hl=>by simp [get,locs] at hl
  | (j,v)::r,i,l,hl=>by
   simp only [get] at hl
   simp only [locsF,List.mem_append]
   split at hl
   ·exact .inl hl
   ·exact .inr (get_locs r i l hl)
theorem restr_get (fr:Fr):∀ (l:List Nat) (i:Nat),get (restr fr l) i=get fr i∨get (restr fr l) i=.any
 | [],i=>.inr rfl
 | j::r,i=>by
  simp only [restr,get]
  split
  ·rename_i h;subst h;exact .inl rfl
  ·exact restr_get fr r i
theorem FrRel.restr {fr:Fr} {t:Array Value} (l:List Nat) (hf:FrRel μ h w fr t):FrRel μ h w (Go.Ab.restr fr l) t:=fun i=>by
 rcases restr_get fr l i with e | e
 ·rw [e];exact hf i
 ·rw [e];exact trivial
theorem own_done {l n:Nat} {v:Value} {z:Nat} {rs:List (List AV)} {wr:Bool} {M':Nat→Nat→Prop} (hr:Rel μ h w) (hl:h[l]? = some (.rows z rs wr)) (hn:rs.length=n) (hlz:locsR rs=[]) (hv:OwnRep μ h w l n v)
  (hM:∀ b o,M' b o→Mut μ h b o) (hno:∀ b o,μ l=some b→o < rs.length*z→¬M' b o):PRep M' w (.rows rs) v:=by
 obtain ⟨z',rs',wr',base,cap,hl',_,rfl,hv⟩:=hv
 rw [hl] at hl'
 simp only [Option.some.injEq,Blk.rows.injEq] at hl'
 obtain ⟨rfl,rfl,rfl⟩:=hl'
 obtain ⟨hc,_,hb⟩:=hv hn.symm
 refine ⟨base,cap,by rw [hn],by omega,?_⟩
 rcases hb with rfl | ⟨b,vs,T,rfl,hm,hw,_⟩
 ·left;exact List.length_eq_zero_iff.1 (by omega)
 ·rcases hr.blk l _ hl with ⟨_,h0⟩ | ⟨b',vs',T',hm',⟨fz,hw',_⟩,hlen,hin⟩
  ·rw [hm] at h0;simp at h0
  ·have e:b'=b:=by rw [hm] at hm';simpa using hm'.symm
   subst e
   right
   refine ⟨b',0,z,rfl,PRows.of_at rs 0 fun i row hrow=>?_⟩
   obtain ⟨h1,hs1,h3⟩:=hin.none hlz i row hrow
   refine ⟨h1,hs1,PMem.of_at row _ fun c a ha=>?_⟩
   obtain ⟨u,hu,hp⟩:=h3 c a ha
   have hi:i < rs.length:=(List.getElem?_eq_some_iff.1 hrow).1
   have hcl:c < z:=by rw [←h1];exact (List.getElem?_eq_some_iff.1 ha).1
   refine ⟨u,by simp only [World.cell?,hw'];simpa using hu,hno _ _ hm' ?_,PRep.keep (fun b o v hc hm=>⟨hc,fun hx=>hm (hM b o hx)⟩) _ _ hp⟩
   have:i*z+z≤rs.length*z:=by rw [←Nat.succ_mul];exact Nat.mul_le_mul_right z hi
   omega
theorem own_doneN {l n:Nat} {v:Value} {z:Nat} {rs rs':List (List AV)} {wr:Bool} {M':Nat→Nat→Prop} (hr:Rel μ h w) (hl:h[l]? = some (.rows z rs wr)) (hn:rs.length=n) (hlz:rs'.length=rs.length∧∀ (i:Nat) (row':List AV),rs'[i]? = some row'→∃ row,rs[i]? = some row∧row'.length=row.length∧singles row'=true∧∀ (c:Nat) (a':AV),row'[c]? = some a'→∃ a,row[c]? = some a∧∀ u,Rep μ h w a u→PRep M' w a' u) (hv:OwnRep μ h w l n v)
  (hM:∀ b o,M' b o→Mut μ h b o) (hno:∀ b o,μ l=some b→o < rs.length*z→¬M' b o):PRep M' w (.rows rs') v:=by
 obtain ⟨hlen',hcells⟩:=hlz
 obtain ⟨z',rs1,wr',base,cap,hl',_,rfl,hv⟩:=hv
 rw [hl] at hl'
 simp only [Option.some.injEq,Blk.rows.injEq] at hl'
 obtain ⟨rfl,rfl,rfl⟩:=hl'
 obtain ⟨hc,_,hb⟩:=hv hn.symm
 refine ⟨base,cap,by rw [hlen',hn],by omega,?_⟩
 rcases hb with rfl | ⟨b,vs,T,rfl,hm,hw,_⟩
 ·left;exact List.length_eq_zero_iff.1 (by omega)
 ·rcases hr.blk l _ hl with ⟨_,h0⟩ | ⟨b',vs',T',hm',⟨fz,hw',_⟩,hlen,hin⟩
  ·rw [hm] at h0;simp at h0
  ·have e:b'=b:=by rw [hm] at hm';simpa using hm'.symm
   subst e
   right
   refine ⟨b',0,z,rfl,PRows.of_at rs' 0 fun i row' hrow'=>?_⟩
   obtain ⟨row,hrow,g1,g2,g3⟩:=hcells i row' hrow'
   obtain ⟨h1,hs1,h3⟩:=hin i row hrow
   refine ⟨by omega,g2,PMem.of_at row' _ fun c a' ha'=>?_⟩
   obtain ⟨a,ha,hpr⟩:=g3 c a' ha'
   obtain ⟨u,hu,hp⟩:=h3 c a ha
   have hi:i < rs.length:=(List.getElem?_eq_some_iff.1 hrow).1
   have hcl:c < z:=by rw [←h1];exact (List.getElem?_eq_some_iff.1 ha).1
   refine ⟨u,by simp only [World.cell?,hw'];simpa using hu,hno _ _ hm' ?_,hpr u hp⟩
   have:i*z+z≤rs.length*z:=by rw [←Nat.succ_mul];exact Nat.mul_le_mul_right z hi
   omega
theorem view_leftN {k l n q m:Nat} {v:Value} {z:Nat} {rs rs':List (List AV)} {wr:Bool} (hr:Rel μ h w) (hl:h[l]? = some (.rows z rs wr)) (hn:rs.length=n) (hqm:q+m≤n) (hk:¬l < k)
  (hlz:rs'.length=(cut rs q (q+m)).length∧∀ (i:Nat) (row':List AV),rs'[i]? = some row'→∃ row,(cut rs q (q+m))[i]? = some row∧row'.length=row.length∧singles row'=true∧∀ (c:Nat) (a':AV),row'[c]? = some a'→∃ a,row[c]? = some a∧∀ u,Rep μ h w a u→PRep (Mut μ (h.take k)) w a' u)
  (hv:VwRep μ h w l n q m v):PRep (Mut μ (h.take k)) w (.rows rs') v:=by
 obtain ⟨hlen',hcells⟩:=hlz
 have hlen:(cut rs q (q+m)).length=m:=by rw [cut_len _ _ _ (by omega)];omega
 rcases Nat.eq_zero_or_pos m with h0 | h0
 ·have e0:rs'=[]:=List.length_eq_zero_iff.1 (by omega)
  subst e0
  obtain ⟨z2,rs2,wr2,base,cap,h1,h2,rfl,h4⟩:=hv
  subst h0
  exact ⟨base,cap,rfl,Nat.zero_le _,.inl rfl⟩
 ·obtain ⟨cap,b,vs,T,rfl,h5,h6,hm,⟨fz,hw,hfz⟩,hlv,hcz,hin⟩:=view_rows hr hl hn (by omega) hv
  have hno:∀ o,¬Mut μ (h.take k) b o:=fun o=>by
   rintro (ho | ⟨l2,k2,hk2,hm2,ho⟩)
   ·exact hr.apart l b _ (List.getElem?_eq_some_iff.1 hl).1 hm ho
   obtain ⟨hlk,hk2⟩:=take_some hk2
   have hlt:l2 < h.length:=(List.getElem?_eq_some_iff.1 hk2).1
   have hlt':l < h.length:=(List.getElem?_eq_some_iff.1 hl).1
   have e:=hr.inj l2 l b hlt hlt' hm2 hm
   omega
  refine ⟨_,cap,by rw [hlen',hlen],by omega,.inr ⟨b,q*z,z,rfl,PRows.of_at rs' (q*z) fun i row' hrow'=>?_⟩⟩
  obtain ⟨row,hrow,g1,g2,g3⟩:=hcells i row' hrow'
  rw [cut_get] at hrow
  split at hrow
  ·obtain ⟨h1,hs1,h3⟩:=hin (q+i) row hrow
   refine ⟨by omega,g2,PMem.of_at row' _ fun c a' ha'=>?_⟩
   obtain ⟨a,ha,hpr⟩:=g3 c a' ha'
   obtain ⟨u,hu,hp⟩:=h3 c a ha
   refine ⟨u,?_,hno _,hpr u hp⟩
   simp only [World.cell?,hw]
   rw [show q*z+i*z+c=(q+i)*z+c by rw [Nat.add_mul]]
   simpa using hu
  ·simp at hrow
theorem own_leftN {k l n:Nat} {v:Value} {z:Nat} {rs rs':List (List AV)} {wr:Bool} (hr:Rel μ h w) (hl:h[l]? = some (.rows z rs wr)) (hn:rs.length=n) (hlz:rs'.length=rs.length∧∀ (i:Nat) (row':List AV),rs'[i]? = some row'→∃ row,rs[i]? = some row∧row'.length=row.length∧singles row'=true∧∀ (c:Nat) (a':AV),row'[c]? = some a'→∃ a,row[c]? = some a∧∀ u,Rep μ h w a u→PRep (Mut μ (h.take k)) w a' u) (hk:k≤l∨wr=false) (hv:OwnRep μ h w l n v) :
  PRep (Mut μ (h.take k)) w (.rows rs') v:=by
 refine own_doneN hr hl hn hlz hv (fun b o hx=>cut_mut hx) fun b o hm' hlt2=>?_
 rintro (ho | ⟨l2,k2,hk2,hm2,ho⟩)
 ·exact hr.apart l b _ (List.getElem?_eq_some_iff.1 hl).1 hm' ho
 obtain ⟨hlk,hk2⟩:=take_some hk2
 have hlt:l2 < h.length:=(List.getElem?_eq_some_iff.1 hk2).1
 have hlt':l < h.length:=(List.getElem?_eq_some_iff.1 hl).1
 have e:=hr.inj l2 l b hlt hlt' hm2 hm'
 subst e
 rw [hl] at hk2
 simp only [Option.some.injEq] at hk2
 subst hk2
 rcases hk with hk | hk
 ·omega
 ·rcases ho with ho | ho
  ·rw [hk] at ho;simp at ho
  ·rw [Nat.mul_comm] at ho
   omega
theorem hole_mut {l b o:Nat} (hl:l < h.length) (hx:Mut (μ.set l none) (h.set l .hole) b o):Mut μ h b o:=by
 rcases hx with ho | ⟨l',k,hk,hm,ho⟩
 ·exact .inl ho
 ·by_cases hll:l=l'
  ·subst hll
   rw [set_same] at hm
   simp at hm
  ·rw [set_other _ (fun e=>hll e.symm)] at hm
   rw [List.getElem?_set_ne hll] at hk
   exact .inr ⟨l',k,hk,hm,ho⟩
theorem hole_at {l l':Nat} (hll:l'≠l):KeepsAt μ h (μ.set l none) (h.set l .hole) (fun l=>l) l':=fun k hk=>by
 refine ⟨?_,set_other _ hll⟩
 rw [renB_id,List.getElem?_set_ne (fun e=>hll e.symm)]
 exact hk
theorem hole_rep {l:Nat} (hl:l < h.length) {a:AV} {v:Value} (hn:l∉locs a) (r:Rep μ h w a v):Rep (μ.set l none) (h.set l .hole) w a v:=by
 have:=Rep.ren (μ':=μ.set l none) (h':=h.set l .hole) (σ:=fun l=>l) (fun b o hx=>hole_mut hl hx) a v (fun l' hl'=>hole_at fun e=>hn (e▸hl')) r
 rwa [ren_id] at this
theorem hole_repL {l:Nat} (hl:l < h.length) {a:List AV} {v:List Value} (hn:l∉locsL a) (r:RepL μ h w a v):RepL (μ.set l none) (h.set l .hole) w a v:=by
 have:=RepL.ren (μ':=μ.set l none) (h':=h.set l .hole) (σ:=fun l=>l) (fun b o hx=>hole_mut hl hx) a v (fun l' hl'=>hole_at fun e=>hn (e▸hl')) r
 rwa [renL_id] at this
theorem hole_keeps {l:Nat} (hl:l < h.length):Keeps (Mut μ h) w (Mut (μ.set l none) (h.set l .hole)) w:=fun _ _ _ hc hm=>⟨hc,fun hx=>hm (hole_mut hl hx)⟩
theorem Rel.toHole {l:Nat} (hr:Rel μ h w) (hl:l < h.length) (hn:l∉locsH h):Rel (μ.set l none) (h.set l .hole) w where
 inj:=fun l1 l2 b hl1 hl2 hm1 hm2=>by
  simp only [List.length_set] at hl1 hl2
  by_cases h1:l1=l
  ·subst h1;rw [set_same] at hm1;simp at hm1
  ·by_cases h2:l2=l
   ·subst h2;rw [set_same] at hm2;simp at hm2
   ·rw [set_other _ h1] at hm1
    rw [set_other _ h2] at hm2
    exact hr.inj l1 l2 b hl1 hl2 hm1 hm2
 blk:=fun l' k hk=>by
  by_cases hll:l=l'
  ·subst hll
   rw [List.getElem?_set_self hl] at hk
   simp only [Option.some.injEq] at hk
   subst hk
   exact set_same _ _
  ·have hne:l'≠l:=fun e=>hll e.symm
   rw [List.getElem?_set_ne hll] at hk
   have:=hr.blk l' k hk
   cases k with
   | cells cs =>
    obtain ⟨b,vs,T,h1,h2,h3,h4⟩:=this
    exact ⟨b,vs,T,by rw [set_other _ hne];exact h1,h2,h3,hole_repL hl (fun hx=>hn (locsH_at hk _ hx)) h4⟩
   | rows z rs wr =>
    rcases this with h1 | ⟨b,vs,T,h1,h2,h3,h4⟩
    ·exact .inl ⟨h1.1,by rw [set_other _ hne];exact h1.2⟩
    ·exact .inr ⟨b,vs,T,by rw [set_other _ hne];exact h1,h2,h3,h4.each fun a v hi r=>hole_rep hl (fun hx=>hn (locsH_at hk _ (hi _ hx))) r⟩
   | hole =>
    show (μ.set l none) l'=none
    rw [set_other _ hne];exact this
   | map es =>
    obtain ⟨b,ms,c,h1,h2,h3⟩:=this
    exact ⟨b,ms,c,by rw [set_other _ hne];exact h1,h2,h3.keep (hole_keeps hl)⟩
 apart:=fun l' b o hl' hm ho=>by
  by_cases h1:l'=l
  ·subst h1;rw [set_same] at hm;simp at hm
  ·rw [set_other _ h1] at hm
   exact hr.apart l' b o (by simpa using hl') hm ho
 old:=hr.old
 still:=fun b hb=>⟨(hr.still b hb).1,fun l' hl' hm=>by
  by_cases h1:l'=l
  ·subst h1;rw [set_same] at hm;simp at hm
  ·rw [set_other _ h1] at hm
   exact (hr.still b hb).2 l' (by simpa using hl') hm⟩
 base:=hr.base
theorem Ext.toHole {l:Nat} (e:Ext μ0 h0 w0 μ h w) (hl:l < h.length) (hk:h0.length≤l):Ext μ0 h0 w0 (μ.set l none) (h.set l .hole) w where
 out:=e.out
 still:=e.still
 os:=e.os
 tape:=e.tape
 output:=e.output
 size:=e.size
 len:=by simpa using e.len
 keep:=fun b o v hc hm=>by
  obtain ⟨h1,h2⟩:=e.keep b o v hc hm
  exact ⟨h1,fun hx=>h2 (hole_mut hl hx)⟩
 outside:=fun b hb ho=>by
  obtain ⟨h1,h2⟩:=e.outside b hb ho
  refine ⟨h1,fun l' hl'=>?_⟩
  by_cases h3:l'=l
  ·subst h3;rw [set_same];simp
  ·rw [set_other _ h3];exact h2 l' (by simpa using hl')
 cells:=fun l' cs hl'=>by
  obtain ⟨⟨cs',h1⟩,h2⟩:=e.cells l' cs hl'
  have:=(List.getElem?_eq_some_iff.1 hl').1
  exact ⟨⟨cs',by rw [List.getElem?_set_ne (by omega)];exact h1⟩,by rw [set_other _ (by omega)];exact h2⟩
 rows:=fun l' z rs wr hl'=>by
  obtain ⟨rs',wr',h1,h2,h3⟩:=e.rows l' z rs wr hl'
  have:=(List.getElem?_eq_some_iff.1 hl').1
  exact ⟨rs',wr',by rw [List.getElem?_set_ne (by omega)];exact h1,h2,fun q=>by rw [set_other _ (by omega)];exact h3 q⟩
 maps:=fun l' es hl'=>by
  obtain ⟨⟨es',h1⟩,h2⟩:=e.maps l' es hl'
  have:=(List.getElem?_eq_some_iff.1 hl').1
  exact ⟨⟨es',by rw [List.getElem?_set_ne (by omega)];exact h1⟩,by rw [set_other _ (by omega)];exact h2⟩
 sizes:=e.sizes
theorem frz_sound {t:Array Value} {k:Nat} {live:List Nat} (hk:h0.length=k):∀ (is:List Nat) (fr fr':Fr) (h h':Heap) (μ:Mp Bs),Rel μ h w→Ext μ0 h0 w0 μ h w→FrRel μ h w fr t→frz k live is fr h=some (fr',h')→∃ μ',Rel μ' h' w∧Ext μ0 h0 w0 μ' h' w∧FrRel μ' h' w fr' t
 | [],fr,fr',h,h',μ,hr,ex,hf,e=>by
  simp only [frz,Option.some.injEq,Prod.mk.injEq] at e
  obtain ⟨rfl,rfl⟩:=e
  exact ⟨μ,hr,ex,hf⟩
 | i::is,fr,fr',h,h',μ,hr,ex,hf,e=>by
  have cons:∀ {rs:List (List AV)},PRep (Mut μ h) w (.rows rs) (t.getD i undef)→FrRel μ h w ((i,.rows rs)::fr) t:=fun {rs} hp j=>by
   simp only [get]
   split
   ·rename_i hij;subst hij;exact Rep.pure _ _ hp
   ·exact hf j
  simp only [frz] at e
  split at e
  ·rename_i l n hx
   split at e
   ·rename_i z rs wr hl
    split at e
    ·rename_i hc
     obtain ⟨c1,c2,cz,c3,c4⟩:=hc
     have hlt:l < h.length:=(List.getElem?_eq_some_iff.1 hl).1
     have c3':l∉locsF (restr ((i,.rows rs)::fr) live):=by simpa using c3
     have c4':l∉locsH h:=by simpa using c4
     have hv:=hf i
     rw [hx] at hv
     have hp:PRep (Mut (μ.set l none) (h.set l .hole)) w (.rows rs) (t.getD i undef):=own_done hr hl c1 cz hv (fun b o hx=>hole_mut hlt hx) fun b o hm _ hx=>by
      rcases hx with ho | ⟨l',k',hk',hm',_⟩
      ·exact hr.apart l b o hlt hm ho
      ·by_cases h1:l'=l
       ·subst h1;rw [set_same] at hm';simp at hm'
       ·rw [set_other _ h1] at hm'
        rw [List.getElem?_set_ne (fun e=>h1 e.symm)] at hk'
        exact h1 (hr.inj l' l b (List.getElem?_eq_some_iff.1 hk').1 hlt hm' hm)
     refine frz_sound hk is _ _ _ _ _ (hr.toHole hlt c4') (ex.toHole hlt (by omega)) (fun j=>?_) e
     have hj:l∉locs (get (restr ((i,.rows rs)::fr) live) j):=fun hx=>c3' (FrRel.cut.get_locs _ _ _ hx)
     rcases restr_get ((i,.rows rs)::fr) live j with e1 | e1
     ·rw [e1] at hj ⊢
      simp only [get] at hj ⊢
      split
      ·rename_i hij;subst hij;exact Rep.pure _ _ hp
      ·rename_i hij
       simp only [hij,if_false] at hj
       exact hole_rep hlt hj (hf j)
     ·rw [e1];exact trivial
    ·simp at e
   ·simp at e
  ·rename_i hx
   have hv:=hf i
   rw [hx] at hv
   have hv':t.getD i undef=.slice none 0 0:=hv
   exact frz_sound hk is _ _ _ _ _ hr ex ((cons (rs:=[]) ⟨none,0,hv',Nat.le_refl _,.inl rfl⟩).restr live) e
  ·rename_i rs hx
   have hv:=hf i
   rw [hx] at hv
   obtain ⟨base,hv',hb⟩:=hv
   exact frz_sound hk is _ _ _ _ _ hr ex ((cons ⟨base,rs.length,hv',Nat.le_refl _,hb⟩).restr live) e
  ·exact frz_sound hk is _ _ _ _ _ hr ex hf e
def SubOk (μ:Mp Bs) (h:Heap) (w:World) (k:Nat) (sub:List (List AV)→Option (List (List AV))):Prop :=
 ∀ rs rs',(∀ (i:Nat) (row:List AV),rs[i]? = some row→singles row=true)→sub rs=some rs'→rs'.length=rs.length∧∀ (i:Nat) (row':List AV),rs'[i]? = some row'→∃ row,rs[i]? = some row∧row'.length=row.length∧singles row'=true∧∀ (c:Nat) (a':AV),row'[c]? = some a'→∃ a,row[c]? = some a∧∀ u,Rep μ h w a u→PRep (Mut μ (h.take k)) w a' u
theorem own_singles {l z:Nat} {rs:List (List AV)} {wr:Bool} (hr:Rel μ h w) (hl:h[l]? = some (.rows z rs wr)):∀ (i:Nat) (row:List AV),rs[i]? = some row→singles row=true:=fun i row hrow=>by
 rcases hr.blk l _ hl with ⟨h0,_⟩ | ⟨b',vs',T',hm',_,hlen,hin⟩
 ·rw [h0.at hrow];rfl
 ·exact (hin i row hrow).2.1
mutual
theorem leaveG_sound (hr:Rel μ h w) {keep:Bool} {k:Nat} {sub:List (List AV)→Option (List (List AV))} (hsub:SubOk μ h w k sub):∀ (a a':AV) (v:Value),leaveG sub keep k h a=some a'→Rep μ h w a v→Rep μ (h.take k) w a' v
 | .own l n,a',v,e,r=>by
  simp only [leaveG] at e
  split at e
  ·rename_i z rs wr hl
   split at e
   ·rename_i hc
    split at e
    ·rename_i rs2 hs2
     simp only [Option.some.injEq] at e
     subst e
     exact Rep.pure _ _ (own_leftN hr hl hc.1 (hsub rs rs2 (fun i row hrow=>own_singles hr hl i row hrow) hs2) hc.2 r)
    ·simp at e
   ·simp at e
  ·simp at e
 | .nils,a',v,e,r=>by
  simp only [leaveG,Option.some.injEq] at e
  subst e
  have:v=.slice none 0 0:=r
  subst this
  cases keep with
  | true=>exact rfl
  | false=>exact ⟨none,0,rfl,Nat.le_refl _,.inl rfl⟩
 | .lit rs,a',v,e,r=>by
  simp only [leaveG,Option.some.injEq] at e
  subst e
  obtain ⟨base,hv,hb⟩:=PRep.keep (cut_keeps (n:=k)) (.lit rs) v r
  exact ⟨base,rs.length,hv,Nat.le_refl _,hb⟩
 | .agg cs,a',v,e,r=>by
  simp only [leaveG] at e
  split at e
  ·rename_i cs' hcs
   simp only [Option.some.injEq] at e
   subst e
   obtain ⟨vs,hv,r⟩:=r
   exact ⟨vs,hv,leaveGL_sound hr hsub cs cs' vs hcs r⟩
  ·simp at e
 | .tup cs,a',v,e,r=>by
  simp only [leaveG] at e
  split at e
  ·rename_i cs' hcs
   simp only [Option.some.injEq] at e
   subst e
   obtain ⟨vs,hv,r⟩:=r
   exact ⟨vs,hv,leaveGL_sound hr hsub cs cs' vs hcs r⟩
  ·simp at e
 | .fn _ cs,a',v,e,r=>by
  simp only [leaveG] at e
  split at e
  ·rename_i cs' hcs
   simp only [Option.some.injEq] at e
   subst e
   obtain ⟨vs,hv,r⟩:=r
   exact ⟨vs,hv,leaveGL_sound hr hsub cs cs' vs hcs r⟩
  ·simp at e
 | .bnd _ cs,a',v,e,r=>by
  simp only [leaveG] at e
  split at e
  ·rename_i cs' hcs
   simp only [Option.some.injEq] at e
   subst e
   obtain ⟨vs,hv,r⟩:=r
   exact ⟨vs,hv,leaveGL_sound hr hsub cs cs' vs hcs r⟩
  ·simp at e
 | .iface _ a,a',v,e,r=>by
  simp only [leaveG] at e
  split at e
  ·rename_i a1 ha
   simp only [Option.some.injEq] at e
   subst e
   obtain ⟨x,hv,r⟩:=r
   exact ⟨x,hv,leaveG_sound hr hsub a a1 x ha r⟩
  ·simp at e
 | .ptr l o,a',v,e,r=>by
  simp only [leaveG] at e
  split at e
  ·rename_i hl
   simp only [Option.some.injEq] at e
   subst e
   exact Rep.cut (fun i hi=>by simp [locs] at hi;omega) r
  ·simp at e
 | .town _ _ _,_,_,e,_=>by simp [leaveG] at e
 | .vw l n q m,a',v,e,r=>by
  simp only [leaveG] at e
  split at e
  ·rename_i hl
   simp only [Option.some.injEq] at e
   subst e
   exact Rep.cut (fun i hi=>by simp [locs] at hi;omega) r
  ·rename_i hkl
   split at e
   ·rename_i z rs wr hl
    split at e
    ·rename_i hc
     split at e
     ·rename_i rs' hs
      simp only [Option.some.injEq] at e
      subst e
      refine Rep.pure _ _ (view_leftN hr hl hc.1 hc.2 hkl (hsub _ rs' (fun i row hrow=>?_) hs) r)
      rw [cut_get] at hrow
      split at hrow
      ·exact own_singles hr hl _ row hrow
      ·simp at hrow
     ·simp at e
    ·simp at e
   ·simp at e
 | .tptr t l o,a',v,e,r=>by
  simp only [leaveG] at e
  split at e
  ·rename_i hl
   simp only [Option.some.injEq] at e
   subst e
   exact Rep.cut (fun i hi=>by simp [locs] at hi;omega) r
  ·simp at e
 | .mp l,a',v,e,r=>by
  simp only [leaveG] at e
  split at e
  ·rename_i hl
   simp only [Option.some.injEq] at e
   subst e
   exact Rep.cut (fun i hi=>by simp [locs] at hi;omega) r
  ·simp at e
 | .optr l n i o,a',v,e,r=>by
  simp only [leaveG] at e
  split at e
  ·rename_i hl
   simp only [Option.some.injEq] at e
   subst e
   exact Rep.cut (fun i hi=>by simp [locs] at hi;omega) r
  ·simp at e
 | .int _ _,_,_,e,r=>by simp only [leaveG,Option.some.injEq] at e;subst e;exact r
 | .bool _,_,_,e,r=>by simp only [leaveG,Option.some.injEq] at e;subst e;exact r
 | .str _,_,_,e,r=>by simp only [leaveG,Option.some.injEq] at e;subst e;exact r
 | .nilp,_,_,e,r=>by simp only [leaveG,Option.some.injEq] at e;subst e;exact r
 | .nilf,_,_,e,r=>by simp only [leaveG,Option.some.injEq] at e;subst e;exact r
 | .nili,_,_,e,r=>by simp only [leaveG,Option.some.injEq] at e;subst e;exact r
 | .emp _,_,_,e,r=>by simp only [leaveG,Option.some.injEq] at e;subst e;exact r
 | .nilm,_,_,e,r=>by simp only [leaveG,Option.some.injEq] at e;subst e;exact r
 | .rows rs,_,v,e,r=>by simp only [leaveG,Option.some.injEq] at e;subst e;exact PRep.keep cut_keeps (.rows rs) v r
 | .rptr row o,_,v,e,r=>by simp only [leaveG,Option.some.injEq] at e;subst e;exact PRep.keep cut_keeps (.rptr row o) v r
 | .any,_,_,e,_=>by simp only [leaveG,Option.some.injEq] at e;subst e;exact trivial
theorem leaveGL_sound (hr:Rel μ h w) {keep:Bool} {k:Nat} {sub:List (List AV)→Option (List (List AV))} (hsub:SubOk μ h w k sub):∀ (l l':List AV) (vs:List Value),leaveGL sub keep k h l=some l'→RepL μ h w l vs→RepL μ (h.take k) w l' vs
 | [],_,_,e,r=>by simp only [leaveGL,Option.some.injEq] at e;subst e;exact r
 | a::r,l',vs,e,x=>by
  simp only [leaveGL] at e
  split at e
  ·rename_i a1 h1
   split at e
   ·rename_i r1 h2
    simp only [Option.some.injEq] at e
    subst e
    obtain ⟨v,vr,hv,x1,x2⟩:=x
    exact ⟨v,vr,hv,leaveG_sound hr hsub a a1 v h1 x1,leaveGL_sound hr hsub r r1 vr h2 x2⟩
   ·simp at e
  ·simp at e
end
theorem orRows_ok {k:Nat} {f:List (List AV)→Option (List (List AV))} (hf:SubOk μ h w k f):SubOk μ h w k (orRows f):=fun rs rs' hs e=>by
 unfold orRows at e
 split at e
 ·rename_i hz
  simp only [Option.some.injEq] at e
  subst e
  refine ⟨rfl,fun i row hrow=>⟨row,hrow,rfl,hs i row hrow,fun c a ha=>⟨a,ha,fun u hu=>?_⟩⟩⟩
  exact PRep.keep cut_keeps a u (Rep.none a u (locsL_mem (locsR_mem hz (List.mem_of_getElem? hrow)) (List.mem_of_getElem? ha)) hu)
 ·exact hf rs rs' hs e
theorem leaveGL_at {keep:Bool} {k:Nat} {sub:List (List AV)→Option (List (List AV))}:∀ (l l':List AV),leaveGL sub keep k h l=some l'→∀ (c:Nat) (a':AV),l'[c]? = some a'→∃ a,l[c]? = some a∧leaveG sub keep k h a=some a'
 | [],_,e,c,a',ha=>by simp only [leaveGL,Option.some.injEq] at e;subst e;simp at ha
 | a::r,l',e,c,a',ha=>by
  simp only [leaveGL] at e
  split at e
  ·rename_i a1 h1
   split at e
   ·rename_i r1 h2
    simp only [Option.some.injEq] at e
    subst e
    cases c with
    | zero=>simp only [List.getElem?_cons_zero,Option.some.injEq] at ha;subst ha;exact ⟨a,rfl,h1⟩
    | succ c =>
     obtain ⟨x,hx,hl⟩:=leaveGL_at r r1 h2 c a' (by simpa using ha)
     exact ⟨x,by simpa using hx,hl⟩
   ·simp at e
  ·simp at e
theorem leaveRows_ok (hr:Rel μ h w) {keep:Bool} {k:Nat} {sub:List (List AV)→Option (List (List AV))} (hsub:SubOk μ h w k sub):SubOk μ h w k (leaveRows (leaveGL sub keep k h))
 | [],rs',_,e=>by simp only [leaveRows,Option.some.injEq] at e;subst e;exact ⟨rfl,fun i row hrow=>by simp at hrow⟩
 | row::r,rs',hs,e=>by
  simp only [leaveRows] at e
  split at e
  ·rename_i row1 h1
   split at e
   ·rename_i hc
    split at e
    ·rename_i r1 h2
     simp only [Option.some.injEq] at e
     subst e
     obtain ⟨q1,q2⟩:=leaveRows_ok hr hsub r r1 (fun i row hrow=>hs (i+1) row (by simpa using hrow)) h2
     refine ⟨by simp [q1],fun i row' hrow'=>?_⟩
     cases i with
     | zero =>
      simp only [List.getElem?_cons_zero,Option.some.injEq] at hrow'
      subst hrow'
      refine ⟨row,rfl,hc.2.1,hc.2.2,fun c a' ha=>?_⟩
      obtain ⟨a,ha2,hl⟩:=leaveGL_at _ _ h1 c a' ha
      exact ⟨a,ha2,fun u hu=>Rep.none a' u (locsL_mem hc.1 (List.mem_of_getElem? ha)) (leaveG_sound hr hsub a a' u hl hu)⟩
     | succ i =>
      obtain ⟨x,hx,hl⟩:=q2 i row' (by simpa using hrow')
      exact ⟨x,by simpa using hx,hl⟩
    ·simp at e
   ·simp at e
  ·simp at e
theorem none_ok {k:Nat}:SubOk μ h w k (fun _=>none):=fun _ _ _ e=>by simp at e
theorem leave3_ok (hr:Rel μ h w) {keep:Bool} {k:Nat}:SubOk μ h w k (leave3 keep k h) :=
 orRows_ok (leaveRows_ok hr (orRows_ok (leaveRows_ok hr (orRows_ok none_ok))))
theorem leave_sound (hr:Rel μ h w) {keep:Bool} {k:Nat} (a a':AV) (v:Value) (e:leave keep k h a=some a') (r:Rep μ h w a v):Rep μ (h.take k) w a' v:=leaveG_sound hr (leave3_ok hr) a a' v e r
theorem fresh_left {k l n:Nat} {v:Value} {z:Nat} {rs:List (List AV)} {wr:Bool} (hr:Rel μ h w) (e:Ext μ0 h0 w0 μ h w) (hk0:h0.length=k) (hu:under k (locsH (h.take k))=true) (hl:h[l]? = some (.rows z rs wr)) (hn:rs.length=n) (hk:k≤l) (hlz:locsR rs=[]) (hv:OwnRep μ h w l n v) :
  ∃ μ',Rel μ' (h.take k++[.rows z rs wr]) w∧Ext μ0 h0 w0 μ' (h.take k++[.rows z rs wr]) w∧Rep μ' (h.take k++[.rows z rs wr]) w (.own k n) v:=by
 have hlt:l < h.length:=(List.getElem?_eq_some_iff.1 hl).1
 have hlen:(h.take k).length=k:=by simp;omega
 have hat:∀ i,i < k→(h.take k++[Blk.rows z rs wr])[i]? = (h.take k)[i]? := fun i hi=>List.getElem?_append_left (by omega)
 have hnew:(h.take k++[Blk.rows z rs wr])[k]? = some (.rows z rs wr):=by
  rw [List.getElem?_append_right (by omega),hlen];simp
 have hmut:∀ b o,Mut (μ.set k (μ l)) (h.take k++[Blk.rows z rs wr]) b o→Mut μ h b o:=by
  rintro b o (ho | ⟨i,b',hi,hm,ho⟩)
  ·exact .inl ho
  ·by_cases hik:i=k
   ·subst hik
    rw [set_same] at hm
    rw [hnew] at hi
    simp only [Option.some.injEq] at hi
    subst hi
    exact .inr ⟨l,_,hl,hm,ho⟩
   ·have hi':i < k:=by
     have:=(List.getElem?_eq_some_iff.1 hi).1
     simp only [List.length_append,hlen,List.length_singleton] at this
     omega
    rw [hat i hi'] at hi
    rw [set_other _ hik] at hm
    exact .inr ⟨i,b',(take_some hi).2,hm,ho⟩
 have hkeeps:Keeps (Mut μ h) w (Mut (μ.set k (μ l)) (h.take k++[Blk.rows z rs wr])) w:=fun b o v hc hm=>⟨hc,fun hx=>hm (hmut b o hx)⟩
 have hka:∀ i,i < k→KeepsAt μ h (μ.set k (μ l)) (h.take k++[Blk.rows z rs wr]) (fun l=>l) i:=fun i hi k' hk' =>
  ⟨by rw [renB_id];show (h.take k++[Blk.rows z rs wr])[i]? = some k';rw [hat i hi,take_at hi];exact hk',set_other (l:=k) (i:=i) _ (by omega)⟩
 refine ⟨μ.set k (μ l),⟨?_,?_,?_,?_,?_,hr.base⟩,?_,?_⟩
 ·intro i j b hi hj hmi hmj
  simp only [List.length_append,hlen,List.length_singleton] at hi hj
  by_cases h1:i=k<;>by_cases h2:j=k
  ·omega
  ·subst h1
   rw [set_same] at hmi
   rw [set_other _ h2] at hmj
   have:=hr.inj l j b hlt (by omega) hmi hmj
   omega
  ·subst h2
   rw [set_same] at hmj
   rw [set_other _ h1] at hmi
   have:=hr.inj l i b hlt (by omega) hmj hmi
   omega
  ·rw [set_other _ h1] at hmi
   rw [set_other _ h2] at hmj
   exact hr.inj i j b (by omega) (by omega) hmi hmj
 ·intro i b' hi
  by_cases hik:i=k
  ·subst hik
   rw [hnew] at hi
   simp only [Option.some.injEq] at hi
   subst hi
   rcases hr.blk l _ hl with ⟨h1,h2⟩ | ⟨b,vs,T,h1,h2,h3,h4⟩
   ·exact .inl ⟨h1,by rw [set_same];exact h2⟩
   ·exact .inr ⟨b,vs,T,by rw [set_same];exact h1,h2,h3,((h4.none hlz).keep hkeeps).some⟩
  ·have hi':i < k:=by
    have:=(List.getElem?_eq_some_iff.1 hi).1
    simp only [List.length_append,hlen,List.length_singleton] at this
    omega
   rw [hat i hi'] at hi
   have hi2:=(take_some hi).2
   have:=hr.blk i b' hi2
   cases b' with
   | cells cs =>
    obtain ⟨b,vs,T,h1,h2,h3,h4⟩:=this
    refine ⟨b,vs,T,by rw [set_other _ hik];exact h1,h2,h3,?_⟩
    have:=RepL.ren (μ':=μ.set k (μ l)) (h':=h.take k++[Blk.rows z rs wr]) (σ:=fun l=>l) hmut cs vs (fun j hj=>hka j (under_mem hu j (locsH_at hi j hj))) h4
    rwa [renL_id] at this
   | rows z' rs' wr' =>
    rcases this with h1 | ⟨b,vs,T,h1,h2,h3,h4⟩
    ·exact .inl ⟨h1.1,by rw [set_other _ hik];exact h1.2⟩
    ·refine .inr ⟨b,vs,T,by rw [set_other _ hik];exact h1,h2,h3,h4.each fun a v hx r=>?_⟩
     have:=Rep.ren (μ':=μ.set k (μ l)) (h':=h.take k++[Blk.rows z rs wr]) (σ:=fun l=>l) hmut a v (fun j hj=>hka j (under_mem hu j (locsH_at hi j (hx j hj)))) r
     rwa [ren_id] at this
   | hole =>
    show (μ.set k (μ l)) i=none
    rw [set_other _ hik];exact this
   | map es =>
    obtain ⟨b,ms,c,h1,h2,h3⟩:=this
    exact ⟨b,ms,c,by rw [set_other _ hik];exact h1,h2,h3.keep hkeeps⟩
 ·intro i b o hi hm ho
  simp only [List.length_append,hlen,List.length_singleton] at hi
  by_cases hik:i=k
  ·subst hik
   rw [set_same] at hm
   exact hr.apart l b o hlt hm ho
  ·rw [set_other _ hik] at hm
   exact hr.apart i b o (by omega) hm ho
 ·exact hr.old
 ·intro b hb
  refine ⟨(hr.still b hb).1,fun i hi=>?_⟩
  simp only [List.length_append,hlen,List.length_singleton] at hi
  by_cases hik:i=k
  ·subst hik
   rw [set_same];exact (hr.still b hb).2 l hlt
  ·rw [set_other _ hik];exact (hr.still b hb).2 i (by omega)
 ·have e1:=e.cut (n:=k) (by omega)
  exact {
   out:=e1.out
   still:=e1.still
   os:=e1.os
   tape:=e1.tape
   output:=e1.output
   size:=e1.size
   keep:=fun b o v hc hm=>by
    obtain ⟨h1,h2⟩:=e.keep b o v hc hm
    exact ⟨h1,fun hx=>h2 (hmut b o hx)⟩
   outside:=fun b hb ho=>by
    obtain ⟨h1,h2⟩:=e.outside b hb ho
    refine ⟨h1,fun i hi=>?_⟩
    simp only [List.length_append,hlen,List.length_singleton] at hi
    by_cases hik:i=k
    ·subst hik
     rw [set_same];exact h2 l hlt
    ·rw [set_other _ hik];exact h2 i (by omega)
   cells:=fun i cs hi=>by
    obtain ⟨⟨cs',h1⟩,h2⟩:=e1.cells i cs hi
    have:=(List.getElem?_eq_some_iff.1 hi).1
    exact ⟨⟨cs',by rw [hat i (by omega)];exact h1⟩,by rw [set_other _ (by omega)];exact h2⟩
   rows:=fun i z rs wr hi=>by
    obtain ⟨rs',wr',h1,h2,h3⟩:=e1.rows i z rs wr hi
    have:=(List.getElem?_eq_some_iff.1 hi).1
    exact ⟨rs',wr',by rw [hat i (by omega)];exact h1,h2,fun q=>by rw [set_other _ (by omega)];exact h3 q⟩
   len:=by simp only [List.length_append,hlen,List.length_singleton];omega
   maps:=fun i es hi=>by
    obtain ⟨⟨es',h1⟩,h2⟩:=e1.maps i es hi
    have:=(List.getElem?_eq_some_iff.1 hi).1
    exact ⟨⟨es',by rw [hat i (by omega)];exact h1⟩,by rw [set_other _ (by omega)];exact h2⟩
   sizes:=e1.sizes }
 ·obtain ⟨z',rs',wr',base,cap,hl',hle,rfl,hv⟩:=hv
  rw [hl] at hl'
  simp only [Option.some.injEq,Blk.rows.injEq] at hl'
  obtain ⟨rfl,rfl,rfl⟩:=hl'
  refine ⟨z,rs,wr,base,cap,hnew,hle,rfl,fun q=>?_⟩
  obtain ⟨h1,h2,h3⟩:=hv q
  refine ⟨h1,h2,?_⟩
  rcases h3 with h3 | ⟨b,vs,T,h3,h4,h5⟩
  ·exact .inl h3
  ·exact .inr ⟨b,vs,T,h3,by rw [set_same];exact h4,h5⟩
end
section
variable {Bs:World→Prop}
theorem lv_knows {P:Program} {F:Tk→Res} (hF:Knows Bs P F):Knows Bs P (lv F):=by
 intro g args h r h' e
 unfold lv at e
 split at e
 ·rename_i g0 args0 heq
  simp only [Tk.call.injEq] at heq
  obtain ⟨rfl,rfl,rfl⟩:=heq
  unfold lvR at e
  split at e
  ·rename_i r0 hFr
   simp only [Option.some.injEq,Prod.mk.injEq] at e
   obtain ⟨rfl,rfl⟩:=e
   exact hF _ _ _ _ _ hFr
  ·rename_i r0 b hs hFr
   split at e
   ·rename_i a ha
    simp only [Option.some.injEq,Prod.mk.injEq] at e
    obtain ⟨rfl,rfl⟩:=e
    obtain ⟨h1,h2⟩:=hF _ _ _ _ _ hFr
    refine ⟨h1,fun μ w vs hr hv=>(h2 μ w vs hr hv).mono ?_⟩
    rintro e w' ⟨v,μ',he,q1,q2,q3⟩
    have hcut:Rel μ' ((b::hs).take 0) w':=q1.cut rfl
    exact ⟨v,μ',he,hcut,q2.cut (Nat.le_refl _),leave_sound q1 _ _ _ ha q3⟩
   ·simp at e
  ·simp at e
 ·exact hF _ _ _ _ _ e
def stOk (dy:List (Nat×Nat)) (i j:Nat):Option (Nat×Nat)→Bool
 | some (p,q)=>dy.contains (j,p)&&dy.contains (i,q)
 | none=>false
def compat (dy:List (Nat×Nat)) (i j:Nat) (oi oj:Oper):Bool :=
 if isQ dy i oi.op=true then (if isQ dy j oj.op=true then true else alo oj.op||(readsT oi.op).all fun s=>dy.contains (j,s))
 else if isQ dy j oj.op=true then alo oi.op||(readsT oj.op).all fun s=>dy.contains (i,s)
 else (alo oi.op&&alo oj.op)||((memC oi.op&&alo oj.op)||((alo oi.op&&memC oj.op)||((insPair oi oj&&((readsT oi.op).all (fun s=>dy.contains (j,s))&&(readsT oj.op).all fun s=>dy.contains (i,s)))||stOk dy i j (stPair oi oj))))
def bit (B:List (List Nat)) (j i:Nat):Bool:=(B.getD j []).contains i
structure Ordered (dy:List (Nat×Nat)) (ops:Array Oper) (B:List (List Nat)):Prop where
 cert:∀ (j:Nat) (o:Oper),ops[j]? = some o→∀ i,bit B j i=true→∃ e,e∈o.after∧Region.binds .any e=true∧(e.on=i∨bit B e.on i=true)
 pair:∀ (i j:Nat) (oi oj:Oper),i < j→ops[i]? = some oi→ops[j]? = some oj→bit B j i=true∨(Oper.apart ops oi oj=true∧compat dy i j oi oj=true)
 dst:∀ (i j:Nat) (oi oj:Oper) (d:Nat),ops[i]? = some oi→ops[j]? = some oj→oi.dst=some d→oj.dst=some d→i=j
 reads:∀ (j:Nat) (o:Oper),ops[j]? = some o→∀ s,s∈readsT o.op→∀ (k:Nat) (ok:Oper),ops[k]? = some ok→ok.dst=some s→bit B j k=true
 lex:∀ (j:Nat) (o:Oper),ops[j]? = some o→∀ e,e∈o.after→Region.binds .any e=true→e.on < j
end
section
variable {Bs:World→Prop}
variable {μ:Mp Bs} {h:Heap} {w:World}
mutual
/-- No value names a place that is not filled yet. -/
theorem Rep.solid:∀ (a:AV) (v:Value),Rep μ h w a v→∀ l,l∈locs a→h[l]? ≠ some .hole
 | .agg cs,_,r,l,hl=>by
  obtain ⟨vs,hv,r⟩:=r
  exact RepL.solid cs vs r l hl
 | .tup cs,_,r,l,hl=>by
  obtain ⟨vs,hv,r⟩:=r
  exact RepL.solid cs vs r l hl
 | .fn _ cs,_,r,l,hl=>by
  obtain ⟨vs,hv,r⟩:=r
  exact RepL.solid cs vs r l hl
 | .bnd _ cs,_,r,l,hl=>by
  obtain ⟨vs,hv,r⟩:=r
  exact RepL.solid cs vs r l hl
 | .iface _ a,_,r,l,hl=>by
  obtain ⟨x,hv,r⟩:=r
  exact Rep.solid a x r l hl
 | .ptr _ _,_,r,l,hl=>by
  obtain ⟨cs,b,h1,_⟩:=r
  simp only [locs,List.mem_singleton] at hl
  subst hl
  rw [h1];simp
 | .own _ _,_,r,l,hl=>by
  obtain ⟨_,_,_,_,_,h1,_⟩:=r
  simp only [locs,List.mem_singleton] at hl
  subst hl
  rw [h1];simp
 | .optr _ _ _ _,_,r,l,hl=>by
  obtain ⟨_,_,_,_,h1,_⟩:=r
  simp only [locs,List.mem_singleton] at hl
  subst hl
  rw [h1];simp
 | .mp _,_,r,l,hl=>by
  obtain ⟨_,_,h1,_⟩:=r
  simp only [locs,List.mem_singleton] at hl
  subst hl
  rw [h1];simp
 | .tptr _ _ _,_,r,l,hl=>by
  obtain ⟨_,_,h1,_⟩:=r
  simp only [locs,List.mem_singleton] at hl
  subst hl
  rw [h1];simp
 | .town _ _ _,_,r,l,hl=>by
  obtain ⟨_,_,_,_,_,h1,_⟩:=r
  simp only [locs,List.mem_singleton] at hl
  subst hl
  rw [h1];simp
 | .vw _ _ _ _,_,r,l,hl=>by
  obtain ⟨_,_,_,_,_,h1,_⟩:=r
  simp only [locs,List.mem_singleton] at hl
  subst hl
  rw [h1];simp
 | .int _ _,_,_,_,hl=>by simp [locs] at hl
 | .bool _,_,_,_,hl=>by simp [locs] at hl
 | .str _,_,_,_,hl=>by simp [locs] at hl
 | .nilp,_,_,_,hl=>by simp [locs] at hl
 | .nilf,_,_,_,hl=>by simp [locs] at hl
 | .nili,_,_,_,hl=>by simp [locs] at hl
 | .emp _,_,_,_,hl=>by simp [locs] at hl
 | .nilm,_,_,_,hl=>by simp [locs] at hl
 | .nils,_,_,_,hl=>by simp [locs] at hl
 | .rows _,_,_,_,hl=>by simp [locs] at hl
 | .lit _,_,_,_,hl=>by simp [locs] at hl
 | .rptr _ _,_,_,_,hl=>by simp [locs] at hl
 | .any,_,_,_,hl=>by simp [locs] at hl
theorem RepL.solid:∀ (c:List AV) (vs:List Value),RepL μ h w c vs→∀ l,l∈locsL c→h[l]? ≠ some .hole
 | [],_,_,_,hl=>by simp [locsL] at hl
 | a::r,_,x,l,hl=>by
  obtain ⟨v,vr,hv,h1,h2⟩:=x
  simp only [locsL,List.mem_append] at hl
  rcases hl with hl | hl
  ·exact Rep.solid a v h1 l hl
  ·exact RepL.solid r vr h2 l hl
end
end
section
variable {Bs:World→Prop}
variable {C:Cfg} {F:Tk→Res} {dy:List (Nat×Nat)} {pl:Nat→Nat} {ops:Array Oper} {B:List (List Nat)} {N:Nat}
def Real (Bs:World→Prop) (N:Nat) (g:Nat→AV) (h:Heap):Prop:=∃ (μ:Mp Bs) (w:World) (t:Array Value),t.size=N∧Rel μ h w∧∀ i,Rep μ h w (g i) (t.getD i undef)
theorem wp_extract {P:Program} {o:Oper} {a:Act} {w:World} {R:Prop} (h:o.wp P a w (fun _ _=>R) (fun _ _ _=>False)):R:=by
 unfold Oper.wp at h
 generalize (execOp a.eval o).run P w=r at h
 cases r with
 | ok n w' =>
  cases n with
  | value v=>exact h
  | skip=>exact h
  | defer d=>exact h
  | enter f args =>
   obtain ⟨e,w'',fr,hR,_⟩:=h []
   cases e with
   | returned v=>exact hR
   | panicked c=>exact hR.elim
   | outgrown=>obtain ⟨_,_,hf⟩:=hR;exact hf.elim
  | row row args =>
   obtain ⟨v,w'',hR,_⟩:=h (Frame.ofRow P row args .normal) []
   exact hR
  | _=>exact False.elim h
 | halt x w'=>cases x<;>exact False.elim h
theorem stepQ_sound {a:Act} {o:Oper} {i:Nat} {ev:Operand→AV} {μ:Mp Bs} {h h':Heap} {w:World} {x:AV} (hF:Knows Bs C.P F) (hr:Rel μ h w) (he:EvRep μ h w ev a.eval) (e:stepQ C F dy pl i ev h o.op=some (x,h')):Goes C.P o a μ h w x h':=by
 unfold stepQ at e
 split at e
 ·cases hd:stepD C (lv F) ev h o.op with
  | none=>simp [hd,val] at e
  | some v =>
   simp only [hd,val,Option.some.injEq,Prod.mk.injEq] at e
   obtain ⟨rfl,rfl⟩:=e
   exact stepD_sound (lv_knows hF) hr he hd
 ·split at e
  ·exact stepA_goes hr he e
  ·split at e
   ·exact stepW_sound hF hr he e
   ·exact stepO_sound (C:=C.shut) hF hr he e
def FrG (μ:Mp Bs) (h:Heap) (w:World) (g:Nat→AV) (t:Array Value):Prop:=∀ i,Rep μ h w (g i) (t.getD i undef)
theorem evG_rep {μ:Mp Bs} {h:Heap} {w:World} {g:Nat→AV} {a:Act} (hf:FrG μ h w g a.tmps):EvRep μ h w (evF g) a.eval:=fun y=>by
 cases y with
 | tmp t=>exact hf t
 | const v=>exact Rep.pure _ _ (ofVal_rep v)
 | func f=>exact ⟨[],rfl,rfl⟩
 | global g=>trivial
theorem FrG.put {μ:Mp Bs} {h:Heap} {w:World} {g:Nat→AV} {a:Act} {d:Option Nat} {x:AV} {v:Value} (r:FrG μ h w g a.tmps) (hd:∀ i,d=some i→i < a.tmps.size) (hx:Rep μ h w x v):FrG μ h w (updF g d x) (a.put d v).tmps:=by
 cases d with
 | none=>exact r
 | some i =>
  intro j
  have hi:=hd i rfl
  by_cases hij:i=j
  ·subst hij
   simp only [updF,if_true,Act.put]
   simpa [Array.getD,hi] using hx
  ·simp only [updF,if_neg hij,Act.put]
   have:(a.tmps.setIfInBounds i v).getD j undef=a.tmps.getD j undef:=by
    simp only [Array.getD_eq_getD_getElem?]
    rw [Array.getElem?_setIfInBounds_ne hij]
   rw [this]
   exact r j
theorem FrG.ext {μ μ':Mp Bs} {h h':Heap} {w w':World} (e:Ext μ h w μ' h' w') {g:Nat→AV} {t:Array Value} (r:FrG μ h w g t):FrG μ' h' w' g t:=fun i=>Rep.ext e _ _ (r i)
theorem guard_wanted {μ:Mp Bs} {h:Heap} {w:World} {g:Nat→AV} {t:Array Value} {o:Oper} {b:Bool} (hf:FrG μ h w g t) (e:guardF ops g o=some b):Region.wanted o (yielded ops t)=b:=by
 unfold guardF at e
 unfold Region.wanted
 split at e
 ·rename_i hg
  simp only [Option.some.injEq] at e
  subst e
  simp only [hg]
 ·rename_i j want hg
  simp only [hg]
  have slot:∀ {v:AV},slotF g (slotOf ops.toList j)=v→v≠.any→∃ oj d,ops[j]? = some oj∧oj.dst=some d∧g d=v:=by
   intro v hv hne
   unfold slotOf at hv
   simp only [Array.getElem?_toList] at hv
   cases hj:ops[j]? with
   | none=>simp [hj,slotF] at hv;exact absurd hv.symm hne
   | some oj =>
    simp only [hj] at hv
    cases hd:oj.dst with
    | none=>simp [hd,slotF] at hv;exact absurd hv.symm hne
    | some d=>simp only [hd,slotF] at hv;exact ⟨oj,d,rfl,hd,hv⟩
  split at e
  ·rename_i c hc
   simp only [Option.some.injEq] at e
   subst e
   obtain ⟨oj,d,h1,h2,h3⟩:=slot hc (by simp)
   have h4:=hf d
   rw [h3] at h4
   have h5:t.getD d undef=.bool c:=h4
   have hy:yielded ops t j=some c:=by
    unfold yielded
    rw [Array.getD_eq_getD_getElem?] at h5
    cases hv:t[d]? with
    | none=>simp [hv,undef] at h5
    | some v =>
     simp only [hv,Option.getD_some] at h5
     subst h5
     simp [h1,h2,hv]
   rw [hy]
   cases c<;>cases want<;>rfl
  ·rename_i hc
   simp only [Option.some.injEq] at e
   subst e
   obtain ⟨oj,d,h1,h2,h3⟩:=slot hc (by simp)
   have h4:=hf d
   rw [h3] at h4
   obtain ⟨vs,h5,h6⟩:=h4
   have h6':vs=[]:=h6
   subst h6'
   have hy:yielded ops t j=none:=by
    unfold yielded
    rw [Array.getD_eq_getD_getElem?] at h5
    cases hv:t[d]? with
    | none=>simp [h1,h2,hv]
    | some v =>
     simp only [hv,Option.getD_some] at h5
     subst h5
     simp [h1,h2,hv]
   rw [hy]
   rfl
  ·simp at e
theorem stepI_wp {a:Act} {o:Oper} {i:Nat} {g:Nat→AV} {h h':Heap} {μ:Mp Bs} {w:World} {x:AV} {T:List Nat} {Q:Exit→Act→World→Prop} {K:Act→World→Prop} (hF:Knows Bs C.P F) (ho:ops[i]? = some o)
  (hfit:∀ d,o.dst=some d→d < a.tmps.size) (hr:Rel μ h w) (hf:FrG μ h w g a.tmps) (e:stepI C F dy pl ops i g h=some (x,h',T))
  (hK:∀ v μ' w',Rel μ' h' w'→Ext μ h w μ' h' w'→FrG μ' h' w' (updF g o.dst x) (a.put o.dst v).tmps→K (a.put o.dst v) w'):wpOp C.P ops Q i K a w:=by
 unfold stepI at e
 simp only [ho] at e
 unfold wpOp
 simp only [ho]
 cases hg:guardF ops g o with
 | none=>simp [hg] at e
 | some b =>
  rw [guard_wanted hf hg]
  cases b with
  | true =>
   simp only [hg] at e
   split at e
   ·rename_i y h1 hs
    simp only [Option.some.injEq,Prod.mk.injEq] at e
    obtain ⟨rfl,rfl,_⟩:=e
    refine .inl (stepQ_sound hF hr (evG_rep hf) hs _ _ ?_)
    intro v μ' w' q1 q2 q3
    exact hK v μ' w' q1 q2 ((hf.ext q2).put hfit q3)
   ·simp at e
  | false =>
   simp only [hg,Option.some.injEq,Prod.mk.injEq] at e
   obtain ⟨rfl,rfl,_⟩:=e
   exact hK undef μ w hr (Ext.refl _ _ _) (hf.put hfit undef_rep)
theorem Real.step {i:Nat} {o:Oper} {g:Nat→AV} {h h':Heap} {x:AV} {T:List Nat} (hF:Knows Bs C.P F) (ho:ops[i]? = some o) (hfit:OpsFit N ops) (r:Real Bs N g h) (e:stepI C F dy pl ops i g h=some (x,h',T)):Real Bs N (updF g o.dst x) h':=by
 obtain ⟨μ,w,t,hN,hr,hf⟩:=r
 have:=stepI_wp (Q:=fun _ _ _=>False) (K:=fun _ _=>Real Bs N (updF g o.dst x) h') (a:=⟨t,[]⟩) hF ho (by rw [hN];exact hfit i o ho) hr hf e
  (fun v μ' w' q1 q2 q3=>⟨μ',w',_,by rw [act_put_size];exact hN,q1,q3⟩)
 unfold wpOp at this
 simp only [ho] at this
 split at this
 ·rcases this with h1 | ⟨_,_,_,h1⟩
  ·exact wp_extract h1
  ·exact h1.elim
 ·exact this
theorem Real.solid {g:Nat→AV} {h:Heap} (r:Real Bs N g h) {s l:Nat} (hl:l∈locs (g s)):h[l]? ≠ some .hole:=by
 obtain ⟨μ,w,t,_,_,hf⟩:=r
 exact Rep.solid _ _ (hf s) l hl
theorem locsL_at:∀ {l:List AV} {x:Nat},x∈locsL l→∃ (c:Nat) (a:AV),l[c]? = some a∧x∈locs a
 | [],x,hx=>by simp [locsL] at hx
 | a::r,x,hx=>by
  simp only [locsL,List.mem_append] at hx
  rcases hx with hx | hx
  ·exact ⟨0,a,rfl,hx⟩
  ·obtain ⟨c,a',h1,h2⟩:=locsL_at hx
   exact ⟨c+1,a',by simpa using h1,h2⟩
theorem Real.blocks {g:Nat→AV} {h:Heap} (r:Real Bs N g h) {p:Nat} (hp:h[p]? = some .hole):∀ (l:Nat) (k:Blk),h[l]? = some k→p∉locsB k:=fun l k hk hx=>by
 obtain ⟨μ,w,t,_,hr,_⟩:=r
 have hb:=hr.blk l k hk
 cases k with
 | cells cs =>
  obtain ⟨b,vs,T,_,_,_,h4⟩:=hb
  exact RepL.solid cs vs h4 p hx hp
 | rows z rs wr =>
  rcases hb with ⟨h1,_⟩ | ⟨b,vs,T,_,_,_,h4⟩
  ·rw [show locsB (.rows z rs wr)=[] from h1.locs] at hx;simp at hx
  ·have hz:∀ rs:List (List AV),p∈locsR rs→∃ (i:Nat) (row:List AV),rs[i]? = some row∧p∈locsL row:=by
    intro rs
    induction rs with
    | nil=>intro hx;simp [locsR] at hx
    | cons row r ih =>
     intro hx
     simp only [locsR,List.mem_append] at hx
     rcases hx with hx | hx
     ·exact ⟨0,row,rfl,hx⟩
     ·obtain ⟨i,row',h1,h2⟩:=ih hx
      exact ⟨i+1,row',by simpa using h1,h2⟩
   obtain ⟨i,row,h5,h6⟩:=hz rs hx
   obtain ⟨_,_,h7⟩:=h4 i row h5
   obtain ⟨c,a,h8,h9⟩:=locsL_at h6
   obtain ⟨u,_,h10⟩:=h7 c a h8
   exact Rep.solid a u h10 p h9 hp
 | hole=>simp [locsB] at hx
 | map es=>simp [locsB] at hx
theorem Real.hole {i:Nat} {o:Oper} {g:Nat→AV} {h h':Heap} {x:AV} {T:List Nat} (hF:Knows Bs C.P F) (ho:ops[i]? = some o) (hfit:OpsFit N ops) (r:Real Bs N g h) (e:stepI C F dy pl ops i g h=some (x,h',T)):∀ p,p < h.length→h'[p]? = some .hole→h[p]? = some .hole:=by
 obtain ⟨μ,w,t,hN,hr,hf⟩:=r
 have:=stepI_wp (Q:=fun _ _ _=>False) (K:=fun _ _=>∀ p,p < h.length→h'[p]? = some .hole→h[p]? = some .hole) (a:=⟨t,[]⟩) hF ho (by rw [hN];exact hfit i o ho) hr hf e
  (fun v μ' w' q1 q2 q3 p hp hh=>by
   cases hb:h[p]? with
   | none=>rw [List.getElem?_eq_none_iff] at hb;omega
   | some k =>
    cases k with
    | hole=>rfl
    | cells cs=>obtain ⟨⟨cs',h1⟩,_⟩:=q2.cells p cs hb;rw [hh] at h1;simp at h1
    | rows z rs wr=>obtain ⟨rs',wr',h1,_⟩:=q2.rows p z rs wr hb;rw [hh] at h1;simp at h1
    | map es=>obtain ⟨⟨es',h1⟩,_⟩:=q2.maps p es hb;rw [hh] at h1;simp at h1)
 unfold wpOp at this
 simp only [ho] at this
 split at this
 ·rcases this with h1 | ⟨_,_,_,h1⟩
  ·exact wp_extract h1
  ·exact h1.elim
 ·exact this
theorem Real.lt {g:Nat→AV} {h:Heap} (r:Real Bs N g h) {s l:Nat} (hl:l∈locs (g s)):l < h.length:=by
 obtain ⟨μ,w,t,_,_,hf⟩:=r
 exact Rep.locs_lt _ _ (hf s) l hl
def Closed (B:List (List Nat)) (L:Array Bool):Prop:=∀ k,L.getD k false=true→∀ i,bit B k i=true→L.getD i false=true
theorem listed_not {L:Array Bool} {i:Nat} (h:L.getD i true=false):L.getD i false=false:=by
 rcases Nat.lt_or_ge i L.size with h' | h'
 ·simp [h'] at h ⊢;exact h
 ·simp [Array.getElem?_eq_none h'] at h
theorem ready_bits (hO:Ordered dy ops B) {L:Array Bool} (hc:Closed B L) {j i:Nat} (hj:j∈Region.ready .any ops L) (hb:bit B j i=true):L.getD i false=true:=by
 obtain ⟨_,o,ho,hall⟩:=mem_ready.1 hj
 obtain ⟨e,he,hbi,h⟩:=hO.cert j o ho i hb
 have hl:=hall e he hbi
 rcases h with h | h
 ·rw [←h];exact hl
 ·exact hc _ hl i h
theorem not_bit (hO:Ordered dy ops B) {L:Array Bool} (hc:Closed B L) {j i:Nat} (hj:j∈Region.ready .any ops L) (hi:i∈Region.ready .any ops L):bit B j i=false:=by
 cases hb:bit B j i with
 | false=>rfl
 | true =>
  have h1:=ready_bits hO hc hj hb
  rw [listed_not (mem_ready.1 hi).1] at h1
  cases h1
theorem Closed.step (hO:Ordered dy ops B) {L:Array Bool} (hc:Closed B L) {j:Nat} (hj:j∈Region.ready .any ops L):Closed B (L.setIfInBounds j true):=by
 intro k hk i hb
 by_cases hkj:j=k
 ·subst hkj
  exact getD_set_true (ready_bits hO hc hj hb)
 ·rw [getD_set_ne false hkj] at hk
  exact getD_set_true (hc k hk i hb)
theorem unordered (hO:Ordered dy ops B) {L:Array Bool} (hc:Closed B L) {i j:Nat} {oi oj:Oper} (hi:i∈Region.ready .any ops L) (hj:j∈Region.ready .any ops L) (hij:i≠j) (ho:ops[i]? = some oi) (ho':ops[j]? = some oj) :
  (∀ d,oi.dst=some d→d∉oj.looksAt ops)∧(∀ d,oi.dst=some d→oj.dst≠some d)∧(∀ d,oj.dst=some d→d∉oi.looksAt ops)∧(compat dy i j oi oj=true∨compat dy j i oj oi=true):=by
 rcases Nat.lt_or_gt_of_ne hij with h | h
 ·rcases hO.pair i j oi oj h ho ho' with h1 | ⟨h1,h2⟩
  ·rw [not_bit hO hc hj hi] at h1;cases h1
  ·obtain ⟨a1,a2,a3⟩:=Oper.apart_spec h1
   exact ⟨a1,a2,a3,.inl h2⟩
 ·rcases hO.pair j i oj oi h ho' ho with h1 | ⟨h1,h2⟩
  ·rw [not_bit hO hc hi hj] at h1;cases h1
  ·obtain ⟨a1,a2,a3⟩:=Oper.apart_spec h1
   exact ⟨a3,fun d hd he=>a2 d he hd,a1,.inr h2⟩
inductive Mix (dy:List (Nat×Nat)) (i j:Nat) (oi oj:Oper):Prop where
 | both (h1:isQ dy i oi.op=true) (h2:isQ dy j oj.op=true)
 | left (h1:isQ dy i oi.op=true) (h2:alo oj.op=true∨∀ s,s∈readsT oi.op→(j,s)∈dy)
 | right (h1:isQ dy j oj.op=true) (h2:alo oi.op=true∨∀ s,s∈readsT oj.op→(i,s)∈dy)
 | makes (h1:alo oi.op=true) (h2:alo oj.op=true)
 | memL (h1:memC oi.op=true) (h0:isQ dy i oi.op=false) (h2:alo oj.op=true)
 | memR (h1:alo oi.op=true) (h2:memC oj.op=true) (h0:isQ dy j oj.op=false)
 | ins (hp:insPair oi oj=true) (h1:∀ s,s∈readsT oi.op→(j,s)∈dy) (h2:∀ s,s∈readsT oj.op→(i,s)∈dy)
 | sto (p q:Nat) (hp:stPair oi oj=some (p,q)) (h1:(j,p)∈dy) (h2:(i,q)∈dy)
theorem stPair_symm {oi oj:Oper} {p q:Nat} (h:stPair oi oj=some (p,q)):stPair oj oi=some (q,p)∧p∈readsT oi.op∧q∈readsT oj.op:=by
 unfold stPair at h
 split at h
 ·simp only [Option.some.injEq,Prod.mk.injEq] at h
  obtain ⟨rfl,rfl⟩:=h
  exact ⟨rfl,by simp [readsT,readsO],by simp [readsT,readsO]⟩
 ·simp at h
theorem insPair_symm {oi oj:Oper} (h:insPair oi oj=true):insPair oj oi=true:=by
 unfold insPair at h
 split at h
 ·simp only [Bool.and_eq_true,decide_eq_true_eq,Bool.not_eq_true',beq_eq_false_iff_ne] at h
  obtain ⟨rfl,rfl,hk⟩:=h
  simp only [insPair,Bool.and_eq_true,decide_eq_true_eq,Bool.not_eq_true',beq_eq_false_iff_ne]
  exact ⟨trivial,trivial,fun e=>hk e.symm⟩
 ·simp at h
theorem mix_of {i j:Nat} {oi oj:Oper} (h:compat dy i j oi oj=true):Mix dy i j oi oj:=by
 unfold compat at h
 split at h
 ·rename_i h1
  split at h
  ·rename_i h2;exact .both h1 h2
  ·simp only [Bool.or_eq_true,List.all_eq_true,List.contains_iff_mem] at h
   exact .left h1 h
 ·split at h
  ·rename_i h2
   simp only [Bool.or_eq_true,List.all_eq_true,List.contains_iff_mem] at h
   exact .right h2 h
  ·rename_i q1 q2
   simp only [Bool.or_eq_true,Bool.and_eq_true,List.all_eq_true,List.contains_iff_mem] at h
   rcases h with h | h | h | h | h
   ·exact .makes h.1 h.2
   ·exact .memL h.1 (by simpa using q1) h.2
   ·exact .memR h.1 h.2 (by simpa using q2)
   ·exact .ins h.1 h.2.1 h.2.2
   ·unfold stOk at h
    split at h
    ·rename_i p q hp
     simp only [Bool.and_eq_true,List.contains_iff_mem] at h
     exact .sto p q hp h.1 h.2
    ·simp at h
theorem Mix.swap {i j:Nat} {oi oj:Oper} (h:Mix dy i j oi oj):Mix dy j i oj oi:=by
 cases h with
 | both h1 h2=>exact .both h2 h1
 | left h1 h2=>exact .right h1 h2
 | right h1 h2=>exact .left h1 h2
 | makes h1 h2=>exact .makes h2 h1
 | memL h1 h0 h2=>exact .memR h2 h1 h0
 | memR h1 h2 h0=>exact .memL h2 h0 h1
 | ins hp h1 h2=>exact .ins (insPair_symm hp) h2 h1
 | sto p q hp h1 h2=>exact .sto q p (stPair_symm hp).1 h2 h1
def PlInj (pl:Nat→Nat) (ops:Array Oper):Prop:=∀ (i j:Nat) (oi oj:Oper),ops[i]? = some oi→ops[j]? = some oj→alo oi.op=true→alo oj.op=true→i≠j→pl i≠pl j
def PlLt (pl:Nat→Nat) (ops:Array Oper) (n:Nat):Prop:=∀ (i:Nat) (oi:Oper),ops[i]? = some oi→alo oi.op=true→pl i < n∧pl 0≤pl i
theorem diamond {i j:Nat} (hF:Knows Bs C.P F) (hfit:OpsFit N ops) (hpl:PlInj pl ops) (hij:i≠j) {oi oj:Oper} {g:Nat→AV} {h h' h'':Heap} {x y:AV} {T T':List Nat} (ho:ops[i]? = some oi) (ho':ops[j]? = some oj)
  (a1:∀ d,oi.dst=some d→d∉oj.looksAt ops) (a3:∀ d,oj.dst=some d→d∉oi.looksAt ops) (hm:Mix dy i j oi oj) (hr:Real Bs N g h) (hlt:PlLt pl ops h.length)
  (h1:stepI C F dy pl ops i g h=some (x,h',T)) (h2:stepI C F dy pl ops j (updF g oi.dst x) h'=some (y,h'',T'))
  (ci:∀ s,(i,s)∈dy→s∈readsT oj.op→∀ l,l∈locs (g s)→l∉T) (cj:∀ s,(j,s)∈dy→s∈readsT oi.op→∀ l,l∈locs (g s)→l∉T') :
  ∃ h2,stepI C F dy pl ops j g h=some (y,h2,T')∧stepI C F dy pl ops i (updF g oj.dst y) h2=some (x,h'',T):=by
 have fj:∀ h,stepI C F dy pl ops j (updF g oi.dst x) h=stepI C F dy pl ops j g h:=fun h=>stepI_congr ho' fun t ht=>updF_other fun e=>a1 t e ht
 have fi:∀ h,stepI C F dy pl ops i (updF g oj.dst y) h=stepI C F dy pl ops i g h:=fun h=>stepI_congr ho fun t ht=>updF_other fun e=>a3 t e ht
 rw [fj] at h2
 have case1:isQ dy i oi.op=true→(isQ dy j oj.op=true∨alo oj.op=true∨∀ s,s∈readsT oi.op→(j,s)∈dy)→∃ h2,stepI C F dy pl ops j g h=some (y,h2,T')∧stepI C F dy pl ops i (updF g oj.dst y) h2=some (x,h'',T):=by
  intro q hc
  obtain ⟨rfl,rfl⟩:=stepI_quiet ho q h1
  refine ⟨h'',h2,?_⟩
  rw [fi]
  rcases hc with q' | hc
  ·obtain ⟨rfl,rfl⟩:=stepI_quiet ho' q' h2
   exact h1
  ·refine stepI_local ho q (fun s hs l hl=>?_) h1
   refine ((stepI_away h2).2 l (hr.lt hl) ?_ (hr.solid hl)).symm
   rcases hc with hc | hc
   ·rw [stepI_alo ho' hc h2];simp
   ·exact cj s (hc s hs) hs l hl
 cases hm with
 | both q q'=>exact case1 q (.inl q')
 | left q hc=>exact case1 q (.inr hc)
 | right q hc =>
  obtain ⟨rfl,rfl⟩:=stepI_quiet ho' q h2
  have h3:stepI C F dy pl ops j g h=some (y,h,[]):=by
   refine stepI_local ho' q (fun s hs l hl=>?_) h2
   refine (stepI_away h1).2 l (hr.lt hl) ?_ (hr.solid hl)
   rcases hc with hc | hc
   ·rw [stepI_alo ho hc h1];simp
   ·exact ci s (hc s hs) hs l hl
  exact ⟨h,h3,by rw [fi];exact h1⟩
 | makes ai aj =>
  obtain ⟨rfl,c1⟩:=stepI_allo ho ai h1
  obtain ⟨rfl,c2⟩:=stepI_allo ho' aj h2
  have hne:=hpl i j oi oj ho ho' ai aj hij
  rcases c1 with ⟨rfl,s1⟩ | ⟨b1,p1,rfl,s1⟩
  ·exact ⟨h'',h2,by rw [fi];exact s1 _⟩
  ·rcases c2 with ⟨rfl,s2⟩ | ⟨b2,p2,rfl,s2⟩
   ·exact ⟨h,s2 h,by rw [fi];exact h1⟩
   ·rw [List.getElem?_set_ne hne] at p2
    refine ⟨h.set (pl j) b2,s2 h p2,?_⟩
    rw [fi,s1 _ (by rw [List.getElem?_set_ne (fun e=>hne e.symm)];exact p1),List.set_comm _ _ (fun e=>hne e.symm)]
 | memL hm hq aj =>
  obtain ⟨rfl,c2⟩:=stepI_allo ho' aj h2
  rcases c2 with ⟨rfl,s2⟩ | ⟨b2,p2,rfl,s2⟩
  ·exact ⟨h,s2 h,by rw [fi];exact h1⟩
  ·have hh:=hr.hole hF ho hfit h1 _ (hlt j oj ho' aj).1 p2
   refine ⟨h.set (pl j) b2,s2 h hh,?_⟩
   rw [fi,(stepI_fill ho hm hq (hlt j oj ho' aj).2 (hlt j oj ho' aj).1 (hr.blocks hh) (fun s hs=>hr.solid hs hh)).1,h1]
 | memR ai hm hq =>
  obtain ⟨rfl,c1⟩:=stepI_allo ho ai h1
  rcases c1 with ⟨rfl,s1⟩ | ⟨b1,p1,rfl,s1⟩
  ·exact ⟨h'',h2,by rw [fi];exact s1 _⟩
  ·obtain ⟨q1,q2⟩:=stepI_fill (C:=C) (F:=F) (dy:=dy) (pl:=pl) (g:=g) (b:=b1) ho' hm hq (hlt i oi ho ai).2 (hlt i oi ho ai).1 (hr.blocks p1) (fun s hs=>hr.solid hs p1)
   rw [q1] at h2
   cases hs:stepI C F dy pl ops j g h with
   | none=>rw [hs] at h2;simp at h2
   | some r =>
    obtain ⟨y',h3,T3⟩:=r
    rw [hs] at h2
    simp only [Option.some.injEq,Prod.mk.injEq] at h2
    obtain ⟨rfl,rfl,rfl⟩:=h2
    exact ⟨h3,rfl,by rw [fi];exact s1 h3 (by rw [q2 _ _ _ hs];exact p1)⟩
 | ins hp e1 e2 =>
  obtain ⟨h3,q1,q2⟩:=ins_diamond ho ho' hp h1 h2 (fun s hs=>ci s (e2 s hs) hs) (fun s hs=>cj s (e1 s hs) hs)
  exact ⟨h3,q1,by rw [fi];exact q2⟩
 | sto p q hp e1 e2 =>
  obtain ⟨_,r1,r2⟩:=stPair_symm hp
  obtain ⟨h3,q1,q2⟩:=sto_diamond ho ho' hp h1 h2 (ci q e2 r2) (cj p e1 r1)
  exact ⟨h3,q1,by rw [fi];exact q2⟩
def ClearG (dy:List (Nat×Nat)) (i:Nat) (G:Nat→AV) (T:List Nat):Prop:=∀ s,(i,s)∈dy→∀ l,l∈locs (G s)→l∉T
def aAny (C:Cfg) (F:Tk→Res) (dy:List (Nat×Nat)) (pl:Nat→Nat) (ops:Array Oper) (G:Nat→AV) (H:Heap):Nat→Array Bool→(Nat→AV)→Heap→Prop
 | 0,L,g,h=>Region.ready .any ops L=[]∧g=G∧h=H
 | n+1,L,g,h=>(Region.ready .any ops L=[]→g=G∧h=H)∧∀ i,i∈Region.ready .any ops L→∀ o,ops[i]? = some o →
   ∃ x h' T,stepI C F dy pl ops i g h=some (x,h',T)∧ClearG dy i G T∧aAny C F dy pl ops G H n (L.setIfInBounds i true) (updF g o.dst x) h'
theorem aAny_keep {G:Nat→AV} {H:Heap} {s:Nat}:∀ (n:Nat) (L:Array Bool) (g:Nat→AV) (h:Heap),aAny C F dy pl ops G H n L g h→(∀ (k:Nat) (o:Oper),ops[k]? = some o→o.dst=some s→L.getD k true=true)→G s=g s
 | 0,L,g,h,ha,_=>by rw [ha.2.1]
 | n+1,L,g,h,ha,hs=>by
  by_cases hr:Region.ready .any ops L=[]
  ·rw [(ha.1 hr).1]
  ·obtain ⟨i,hi⟩:∃ i,i∈Region.ready .any ops L:=by
    cases hl:Region.ready .any ops L with
    | nil=>exact absurd hl hr
    | cons i r=>exact ⟨i,by simp⟩
   obtain ⟨h0,o,ho,_⟩:=mem_ready.1 hi
   obtain ⟨x,h',T,_,_,h3⟩:=ha.2 i hi o ho
   have:=aAny_keep n _ _ _ h3 fun k ok hk hd=>by
    by_cases hik:i=k
    ·subst hik
     rcases Nat.lt_or_ge i L.size with h' | h'
     ·simp [h']
     ·simp [Array.getElem?_eq_none h']
    ·rw [getD_set_ne true hik];exact hs k ok hk hd
   rw [this]
   refine updF_other fun e=>?_
   have:=hs i o ho e
   rw [h0] at this
   cases this
theorem slots_done (hO:Ordered dy ops B) {L:Array Bool} (hc:Closed B L) {j:Nat} {oj:Oper} (hj:j∈Region.ready .any ops L) (ho:ops[j]? = some oj) {s:Nat} (hs:s∈readsT oj.op) :
  ∀ (k:Nat) (o:Oper),ops[k]? = some o→o.dst=some s→L.getD k true=true:=fun k o hk hd=>by
 have h1:=ready_bits hO hc hj (hO.reads j oj ho s hs k o hk hd)
 rcases Nat.lt_or_ge k L.size with h' | h'
 ·simp [h'] at h1 ⊢;exact h1
 ·simp [Array.getElem?_eq_none h'] at h1
theorem aAny_first (hF:Knows Bs C.P F) (hpl:PlInj pl ops) (hO:Ordered dy ops B) (hfit:OpsFit N ops) {G:Nat→AV} {H:Heap} {i:Nat} {oi:Oper} (ho:ops[i]? = some oi) :
  ∀ (n:Nat) (L:Array Bool) (g:Nat→AV) (h h':Heap) (x:AV) (T:List Nat),i∈Region.ready .any ops L→Closed B L→Real Bs N g h→PlLt pl ops h.length→stepI C F dy pl ops i g h=some (x,h',T)→ClearG dy i G T →
   aAny C F dy pl ops G H n (L.setIfInBounds i true) (updF g oi.dst x) h'→aAny C F dy pl ops G H (n+1) L g h:=by
 intro n
 induction n with
 | zero =>
  intro L g h h' x T hi hc hr hlt hs hcl ha
  refine ⟨fun e=>by rw [e] at hi;simp at hi,fun j hj oj hoj=>?_⟩
  by_cases hji:j=i
  ·subst hji
   rw [ho] at hoj
   simp only [Option.some.injEq] at hoj
   subst hoj
   exact ⟨x,h',T,hs,hcl,ha⟩
  ·have:=ready_mono hj hji
   rw [ha.1] at this
   simp at this
 | succ n ih =>
  intro L g h h' x T hi hc hr hlt hs hcl ha
  refine ⟨fun e=>by rw [e] at hi;simp at hi,fun j hj oj hoj=>?_⟩
  by_cases hji:j=i
  ·subst hji
   rw [ho] at hoj
   simp only [Option.some.injEq] at hoj
   subst hoj
   exact ⟨x,h',T,hs,hcl,ha⟩
  ·obtain ⟨y,h'',T',h1,h2,h3⟩:=ha.2 j (ready_mono hj hji) oj hoj
   obtain ⟨a1,a2,a3,hm⟩:=unordered hO hc hi hj (fun e=>hji e.symm) ho hoj
   have hmix:Mix dy i j oi oj:=hm.elim mix_of fun hm=>(mix_of hm).swap
   have keep:∀ {k:Nat} {ok:Oper},k∈Region.ready .any ops L→ops[k]? = some ok→∀ s,s∈readsT ok.op→G s=g s:=fun {k ok} hk hok s hsr=>by
    have hd:=slots_done hO hc hk hok hsr
    have h4:=aAny_keep (n+1) _ _ _ ha (s:=s) fun q o hq hqd=>by
     by_cases hiq:i=q
     ·subst hiq
      rcases Nat.lt_or_ge i L.size with h' | h'
      ·simp [h']
      ·simp [Array.getElem?_eq_none h']
     ·rw [getD_set_ne true hiq];exact hd q o hq hqd
    rw [h4]
    refine updF_other fun e=>?_
    have:=hd i oi ho e
    rw [(mem_ready.1 hi).1] at this
    cases this
   obtain ⟨h4,h5,h6⟩:=diamond hF hfit hpl (fun e=>hji e.symm) ho hoj a1 a3 hmix hr hlt hs h1
    (fun s hsd hsr l hl=>hcl s hsd l (by rw [keep hj hoj s hsr];exact hl)) (fun s hsd hsr l hl=>h2 s hsd l (by rw [keep hi ho s hsr];exact hl))
   refine ⟨y,h4,T',h5,h2,ih (L.setIfInBounds j true) _ h4 h'' x T (ready_mono hi (fun e=>hji e.symm)) (hc.step hO hj) (hr.step hF hoj hfit h5) (fun q oq hq haq=>⟨Nat.lt_of_lt_of_le (hlt q oq hq haq).1 (stepI_away h5).1,(hlt q oq hq haq).2⟩) h6 hcl ?_⟩
   rw [Array.setIfInBounds_comm _ _ hji,updF_comm (g:=g) (d:=oj.dst) (e:=oi.dst) fun s hsd he=>a2 s he hsd]
   exact h3
theorem any_wp (hF:Knows Bs C.P F) {G:Nat→AV} {H:Heap} {Q:Exit→Act→World→Prop}:∀ (n:Nat) (L:Array Bool) (g:Nat→AV) (h:Heap) (a:Act) (μ:Mp Bs) (w:World),
  aAny C F dy pl ops G H n L g h→OpsFit a.tmps.size ops→Rel μ h w→FrG μ h w g a.tmps →
  (∀ a' μ' w',Rel μ' H w'→Ext μ h w μ' H w'→FrG μ' H w' G a'.tmps→a'.tmps.size=a.tmps.size→a'.defers=a.defers→Q .normal a' w')→wpAny C.P .any ops Q n L a w
 | 0,L,g,h,a,μ,w,ha,_,hr,hf,hQ=>by
  obtain ⟨h1,rfl,rfl⟩:=ha
  exact ⟨h1,hQ a μ w hr (Ext.refl _ _ _) hf rfl rfl⟩
 | n+1,L,g,h,a,μ,w,ha,hfit,hr,hf,hQ=>by
  refine ⟨fun e=>?_,fun i hi=>?_⟩
  ·obtain ⟨rfl,rfl⟩:=ha.1 e
   exact hQ a μ w hr (Ext.refl _ _ _) hf rfl rfl
  ·obtain ⟨_,o,ho,_⟩:=mem_ready.1 hi
   obtain ⟨x,h',T,h1,_,h3⟩:=ha.2 i hi o ho
   refine stepI_wp hF ho (hfit i o ho) hr hf h1 ?_
   intro v μ' w' q1 q2 q3
   refine any_wp hF n _ _ h' (a.put o.dst v) μ' w' h3 (by rw [act_put_size];exact hfit) q1 q3 ?_
   intro a' μ2 w2 p1 p2 p3 p4 p5
   exact hQ a' μ2 w2 p1 (q2.trans p2) p3 (by rw [p4,act_put_size]) (by rw [p5,act_put_defers])
def upTo (N:Nat) (k:Nat):Array Bool:=((List.range N).map fun i=>decide (i < k)).toArray
theorem upTo_get {M k i:Nat} (d:Bool) (h:i < M):(upTo M k).getD i d=decide (i < k):=by
 simp [upTo,h]
theorem upTo_zero (M:Nat):upTo M 0=Array.replicate M false:=by
 apply Array.ext
 ·simp [upTo]
 ·intro i h1 h2;simp [upTo]
theorem upTo_step {M k:Nat}:(upTo M k).setIfInBounds k true=upTo M (k+1):=by
 apply Array.ext
 ·simp [upTo]
 ·intro i h1 h2
  have hi:i < M:=by simpa [upTo] using h2
  by_cases hik:k=i
  ·subst hik
   simp [upTo]
  ·rw [Array.getElem_setIfInBounds_ne (by simpa [upTo] using hi) hik]
   simp [upTo]
   omega
theorem ready_lex (hO:Ordered dy ops B) {k:Nat} {o:Oper} (ho:ops[k]? = some o):k∈Region.ready .any ops (upTo ops.size k):=by
 have hk:k < ops.size:=(Array.getElem?_eq_some_iff.1 ho).1
 refine mem_ready.2 ⟨by rw [upTo_get _ hk];simp,o,ho,fun e he hb=>?_⟩
 have:=hO.lex k o ho e he hb
 rw [upTo_get _ (by omega)]
 simpa using this
theorem ready_end {k:Nat} (hk:ops.size≤k):Region.ready .any ops (upTo ops.size k)=[]:=by
 apply List.eq_nil_iff_forall_not_mem.2
 intro i hi
 obtain ⟨h1,o,ho,_⟩:=mem_ready.1 hi
 have hlt:i < ops.size:=(Array.getElem?_eq_some_iff.1 ho).1
 rw [upTo_get _ hlt] at h1
 simp at h1
 omega
theorem closed_lex (hO:Ordered dy ops B):∀ k,k≤ops.size→Closed B (upTo ops.size k)
 | 0,_=>fun i hi=>by
  exfalso
  rcases Nat.lt_or_ge i ops.size with h' | h'
  ·rw [upTo_get _ h'] at hi;simp at hi
  ·have:(upTo ops.size 0).size≤i:=by simpa [upTo] using h'
   simp [Array.getElem?_eq_none this] at hi
 | k+1,hk=>by
  rw [←upTo_step]
  exact (closed_lex hO k (by omega)).step hO (ready_lex hO (Array.getElem?_eq_getElem (by omega)))
theorem clears_spec {fr:Fr} {T:List Nat} {i:Nat}:∀ {d:List (Nat×Nat)},clears d i fr T=true→ClearG d i (get fr) T
 | [],_,s,hs,_,_=>by simp at hs
 | (j,s')::r,e,s,hs,l,hl=>by
  simp only [clears,Bool.and_eq_true] at e
  rcases List.mem_cons.1 hs with h | h
  ·simp only [Prod.mk.injEq] at h
   obtain ⟨rfl,rfl⟩:=h
   have e1:=e.1
   simp only [if_true,Bool.not_eq_true',List.any_eq_false,List.contains_iff_mem] at e1
   exact e1 l hl
  ·exact clears_spec e.2 s h l hl
theorem lex_any (hF:Knows Bs C.P F) (hpl:PlInj pl ops) (hO:Ordered dy ops B) (hfit:OpsFit N ops) {G:Fr} {H:Heap}:∀ (rest:List Oper) (k:Nat) (fr:Fr) (h:Heap) (l:List (Nat×List Nat)),
  ops.toList.drop k=rest→k≤ops.size→Real Bs N (get fr) h→PlLt pl ops h.length→aOpsD C F dy pl ops.toList k rest fr h=some (G,H,l)→clearAll dy G l=true→aAny C F dy pl ops (get G) H (ops.size - k) (upTo ops.size k) (get fr) h
 | [],k,fr,h,l,hd,hk,hr,hlt0,e,hcl=>by
  have hn:ops.size≤k:=by
   have:=congrArg List.length hd
   simp at this
   omega
  have:ops.size - k=0:=by omega
  rw [this]
  simp only [aOpsD,Option.some.injEq,Prod.mk.injEq] at e
  obtain ⟨rfl,rfl,_⟩:=e
  exact ⟨ready_end hn,rfl,rfl⟩
 | o::rest,k,fr,h,l,hd,hk,hr,hlt0,e,hcl=>by
  have hlt:k < ops.size:=by
   have:=congrArg List.length hd
   simp at this
   omega
  have ho:ops[k]? = some o:=by
   have:=congrArg (fun l=>l[0]?) hd
   simp only [List.getElem?_drop,Nat.add_zero,List.getElem?_cons_zero,Array.getElem?_toList] at this
   exact this
  have hd':ops.toList.drop (k+1)=rest:=by
   have:=congrArg List.tail hd
   simpa [List.tail_drop] using this
  have hsz:ops.size - k=(ops.size - (k+1))+1:=by omega
  rw [hsz]
  have step:∀ {x:AV} {h':Heap} {T:List Nat} {l':List (Nat×List Nat)},stepI C F dy pl ops k (get fr) h=some (x,h',T)→aOpsD C F dy pl ops.toList (k+1) rest (put fr o.dst x) h'=some (G,H,l')→clearAll dy G l'=true→ClearG dy k (get G) T →
    aAny C F dy pl ops (get G) H (ops.size - (k+1)+1) (upTo ops.size k) (get fr) h:=by
   intro x h' T l' hs hn hcl' hc
   refine aAny_first hF hpl hO hfit ho _ _ _ _ h' x T (ready_lex hO ho) (closed_lex hO k hk) hr hlt0 hs hc ?_
   rw [upTo_step,←get_put]
   refine lex_any hF hpl hO hfit rest (k+1) _ h' l' hd' hlt ?_ (fun q oq hq haq=>⟨Nat.lt_of_lt_of_le (hlt0 q oq hq haq).1 (stepI_away hs).1,(hlt0 q oq hq haq).2⟩) hn hcl'
   rw [get_put]
   exact hr.step hF ho hfit hs
  have go:∀ (hg:guardF ops (get fr) o=some true),(match stepQ C F dy pl k (ev fr) h o.op with
    | some (v,h')=>match aOpsD C F dy pl ops.toList (k+1) rest (put fr o.dst v) h' with
     | some (fr',h'',l)=>some (fr',h'',(k,chg h h' (touchesQ (pl 0) dy k (ev fr) h o.op))::l)
     | none=>none
    | none=>none)=some (G,H,l)→aAny C F dy pl ops (get G) H (ops.size - (k+1)+1) (upTo ops.size k) (get fr) h:=by
   intro hg e
   split at e
   ·rename_i v h' hs
    split at e
    ·rename_i fr' h'' l' hn
     simp only [Option.some.injEq,Prod.mk.injEq] at e
     obtain ⟨rfl,rfl,rfl⟩:=e
     simp only [clearAll,Bool.and_eq_true] at hcl
     refine step (T:=chg h h' (touchesQ (pl 0) dy k (ev fr) h o.op)) ?_ hn hcl.2 (clears_spec hcl.1)
     rw [ev_evF] at hs ⊢
     unfold stepI
     simp only [ho,hg,hs]
    ·simp at e
   ·simp at e
  have skip:∀ (hg:guardF ops (get fr) o=some false),aOpsD C F dy pl ops.toList (k+1) rest (put fr o.dst (.tup [])) h=some (G,H,l)→aAny C F dy pl ops (get G) H (ops.size - (k+1)+1) (upTo ops.size k) (get fr) h:=by
   intro hg e
   refine step (x:=.tup []) (h':=h) (T:=[]) ?_ e hcl (fun _ _ _ _=>by simp)
   unfold stepI
   simp only [ho,hg]
  simp only [aOpsD] at e
  split at e
  ·rename_i hg
   exact go (by unfold guardF;simp only [hg]) e
  ·rename_i j want hg
   split at e
   ·rename_i b hb
    rw [slot_eq] at hb
    split at e
    ·rename_i hbw
     exact go (by unfold guardF;simp only [hg,hb,hbw,decide_true]) e
    ·rename_i hbw
     exact skip (by unfold guardF;simp only [hg,hb,hbw,decide_false]) e
   ·rename_i hb
    rw [slot_eq] at hb
    exact skip (by unfold guardF;simp only [hg,hb]) e
   ·simp at e
theorem numA_take_lt:∀ (l:List Oper) (i j:Nat) (o:Oper),l[i]? = some o→alo o.op=true→i < j→numA (l.take i) < numA (l.take j)
 | [],i,j,o,e,_,_=>by simp at e
 | a::l,0,j,o,e,ha,hj=>by
  simp only [List.getElem?_cons_zero,Option.some.injEq] at e
  subst e
  obtain ⟨j,rfl⟩:∃ k,j=k+1:=⟨j - 1,by omega⟩
  simp only [List.take_zero,List.take_succ_cons,numA,ha,if_true]
  omega
 | a::l,i+1,j,o,e,ha,hj=>by
  obtain ⟨j,rfl⟩:∃ k,j=k+1:=⟨j - 1,by omega⟩
  simp only [List.take_succ_cons,numA]
  have:=numA_take_lt l i j o (by simpa using e) ha (by omega)
  omega
theorem plOf_inj (n:Nat):PlInj (plOf n ops.toList) ops:=fun i j oi oj hi hj ai aj hij=>by
 have hi':ops.toList[i]? = some oi:=by simpa using hi
 have hj':ops.toList[j]? = some oj:=by simpa using hj
 unfold plOf
 rcases Nat.lt_or_gt_of_ne hij with h | h
 ·have:=numA_take_lt ops.toList i j oi hi' ai h
  omega
 ·have:=numA_take_lt ops.toList j i oj hj' aj h
  omega
theorem numA_le:∀ (l:List Oper) (i:Nat),numA (l.take i)≤numA l
 | [],_=>by simp
 | a::l,0=>by simp [numA]
 | a::l,i+1=>by
  simp only [List.take_succ_cons,numA]
  have:=numA_le l i
  omega
theorem numA_lt {l:List Oper} {i:Nat} {o:Oper} (e:l[i]? = some o) (ha:alo o.op=true):numA (l.take i) < numA l:=by
 have h1:=numA_take_lt l i (i+1) o e ha (by omega)
 have h2:=numA_le l (i+1)
 omega
theorem plOf_lt (n:Nat) (h:Heap):PlLt (plOf h.length ops.toList) ops (h++List.replicate (numA ops.toList) Blk.hole).length:=fun i oi hi ai=>by
 have:=numA_lt (l:=ops.toList) (by simpa using hi) ai
 simp only [plOf,List.length_append,List.length_replicate,List.take_zero,numA]
 omega
theorem holes_rel {μ:Mp Bs} {w:World}:∀ (n:Nat) (h:Heap),Rel μ h w→∃ μ',Rel μ' (h++List.replicate n .hole) w∧Ext μ h w μ' (h++List.replicate n .hole) w
 | 0,h,hr=>⟨μ,by simpa using hr,by simpa using Ext.refl μ h w⟩
 | n+1,h,hr=>by
  have hp:=Ext.push hr .hole none
  have hr':Rel (μ.set h.length none) (h++[.hole]) w:=Rel.push hr .hole none (set_same _ _)
  obtain ⟨μ',h1,h2⟩:=holes_rel n (h++[.hole]) hr'
  have e:h++[.hole]++List.replicate n Blk.hole=h++List.replicate (n+1) .hole:=by simp [List.replicate_succ]
  rw [e] at h1 h2
  exact ⟨μ',h1,hp.trans h2⟩
theorem draw_sound (hF:Knows Bs C.P F) (hO:Ordered dy ops B) {Q:Exit→Act→World→Prop} {id:Nat} {fr fr':Fr} {h h':Heap} {a:Act} {μ:Mp Bs} {w:World} (hm:C.P.follows .mixedOrders=true) (hfit:OpsFit a.tmps.size ops) (hr:Rel μ h w) (hf:FrRel μ h w fr a.tmps)
  (e:shutD dy (aOpsD C F dy (plOf h.length ops.toList) ops.toList 0 ops.toList fr (h++List.replicate (numA ops.toList) .hole))=some (fr',h')) (hQ:Ends μ h w a fr' h' Q):(Code.region id ops true).wp C.P Q a w:=by
 unfold shutD at e
 split at e
 ·rename_i fr1 h1 l hl
  split at e
  ·rename_i hcl
   simp only [Option.some.injEq,Prod.mk.injEq] at e
   obtain ⟨rfl,rfl⟩:=e
   refine wp_region_any hm ?_
   obtain ⟨μ1,hr1,ex1⟩:=holes_rel (numA ops.toList) h hr
   have hf1:FrRel μ1 (h++List.replicate (numA ops.toList) .hole) w fr a.tmps:=FrRel.ext ex1 hf
   have hr':=drew_rel hr1
   have ex:=drew_ext (μ:=μ1) (h:=h++List.replicate (numA ops.toList) .hole) (w:=w)
   have hf':FrG μ1 (h++List.replicate (numA ops.toList) .hole) (drewW w) (get fr) a.tmps:=FrRel.ext ex hf1
   have hreal:Real Bs a.tmps.size (get fr) (h++List.replicate (numA ops.toList) .hole):=⟨μ1,w,a.tmps,rfl,hr1,hf1⟩
   have:=lex_any hF (plOf_inj h.length) hO hfit ops.toList 0 fr _ l (by simp) (by omega) hreal (plOf_lt 0 h) hl hcl
   rw [upTo_zero,Nat.sub_zero] at this
   refine any_wp hF ops.size _ _ _ a μ1 (drewW w) this hfit hr' hf' ?_
   intro a' μ' w' q1 q2 q3 q4 q5
   exact hQ a' μ' w' q1 (ex1.trans (ex.trans q2)) q3 q4 q5
  ·simp at e
 ·simp at e
end
section
variable {Bs:World→Prop}
def pickMp (μ:Mp Bs) (ls:List Nat):Mp Bs :=
 ⟨fun i=>match ls[i]? with
  | some l=>μ l
  | none=>none,μ.out,μ.still⟩
end
section
variable {Bs:World→Prop}
variable {P:Program} {μ μ0:Mp Bs} {h hs h0:Heap} {w w0:World} {ls:List Nat}
theorem pick_at {i l:Nat} (e:ls[i]? = some l):(pickMp μ ls) i=μ l:=by simp only [pickMp,e]
theorem IsPart.pmut (hp:IsPart h ls hs) {b o:Nat} (hx:Mut (pickMp μ ls) hs b o):Mut μ h b o:=by
 rcases hx with ho | ⟨i,k,hi,hm,ho⟩
 ·exact .inl ho
 ·obtain ⟨l,e,_⟩:=hp.nth (List.getElem?_eq_some_iff.1 hi).1
  obtain ⟨b',h1,h2⟩:=hp.there i l e
  rw [hi] at h2
  simp only [Option.some.injEq] at h2
  subst h2
  rw [pick_at e] at hm
  exact .inr ⟨l,b',h1,hm,(open_ren _ _ _).1 ho⟩
theorem IsPart.pkeeps (hp:IsPart h ls hs) {l:Nat} (hl:l∈ls):KeepsAt μ h (pickMp μ ls) hs (posOf ls) l:=fun k hk=>by
 have hat:=posOf_at ls l hl
 obtain ⟨b,h1,h2⟩:=hp.there _ l hat
 rw [hk] at h1
 simp only [Option.some.injEq] at h1
 subst h1
 exact ⟨h2,pick_at hat⟩
theorem IsPart.prep (hp:IsPart h ls hs) {a:AV} {v:Value} (hu:∀ i,i∈locs a→i∈ls) (r:Rep μ h w a v):Rep (pickMp μ ls) hs w (ren (posOf ls) a) v :=
 Rep.ren (fun _ _ hx=>hp.pmut hx) a v (fun i hi=>hp.pkeeps (hu i hi)) r
theorem IsPart.prel (hp:IsPart h ls hs) (hr:Rel μ h w):Rel (pickMp μ ls) hs w where
 inj:=fun i j b hi hj hm hm'=>by
  obtain ⟨l,e,hl⟩:=hp.nth hi
  obtain ⟨l',e',hl'⟩:=hp.nth hj
  rw [pick_at e] at hm
  rw [pick_at e'] at hm'
  have:l=l':=hr.inj l l' b (hp.lt hl) (hp.lt hl') hm hm'
  subst this
  rw [←posOf_nth ls i l hp.nodup e,←posOf_nth ls j l hp.nodup e']
 blk:=fun i k hi=>by
  obtain ⟨l,e,hl⟩:=hp.nth (List.getElem?_eq_some_iff.1 hi).1
  obtain ⟨b',h1,h2⟩:=hp.there i l e
  rw [hi] at h2
  simp only [Option.some.injEq] at h2
  subst h2
  have hi0:=hi
  have:=hr.blk l b' h1
  cases b' with
  | cells cs =>
   obtain ⟨b,vs,T,h3,h4,h5,h6⟩:=this
   refine ⟨b,vs,T,by rw [pick_at e];exact h3,h4,by rw [singles_ren];exact h5,RepL.ren (fun _ _ hx=>hp.pmut hx) cs vs (fun j hj=>hp.pkeeps ?_) h6⟩
   refine (posOf_lt ls j).1 (hp.closed _ (locsH_at hi _ ?_))
   show _∈locsL (renL _ cs)
   rw [locsL_ren]
   exact List.mem_map_of_mem hj
  | rows z rs wr =>
   rcases this with ⟨h3,h4⟩ | ⟨b,vs,T,h3,h4,h5,h6⟩
   ·exact .inl ⟨h3.ren _,by rw [pick_at e];exact h4⟩
   ·refine .inr ⟨b,vs,T,by rw [pick_at e];exact h3,by rw [renR_len];exact h4,by rw [renR_len];exact h5,h6.ren fun a v hi r=>Rep.ren (fun _ _ hx=>hp.pmut hx) a v (fun j hj=>hp.pkeeps ((posOf_lt ls j).1 (hp.closed _ (locsH_at hi0 _ ?_)))) r⟩
    show _∈locsR (renR _ rs)
    rw [locsR_ren]
    exact List.mem_map_of_mem (hi j hj)
  | hole =>
   show (pickMp μ ls) i=none
   rw [pick_at e];exact this
  | map es =>
   obtain ⟨b,ms,c,h3,h4,h5⟩:=this
   exact ⟨b,ms,c,by rw [pick_at e];exact h3,h4,h5.keep fun b o v hc hm=>⟨hc,fun hx=>hm (hp.pmut hx)⟩⟩
 apart:=fun i b o hi hm ho=>by
  obtain ⟨l,e,hl⟩:=hp.nth hi
  rw [pick_at e] at hm
  exact hr.apart l b o (hp.lt hl) hm ho
 still:=fun b hb=>⟨(hr.still b hb).1,fun i hi hx=>by
  obtain ⟨l,e,hl⟩:=hp.nth hi
  rw [pick_at e] at hx
  exact (hr.still b hb).2 l (hp.lt hl) hx⟩
 base:=hr.base
 old:=hr.old
theorem IsPart.pext (hp:IsPart h ls hs) (hk:∀ i,i < h0.length→ls[i]? = some i) (hle:h0.length≤ls.length) (e:Ext μ0 h0 w0 μ h w):Ext μ0 h0 w0 (pickMp μ ls) hs w where
 out:=e.out
 still:=e.still
 os:=e.os
 tape:=e.tape
 output:=e.output
 size:=e.size
 len:=by rw [hp.len];exact hle
 keep:=fun b o v hc hm=>by
  obtain ⟨h1,h2⟩:=e.keep b o v hc hm
  exact ⟨h1,fun hx=>h2 (hp.pmut hx)⟩
 outside:=fun b hb ho=>by
  obtain ⟨h1,h2⟩:=e.outside b hb ho
  refine ⟨h1,fun i hi hx=>?_⟩
  obtain ⟨l,e',hl⟩:=hp.nth hi
  rw [pick_at e'] at hx
  exact h2 l (hp.lt hl) hx
 cells:=fun l cs hl=>by
  obtain ⟨⟨cs',h1⟩,h2⟩:=e.cells l cs hl
  have hat:=hk l (List.getElem?_eq_some_iff.1 hl).1
  obtain ⟨b',h3,h4⟩:=hp.there l l hat
  rw [h1] at h3
  simp only [Option.some.injEq] at h3
  subst h3
  exact ⟨⟨_,h4⟩,by rw [pick_at hat];exact h2⟩
 rows:=fun l z rs wr hl=>by
  obtain ⟨rs',wr',h1,h2,h2'⟩:=e.rows l z rs wr hl
  have hat:=hk l (List.getElem?_eq_some_iff.1 hl).1
  obtain ⟨b',h3,h4⟩:=hp.there l l hat
  rw [h1] at h3
  simp only [Option.some.injEq] at h3
  subst h3
  exact ⟨_,wr',h4,by rw [renR_len];exact h2,fun q=>by rw [pick_at hat];exact h2' (by rw [renR_len] at q;exact q)⟩
 maps:=fun l es hl=>by
  obtain ⟨⟨es',h1⟩,h2⟩:=e.maps l es hl
  have hat:=hk l (List.getElem?_eq_some_iff.1 hl).1
  obtain ⟨b',h3,h4⟩:=hp.there l l hat
  rw [h1] at h3
  simp only [Option.some.injEq] at h3
  subst h3
  exact ⟨⟨_,h4⟩,by rw [pick_at hat];exact h2⟩
 sizes:=e.sizes
theorem reach_more (h:Heap):∀ (n:Nat) (l s:List Nat),∃ t,reach h n l s=s++t
 | 0,l,s=>⟨[],by simp [reach]⟩
 | n+1,[],s=>⟨[],by simp [reach]⟩
 | n+1,x::l,s=>by
  simp only [reach]
  split
  ·exact reach_more h n l s
  ·split
   ·obtain ⟨t,ht⟩:=reach_more h n (l++locsB _) (s++[x])
    exact ⟨x::t,by rw [ht];simp⟩
   ·obtain ⟨t,ht⟩:=reach_more h n l (s++[x])
    exact ⟨x::t,by rw [ht];simp⟩
theorem settle_sound {k:Nat} {r0 r:AV} {v:Value} {h':Heap} (hk:h0.length=k) (hr:Rel μ h w) (ex:Ext μ0 h0 w0 μ h w) (hv:Rep μ h w r0 v) (e:settle k h r0=some (r,h')):∃ μ':Mp Bs,Rel μ' h' w∧Ext μ0 h0 w0 μ' h' w∧Rep μ' h' w r v:=by
 subst hk
 unfold settle settleBy at e
 obtain ⟨t,ht⟩:=reach_more h 1000 (locsH (h.take h0.length)++locs r0) (List.range h0.length)
 have hnd:=reach_nodup h 1000 (locsH (h.take h0.length)++locs r0) (List.range h0.length) List.nodup_range
 generalize reach h 1000 (locsH (h.take h0.length)++locs r0) (List.range h0.length)=ls at e ht hnd
 split at e
 ·rename_i hs hsub
  split at e
  ·rename_i hc
   simp only [Option.some.injEq,Prod.mk.injEq] at e
   obtain ⟨rfl,rfl⟩:=e
   obtain ⟨h1,h4⟩:=sub_at h _ _ _ hsub
   have hp:IsPart h ls hs:=⟨hnd,h1,h4,under_mem hc.1⟩
   refine ⟨pickMp μ ls,hp.prel hr,hp.pext (fun i hi=>?_) ?_ ex,hp.prep (fun i hi=>(posOf_lt _ _).1 (under_mem hc.2 _ (List.mem_map_of_mem hi))) hv⟩
   ·rw [ht,List.getElem?_append_left (by simpa using hi)]
    simp [hi]
   ·rw [ht];simp
  ·simp at e
 ·simp at e
def killH (h:Heap) (l z n:Nat) (rs2:List (List AV)):Heap:=h.set l (.rows z (List.replicate (n+1) []) true)++[.rows z rs2 true]
theorem killH_len {l z n:Nat} {rs2:List (List AV)}:(killH h l z n rs2).length=h.length+1:=by simp [killH]
theorem killH_new {l z n:Nat} {rs2:List (List AV)}:(killH h l z n rs2)[h.length]? = some (.rows z rs2 true):=by
 unfold killH
 rw [List.getElem?_append_right (by simp)]
 simp
theorem killH_dead {l z n:Nat} {rs2:List (List AV)} (hl:l < h.length):(killH h l z n rs2)[l]? = some (.rows z (List.replicate (n+1) []) true):=by
 unfold killH
 rw [List.getElem?_append_left (by simpa using hl),List.getElem?_set_self hl]
theorem killH_old {l z n i:Nat} {rs2:List (List AV)} (hi:i < h.length) (hil:i≠l):(killH h l z n rs2)[i]? = h[i]? := by
 unfold killH
 rw [List.getElem?_append_left (by simpa using hi),List.getElem?_set_ne (fun e=>hil e.symm)]
theorem Ext.kill {l z b:Nat} {rs rs2:List (List AV)} (hl:h[l]? = some (.rows z rs true)) (hm:μ l=some b) :
  Ext μ h w ((μ.set l none).set h.length (some b)) (killH h l z rs.length rs2) w:=by
 have hlt:l < h.length:=(List.getElem?_eq_some_iff.1 hl).1
 have old:∀ i,i < h.length→i≠l→((μ.set l none).set h.length (some b)) i=μ i:=fun i hi hil=>by
  rw [set_other _ (by omega),set_other _ hil]
 exact {
  out:=rfl
  still:=rfl
  os:=rfl
  tape:=rfl
  output:=rfl
  size:=Nat.le_refl _
  len:=by rw [killH_len];omega
  keep:=fun b' o v hc hno=>⟨hc,by
   rintro (ho | ⟨l',k',hl',hm',ho⟩)
   ·exact hno (.inl ho)
   ·have hlt':l' < h.length+1:=by
     have:=(List.getElem?_eq_some_iff.1 hl').1
     rw [killH_len] at this
     exact this
    by_cases h1:l'=h.length
    ·subst h1
     rw [set_same] at hm'
     simp only [Option.some.injEq] at hm'
     subst hm'
     exact hno (.inr ⟨l,_,hl,hm,.inl rfl⟩)
    ·by_cases h2:l'=l
     ·subst h2
      rw [set_other _ h1,set_same] at hm'
      simp at hm'
     ·rw [old l' (by omega) h2] at hm'
      rw [killH_old (by omega) h2] at hl'
      exact hno (.inr ⟨l',k',hl',hm',ho⟩)⟩
  outside:=fun b' _ ho=>⟨rfl,fun l' hl' hm'=>by
   rw [killH_len] at hl'
   by_cases h1:l'=h.length
   ·subst h1
    rw [set_same] at hm'
    simp only [Option.some.injEq] at hm'
    subst hm'
    exact ho l hlt hm
   ·by_cases h2:l'=l
    ·subst h2
     rw [set_other _ h1,set_same] at hm'
     simp at hm'
    ·rw [old l' (by omega) h2] at hm'
     exact ho l' (by omega) hm'⟩
  cells:=fun l' cs hl'=>by
   have hlt':=(List.getElem?_eq_some_iff.1 hl').1
   have hne:l'≠l:=fun e=>by subst e;rw [hl] at hl';simp at hl'
   exact ⟨⟨cs,by rw [killH_old hlt' hne];exact hl'⟩,old l' hlt' hne⟩
  maps:=fun l' es hl'=>by
   have hlt':=(List.getElem?_eq_some_iff.1 hl').1
   have hne:l'≠l:=fun e=>by subst e;rw [hl] at hl';simp at hl'
   exact ⟨⟨es,by rw [killH_old hlt' hne];exact hl'⟩,old l' hlt' hne⟩
  rows:=fun l' z' rs' wr' hl'=>by
   have hlt':=(List.getElem?_eq_some_iff.1 hl').1
   by_cases hne:l'=l
   ·subst hne
    rw [hl] at hl'
    simp only [Option.some.injEq,Blk.rows.injEq] at hl'
    obtain ⟨rfl,rfl,rfl⟩:=hl'
    exact ⟨_,true,killH_dead hlt,by simp,fun e=>by simp at e⟩
   ·exact ⟨rs',wr',by rw [killH_old hlt' hne];exact hl',Nat.le_refl _,fun _=>old l' hlt' hne⟩
  sizes:=fun b' vs T hb=>⟨vs,hb,rfl⟩ }
theorem Rel.kill {l z b:Nat} {rs rs2:List (List AV)} {vs:Array Value} {T:TypeId} (hr:Rel μ h w) (hl:h[l]? = some (.rows z rs true)) (hm:μ l=some b) (hw:w.heap[b]? = some (.cells vs T (0,0))) (hsz:rs2.length*z≤vs.size) (hin:RowsN μ h w z rs2 vs) :
  Rel ((μ.set l none).set h.length (some b)) (killH h l z rs.length rs2) w:=by
 have hlt:l < h.length:=(List.getElem?_eq_some_iff.1 hl).1
 have ex:Ext μ h w ((μ.set l none).set h.length (some b)) (killH h l z rs.length rs2) w:=Ext.kill hl hm
 have old:∀ i,i < h.length→i≠l→((μ.set l none).set h.length (some b)) i=μ i:=fun i hi hil=>by
  rw [set_other _ (by omega),set_other _ hil]
 have val:∀ i b',i < h.length+1→((μ.set l none).set h.length (some b)) i=some b'→(i=h.length∧b'=b)∨(i < h.length∧i≠l∧μ i=some b'):=fun i b' hi he=>by
  by_cases h1:i=h.length
  ·subst h1
   rw [set_same] at he
   simp only [Option.some.injEq] at he
   exact .inl ⟨rfl,he.symm⟩
  ·by_cases h2:i=l
   ·subst h2
    rw [set_other _ h1,set_same] at he
    simp at he
   ·rw [old i (by omega) h2] at he
    exact .inr ⟨by omega,h2,he⟩
 exact {
  inj:=fun i j b' hi hj hmi hmj=>by
   rw [killH_len] at hi hj
   rcases val i b' hi hmi with ⟨h1,h2⟩ | ⟨h1,h2,h3⟩<;>rcases val j b' hj hmj with ⟨h4,h5⟩ | ⟨h4,h5,h6⟩
   ·omega
   ·subst h2
    exact absurd (hr.inj j l b' h4 hlt h6 hm) h5
   ·subst h5
    exact absurd (hr.inj i l b' h1 hlt h3 hm) h2
   ·exact hr.inj i j b' h1 h4 h3 h6
  blk:=fun i k hi=>by
   have hil:i < h.length+1:=by
    have:=(List.getElem?_eq_some_iff.1 hi).1
    rw [killH_len] at this
    exact this
   by_cases h1:i=h.length
   ·subst h1
    rw [killH_new] at hi
    simp only [Option.some.injEq] at hi
    subst hi
    exact .inr ⟨b,vs,T,set_same _ _,.free hw,hsz,hin.ext ex⟩
   ·by_cases h2:i=l
    ·subst h2
     rw [killH_dead hlt] at hi
     simp only [Option.some.injEq] at hi
     subst hi
     exact .inl ⟨fun row hrow=>List.eq_of_mem_replicate hrow,by rw [set_other _ h1,set_same]⟩
    ·rw [killH_old (by omega) h2] at hi
     have:=hr.blk i k hi
     have hμ:=old i (by omega) h2
     cases k with
     | cells cs =>
      obtain ⟨b',vs',T',h3,h4,h5,h6⟩:=this
      exact ⟨b',vs',T',hμ.trans h3,h4,h5,RepL.ext ex cs vs' h6⟩
     | rows z' rs' wr' =>
      rcases this with ⟨h3,h4⟩ | ⟨b',vs',T',h3,h4,h5,h6⟩
      ·exact .inl ⟨h3,hμ.trans h4⟩
      ·exact .inr ⟨b',vs',T',hμ.trans h3,h4,h5,h6.ext ex⟩
     | hole=>exact hμ.trans this
     | map es =>
      obtain ⟨b',ms,c,h3,h4,h5⟩:=this
      exact ⟨b',ms,c,hμ.trans h3,h4,h5.keep ex.keep⟩
  apart:=fun i b' o hi hmi=>by
   rw [killH_len] at hi
   rcases val i b' hi hmi with ⟨_,h2⟩ | ⟨h1,_,h3⟩
   ·subst h2
    exact hr.apart l b' o hlt hm
   ·exact hr.apart i b' o h1 h3
  old:=hr.old
  still:=(hr.carry ex).1
  base:=(hr.carry ex).2 }
theorem unview_sound {x:AV} {v:Value} (hr:Rel μ h w) (hx:Rep μ h w x v):∃ μ':Mp Bs,Rel μ' (unview h x).2 w∧Ext μ h w μ' (unview h x).2 w∧Rep μ' (unview h x).2 w (unview h x).1 v:=by
 have stay:∃ μ':Mp Bs,Rel μ' h w∧Ext μ h w μ' h w∧Rep μ' h w x v:=⟨μ,hr,Ext.refl _ _ _,hx⟩
 unfold unview
 split
 ·rename_i l n m
  split
  ·rename_i z rs hl
   split
   ·rename_i hc
    obtain ⟨hn,hmn,h0⟩:=hc
    obtain ⟨cap,b,vs,T,rfl,h5,h6,hm,⟨fz,hw,hfz⟩,hlv,hcz,hin⟩:=view_rows hr hl hn (by omega) hx
    have hfz0:fz=(0,0):=by
     rcases hfz with h | ⟨h,_⟩
     ·exact h
     ·simp at h
    subst hfz0
    have hlen:(rs.take m).length=m:=by simp;omega
    have hsz:(rs.take m).length*z≤vs.size:=by
     rw [hlen]
     exact Nat.le_trans (Nat.mul_le_mul_right _ (by omega:m≤rs.length)) hlv
    have hin2:RowsN μ h w z (rs.take m) vs:=fun i row hrow=>by
     rw [List.getElem?_take] at hrow
     split at hrow
     ·exact hin i row hrow
     ·simp at hrow
    have q1:=Rel.kill hr hl hm hw hsz hin2
    have q2:Ext μ h w ((μ.set l none).set h.length (some b)) (killH h l z rs.length (rs.take m)) w:=Ext.kill hl hm
    rw [hn] at q1 q2
    refine ⟨_,q1,q2,?_⟩
    refine ⟨z,rs.take m,true,_,cap,killH_new,by rw [hlen];exact Nat.le_refl _,rfl,fun _=>⟨by omega,fun h00=>by omega,.inr ⟨b,vs,T,by simp,set_same _ _,⟨_,hw⟩,by simpa using hcz⟩⟩⟩
   ·split
    ·rename_i hm0
     subst hm0
     obtain ⟨z2,rs2,wr2,base,cap,h1,h2,rfl,h4⟩:=hx
     exact ⟨μ,hr,Ext.refl _ _ _,base,cap,rfl,Nat.zero_le _,.inl rfl⟩
    ·exact stay
  ·exact stay
 ·exact stay
end
section
variable {Bs:World→Prop}
def CodeOk (C:Cfg) (f n:Nat):Code→Prop
 | .region id ops draw=>OpsFit n ops∧(draw=true→∃ B,Ordered (C.dyn f id) ops B)
 | .seq a b=>CodeOk C f n a∧CodeOk C f n b
 | .cond _ a b=>CodeOk C f n a∧CodeOk C f n b
 | .block _ c=>CodeOk C f n c
 | .loop c=>CodeOk C f n c
 | _=>True
def GoodF (C:Cfg) (f:Nat):Prop:=∃ fn c,C.P.funcs[f]? = some fn∧fn.body=some c∧(fn.name == "runtime.NumGoroutine")=false∧CodeOk C f fn.ntmps c
structure CfgOk (Bs:World→Prop) (C:Cfg):Prop where
 prim:∀ f args v,C.prim f args=some v→Go.Proofs.Enters C.P f∧Called Bs C.P f args [] v []
 primH:∀ f args h r h',C.primH f args h=some (r,h')→Go.Proofs.Enters C.P f∧Called Bs C.P f args h r h'
 good:∀ f,C.good f=true→GoodF C f
 mixed:C.P.follows .mixedOrders=true
def ItOk (C:Cfg) (f n:Nat):It→Prop
 | .code c=>CodeOk C f n c
 | .blk _ _=>True
 | .lp c _ _=>CodeOk C f n c
 | .pst _ _=>True
def ItsOk (C:Cfg) (f n:Nat) (ks:List It):Prop:=∀ x,x∈ks→ItOk C f n x
def items:List It→List Item
 | []=>[]
 | .code c::ks=>.code c::items ks
 | .blk id _::ks=>.inBlock id::items ks
 | .lp c _ _::ks=>.inLoop c::items ks
 | .pst _ _::ks=>items ks
theorem unwind_items {id n:Nat}:∀ {ks ks':List It},Go.Ab.unwind id ks=some (n,ks')→exitTo id (items ks)=some (items ks')∧∀ x,x∈ks'→x∈ks
 | [],_,e=>by simp [Go.Ab.unwind] at e
 | .blk j m::ks,ks',e=>by
  simp only [Go.Ab.unwind] at e
  by_cases hj:j=id
  ·simp only [hj,if_true,Option.some.injEq,Prod.mk.injEq] at e
   obtain ⟨_,rfl⟩:=e
   exact ⟨by simp [items,exitTo,hj],fun x hx=>List.mem_cons_of_mem _ hx⟩
  ·simp only [hj,if_false] at e
   obtain ⟨h1,h2⟩:=unwind_items e
   exact ⟨by simp [items,exitTo,hj,h1],fun x hx=>List.mem_cons_of_mem _ (h2 x hx)⟩
 | .code c::ks,ks',e=>by
  simp only [Go.Ab.unwind] at e
  obtain ⟨h1,h2⟩:=unwind_items e
  exact ⟨by simp [items,exitTo,h1],fun x hx=>List.mem_cons_of_mem _ (h2 x hx)⟩
 | .lp c _ _::ks,ks',e=>by
  simp only [Go.Ab.unwind] at e
  obtain ⟨h1,h2⟩:=unwind_items e
  exact ⟨by simp [items,exitTo,h1],fun x hx=>List.mem_cons_of_mem _ (h2 x hx)⟩
 | .pst _ _::ks,ks',e=>by
  simp only [Go.Ab.unwind] at e
  obtain ⟨h1,h2⟩:=unwind_items e
  exact ⟨by simp [items,h1],fun x hx=>List.mem_cons_of_mem _ (h2 x hx)⟩
def Ran (P:Program) (fn:Func) (m:Machine) (b:Frame) (cs:List Frame) (μ0:Mp Bs) (h0:Heap) (w0:World) (r:AV) (h':Heap):Prop :=
 ∃ (a':Act) (todo:List Item) (w':World) (v:Value) (μ':Mp Bs),Steps P m (lone { b.at a' todo with mode:=.returning } cs w')∧a'.defers=[]∧(results fn a'.tmps).run P w'=.ok v w'∧Rel μ' h' w'∧Ext μ0 h0 w0 μ' h' w'∧Rep μ' h' w' r v
theorem Ran.of_steps {P:Program} {fn:Func} {m m':Machine} {b:Frame} {cs:List Frame} {μ0:Mp Bs} {h0:Heap} {w0:World} {r:AV} {h':Heap} (hs:Steps P m m') (h:Ran P fn m' b cs μ0 h0 w0 r h'):Ran P fn m b cs μ0 h0 w0 r h':=by
 obtain ⟨a',todo,w',v,μ',h1,h2⟩:=h
 exact ⟨a',todo,w',v,μ',hs.trans h1,h2⟩
def Runs (Bs:World→Prop) (C:Cfg) (F:Tk→Res):Prop :=
 ∀ f k ks fr h r h',F (.run f k ks fr h)=some (r,h')→∀ fn,C.P.funcs[f]? = some fn→ItsOk C f fn.ntmps ks→∀ (b:Frame) (cs:List Frame) (a:Act) (μ:Mp Bs) (w:World) (μ0:Mp Bs) (h0:Heap) (w0:World),
  h0.length=k→Rel μ h w→Ext μ0 h0 w0 μ h w→FrRel μ h w fr a.tmps→fn.ntmps≤a.tmps.size→a.defers=[]→Ran C.P fn (lone (b.at a (items ks)) cs w) b cs μ0 h0 w0 r h'
end
section
variable {Bs:World→Prop}
variable {C:Cfg} {F:Tk→Res} {μ μ0:Mp Bs} {h h0 h':Heap} {w w0:World}
theorem ok_cast {P:Program} {t:TypeId} {v u:Value} (e:(Instr.loadAt t v).run P w=.ok u w):(do loadVar t (←asAddr v):Sem Value).run P w=.ok u w:=by
 cases v with
 | pointer p =>
  cases p with
  | some a=>simpa [Instr.loadAt,Instr.sureAddr,asAddr] using e
  | none=>simp [Instr.loadAt,Instr.sureAddr,stuck] at e
 | _=>simp [Instr.loadAt,Instr.sureAddr,stuck] at e
def resOne (t:Array Value):ResultVar→Sem Value
 | .tmp i=>pure (t.getD i undef)
 | .cell a ty=>do loadVar ty (←asAddr (t.getD a undef))
theorem resL_sound {P:Program} {fr:Fr} {t:Array Value} (hr:Rel μ h w) (hf:FrRel μ h w fr t):∀ (l:List ResultVar) (vs:List AV),resL P fr h l=some vs→∃ us:List Value,RepL μ h w vs us∧(l.mapM (resOne t)).run P w=.ok us w
 | [],vs,e=>by
  simp only [resL,Option.some.injEq] at e
  subst e
  exact ⟨[],rfl,by simp⟩
 | x::l,vs,e=>by
  simp only [resL] at e
  split at e
  ·rename_i v hv
   split at e
   ·rename_i vs' hvs
    simp only [Option.some.injEq] at e
    subst e
    obtain ⟨us,h1,h2⟩:=resL_sound hr hf l vs' hvs
    cases x with
    | tmp i =>
     simp only [resV,Option.some.injEq] at hv
     subst hv
     exact ⟨_::us,⟨_,us,rfl,hf i,h1⟩,by simp [List.mapM_cons,resOne,h2]⟩
    | cell i t' =>
     simp only [resV] at hv
     obtain ⟨u,h3,h4⟩:=aLoad_sound hr hv (hf i)
     have h5:=ok_cast h3
     refine ⟨u::us,⟨u,us,rfl,h4,h1⟩,?_⟩
     have h6:(resOne t (.cell i t')).run P w=.ok u w:=h5
     simp [List.mapM_cons,h6,h2]
   ·simp at e
  ·simp at e
theorem tup_rep {vs:List AV} {us:List Value} (r:RepL μ h w vs us):Rep μ h w (tupOf vs) (if h:us.toArray.size=1 then us.toArray[0] else .tuple us.toArray):=by
 match vs,us,r with
 | [],us,r =>
  have:us=[]:=r
  subst this
  exact ⟨[],rfl,rfl⟩
 | [a],us,r =>
  obtain ⟨v,vr,rfl,h1,h2⟩:=r
  have:vr=[]:=h2
  subst this
  simpa [tupOf] using h1
 | a::b::l,us,r =>
  obtain ⟨v,vr,rfl,h1,v',vr',rfl,h2,h3⟩:=r
  have:¬((v::v'::vr').toArray.size=1):=by simp
  rw [dif_neg this]
  exact ⟨_,rfl,v,_,rfl,h1,v',_,rfl,h2,h3⟩
theorem results_sound {P:Program} {fn:Func} {fr:Fr} {t:Array Value} {vs:List AV} (hr:Rel μ h w) (hf:FrRel μ h w fr t) (e:resL P fr h fn.results.toList=some vs):∃ v,(results fn t).run P w=.ok v w∧Rep μ h w (tupOf vs) v:=by
 obtain ⟨us,h1,h2⟩:=resL_sound hr hf _ _ e
 refine ⟨_,?_,tup_rep h1⟩
 have:results fn t=(do
   let vs ←fn.results.mapM (resOne t)
   pure (if h:vs.size=1 then vs[0] else .tuple vs)):=rfl
 rw [this,Array.mapM_eq_mapM_toList]
 simp [h2]
theorem ret_sound {f k:Nat} {fr:Fr} {r:AV} {fn:Func} {b:Frame} {cs:List Frame} {a:Act} {todo:List Item} (hfn:C.P.funcs[f]? = some fn) (e:retOf C f k fr h=some (r,h')) (hk:h0.length=k) (hr:Rel μ h w) (ex:Ext μ0 h0 w0 μ h w) (hf:FrRel μ h w fr a.tmps) (hd:a.defers=[]) :
  Ran C.P fn (lone { b.at a todo with mode:=.returning } cs w) b cs μ0 h0 w0 r h':=by
 unfold retOf at e
 simp only [hfn] at e
 unfold leaving at e
 split at e
 ·rename_i vs hvs
  obtain ⟨v,h1,h2⟩:=results_sound hr hf hvs
  have cutEnd:∀ {keep:Bool},guardU k h (leaveR k h (leave keep k h (tupOf vs)))=some (r,h')→Ran C.P fn (lone { b.at a todo with mode:=.returning } cs w) b cs μ0 h0 w0 r h':=by
   intro keep e
   unfold guardU at e
   split at e
   ·rename_i hu
    unfold leaveR at e
    split at e
    ·rename_i a1 ha
     simp only [Option.some.injEq,Prod.mk.injEq] at e
     obtain ⟨rfl,rfl⟩:=e
     exact ⟨a,todo,w,v,μ,.refl _ _,hd,h1,hr.cut hu,ex.cut (by omega),leave_sound hr _ _ v ha h2⟩
    ·simp at e
   ·simp at e
  have nilEnd:∀ z,under k (locsH (h.take k))=true→tupOf vs=.nils→some (AV.own k 0,h.take k++[Blk.rows z [] false])=some (r,h')→Ran C.P fn (lone { b.at a todo with mode:=.returning } cs w) b cs μ0 h0 w0 r h':=by
   intro z hu hx e
   rw [hx] at h2
   simp only [Option.some.injEq,Prod.mk.injEq] at e
   obtain ⟨rfl,rfl⟩:=e
   have hcut:=hr.cut hu
   have hlen:(h.take k).length=k:=by
    have:=ex.length_le
    simp
    omega
   have hp:=Ext.push hcut (.rows z [] false) none
   have hv:v=.slice none 0 0:=h2
   refine ⟨a,todo,w,v,_,.refl _ _,hd,h1,Rel.push hcut (.rows z [] false) none (.inl ⟨Blank.nil,set_same _ _⟩),(ex.cut (by omega)).trans hp,?_⟩
   have hnew:(h.take k++[Blk.rows z [] false])[k]? = some (.rows z [] false):=by
    rw [List.getElem?_append_right (by omega),hlen];simp
   exact ⟨z,[],false,none,0,hnew,Nat.le_refl _,hv,fun _=>⟨Nat.le_refl _,fun _=>rfl,.inl rfl⟩⟩
  have freEnd:under k (locsH (h.take k))=true→freshOf k h (tupOf vs)=some (r,h')→Ran C.P fn (lone { b.at a todo with mode:=.returning } cs w) b cs μ0 h0 w0 r h':=by
   intro hu e
   unfold freshOf at e
   split at e
   ·rename_i l n hx
    rw [hx] at h2
    split at e
    ·rename_i z rs wr hl
     split at e
     ·rename_i hc
      simp only [Option.some.injEq,Prod.mk.injEq] at e
      obtain ⟨rfl,rfl⟩:=e
      obtain ⟨μ',q1,q2,q3⟩:=fresh_left hr ex hk hu hl hc.1 hc.2.1 hc.2.2 h2
      exact ⟨a,todo,w,v,μ',.refl _ _,hd,h1,q1,q2,q3⟩
     ·simp at e
    ·simp at e
   ·rename_i rs hx
    rw [hx] at h2
    simp only [Option.some.injEq,Prod.mk.injEq] at e
    obtain ⟨rfl,rfl⟩:=e
    exact ⟨a,todo,w,v,μ,.refl _ _,hd,h1,hr.cut hu,ex.cut (by omega),PRep.keep (cut_keeps (n:=k)) (.lit rs) v h2⟩
   ·rename_i hx
    exact nilEnd 0 hu hx e
   ·simp at e
  split at e
  ·exact cutEnd e
  ·unfold guardU at e
   split at e
   ·rename_i hu
    exact freEnd hu e
   ·simp at e
  ·exact cutEnd e
  ·obtain ⟨μ',q1,q2,q3⟩:=settle_sound hk hr ex h2 e
   exact ⟨a,todo,w,v,μ',.refl _ _,hd,h1,q1,q2,q3⟩
  ·simp only [Option.some.injEq,Prod.mk.injEq] at e
   obtain ⟨rfl,rfl⟩:=e
   exact ⟨a,todo,w,v,μ,.refl _ _,hd,h1,hr,ex,h2⟩
  ·obtain ⟨μ1,p1,p2,p3⟩:=unview_sound hr h2
   obtain ⟨μ',q1,q2,q3⟩:=settle_sound hk p1 (ex.trans p2) p3 e
   exact ⟨a,todo,w,v,μ',.refl _ _,hd,h1,q1,q2,q3⟩
  ·rename_i z _ _ _ _ _ _
   unfold guardU at e
   split at e
   ·rename_i hu
    unfold freshZ at e
    split at e
    ·rename_i hx
     exact nilEnd _ hu hx e
    ·exact freEnd hu e
   ·simp at e
 ·simp at e
theorem RepL.set {x:AV}:∀ (cs:List AV) (vs:List Value) (j:Nat),RepL μ h w cs vs→(∀ v,vs[j]? = some v→Rep μ h w x v)→RepL μ h w (cs.set j x) vs
 | [],vs,j,r,_=>r
 | c::cs,vs,j,r,hx=>by
  obtain ⟨v,vr,rfl,h1,h2⟩:=r
  cases j with
  | zero=>exact ⟨v,vr,rfl,hx v rfl,h2⟩
  | succ j=>exact ⟨v,vr,rfl,h1,RepL.set cs vr j h2 fun u hu=>hx u (by simpa using hu)⟩
theorem singles_set {x:AV} (hx:single x=true):∀ (cs:List AV) (j:Nat),singles cs=true→singles (cs.set j x)=true
 | [],_,_=>rfl
 | c::cs,j,e=>by
  simp only [singles,Bool.and_eq_true] at e
  cases j with
  | zero=>simp [singles,hx,e.2]
  | succ j=>simp [singles,e.1,singles_set hx cs j e.2]
end
end Go.Ab
