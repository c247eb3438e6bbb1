/- The hooks for slices.Sorted(slices.Values(l)) and strings.Compare, in the evaluator's words. -/
import Derived.Test.YtcpklndelobigaaGreatDoorSU
set_option linter.all false
namespace Go.Proofs.YtcpklndelobigaaGreatDoor
open Go.Proofs.YtcpklndelobigaaGreatDoor.Abs Go.RowKit Go.Shelf Go.Maps Go.Sort
set_option maxHeartbeats 1000000
theorem wg (ss:List (List UInt8)):d6 1 (ss.map .str)=true:=by
 induction ss with
 | nil=>rfl
 | cons s l ih=>simpa [d6,aa.cells] using ih
theorem oE {h:ae} {o:Nat} {x:aa} {ss:List (List UInt8)} (ho:h[o]?=some (.box [x])) (hx:d9 h x=some (ss.map .str)) (hsz:ss.length≤1000000) :
 aL cx 179 [.fn (.func 232) [] [.ptr o 0]] h (fun v h'=>v=.imm ((eq ss).map .str)∧h'=h):=by
 refine gq (v:=.imm ((eq ss).map .str)) ⟨_,Tryz.func179,rfl,rfl⟩ ⟨rfl,rfl⟩ ?_
 intro ρ w cargs wf _ hv
 obtain ⟨u,rfl,hu⟩:=hv.one
 have hcv:∃ p,u=.func (.func 232) #[] #[p]∧VR ρ h w (.ptr o 0) p:=by
  cases hu with
  | fn _ _ _ us vs hl hl' hu1 hv1 =>
   obtain ⟨us⟩:=us
   obtain ⟨vs⟩:=vs
   match us,vs,hl,hl',hv1 with
   | [],[p],_,_,hv2=>exact ⟨p,rfl,hv2 0 _ _ rfl rfl⟩
 obtain ⟨p,rfl,hp⟩:=hcv
 obtain ⟨c,t,q1,q2,q3⟩:=wf.obj o _ ho
 have hpe:p=.pointer (some ⟨(ρ.loc o).blk,0,none⟩):=by cases hp;rfl
 subst hpe
 have hlt:(ρ.loc o).blk<w.heap.size:=(Array.getElem?_eq_some_iff.1 q1).1
 simp only [List.length_cons,List.length_nil] at q2
 have hc0:c[0]?=some c[0]:=Array.getElem?_eq_getElem oq
 have hcell:w.cell? ⟨(ρ.loc o).blk,0,none⟩=some c[0]:=by simp [World.cell?,q1,hc0]
 obtain ⟨cs,hR,hE⟩:=ie wf (q3 0 x c[0] rfl hc0) hx (wg ss)
 obtain ⟨a,cap0,e0,hcl,hcs⟩:=hR
 simp only [List.length_map,Nat.mul_one] at hcl e0
 have hI:Strs w.heap.size w c[0] ss:=by
  rcases Nat.eq_zero_or_pos ss.length with hz|hpos
  · exact .inl ⟨a,cap0,by rw [e0,hz],List.eq_nil_of_length_eq_zero hz⟩
  obtain ⟨b,off,ea,hcs2⟩:=hcs oq
  subst ea
  have hcells:∀ j,j<ss.length→w.cell? ⟨b,off+j,none⟩=some (encStr (ss[j]?.getD [])):=by
   intro j hj
   obtain ⟨u,g1,g2⟩:=hE j (.str ss[j]) 0 (.str ss[j]) (by simp [hj]) (by simp [aa.cells])
   have h2:=hcs2 j u (by simpa using g1)
   generalize e:ss[j]=s at g2
   cases g2
   rw [h2]
   simp [hj,e,encStr]
  have hbl:b<w.heap.size:=by
   have h1:=hcells 0 hpos
   unfold World.cell? at h1
   by_cases hb:b<w.heap.size
   · exact hb
   · simp [Array.getElem?_eq_none (show w.heap.size≤b by omega)] at h1
  exact .inr ⟨b,off,cap0,e0,hbl,hcells⟩
 refine (oJ (ρ.loc o).blk c[0] ss (Nat.le_trans (by omega:ss.length+1≤1000001) dq) oq w hlt hcell hI).mono ?_
 rintro e w' ⟨v,rfl,hrow,hb⟩
 have hl:ss.length=(eq ss).length:=(iL _).symm.length_eq
 obtain ⟨hx,⟨rfl,hn⟩|⟨gb,cap,cur,rfl,hbase,hgb,hcap,hcm,hcs,hcur⟩⟩:=hrow
 · have hz:eq ss=[]:=List.eq_nil_of_length_eq_zero oq
   refine ⟨_,ρ.I,rfl,hb,fun _ _ h=>h,fun _ _ h=>.inl h,fun _=>?_⟩
   rw [hz]
   exact .imm [] none 0 0 0 0 (fun _ _=>undef) (Nat.le_refl _) zq zq zq zq
 · refine ⟨_,fun b j=>ρ.I b j∨b=gb,rfl,hb,fun _ _ h=>.inl h,fun b j hI=>?_,fun _=>?_⟩
   · rcases hI with h|rfl
     · exact .inl h
     · exact .inr ⟨hbase,(Array.getElem?_eq_some_iff.1 hgb).1⟩
   · rw [show (Value.slice (some ⟨gb,0,none⟩) ss.length cap)=Value.slice (some ⟨gb,0,none⟩) ((eq ss).map aa.str).length cap by rw [List.length_map,← hl]]
     refine .imm _ _ cap 1 gb 0 (fun i _=>encStr ((eq ss).getD i [])) (by rw [List.length_map,← hl];exact hcap) (fun _=>rfl) ?_ ?_ ?_
     · intro i x hx
       simp only [List.getElem?_map,Option.map_eq_some_iff] at hx
       obtain ⟨s,_,rfl⟩:=hx
       rfl
     · intro i x j y hx hy
       simp only [List.getElem?_map,Option.map_eq_some_iff] at hx
       obtain ⟨s,hs,rfl⟩:=hx
       have hj:j=0:=by
        have:=(List.getElem?_eq_some_iff.1 hy).1
        simp [aa.cells] at this
        exact this
       subst hj
       refine ⟨.inr rfl,?_⟩
       have hi:i<(eq ss).length:=(List.getElem?_eq_some_iff.1 hs).1
       have hc:cur[i]?=some (encStr s):=by
        have h1:(cur.toList.take (ss.length * 1))[i]?=some (encStr s):=by rw [hcur,List.getElem?_map,hs];rfl
        rw [List.getElem?_take] at h1
        split at h1
        · rwa [Array.getElem?_toList] at h1
        · simp at h1
       have hg':(eq ss).getD i []=s:=by rw [List.getD_eq_getElem?_getD,hs];rfl
       rw [hg']
       simp [World.cell?,hgb,hc]
     · intro i x j y hx hy
       simp only [List.getElem?_map,Option.map_eq_some_iff] at hx
       obtain ⟨s,hs,rfl⟩:=hx
       have hj:j=0:=by
        have:=(List.getElem?_eq_some_iff.1 hy).1
        simp [aa.cells] at this
        exact this
       subst hj
       simp [aa.cells] at hy
       subst hy
       have hg':(eq ss).getD i []=s:=by rw [List.getD_eq_getElem?_getD,hs];rfl
       show VR _ h w' (.str s) (encStr ((eq ss).getD i []))
       rw [hg']
       exact .str s
end Go.Proofs.YtcpklndelobigaaGreatDoor
