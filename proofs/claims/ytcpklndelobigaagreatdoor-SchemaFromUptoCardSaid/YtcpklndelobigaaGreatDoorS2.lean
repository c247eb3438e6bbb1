/- A part of the proof: plain lemmas and walks. No condition. -/
import Derived.Test.YtcpklndelobigaaGreatDoorSX
set_option linter.all false
namespace Go.Proofs.YtcpklndelobigaaGreatDoor
open Go.Proofs.YtcpklndelobigaaGreatDoor.Abs Go.RowKit Go.Shelf Go.Maps Go.Sort
set_option maxHeartbeats 1000000
theorem FJ (ss:List (List UInt8)):fO 1 (ss.map .str)=true:=by
 induction ss with
 | nil=>rfl
 | cons s l ih=>simpa [fO,aa.cells] using ih
theorem u9 {h:ae} {o:Nat} {x:aa} {ss:List (List UInt8)} (ho:h[o]?=some (.box [x])) (hx:fG h x=some (ss.map .str)) (hsz:ss.length<=1000000) :
 aE cx 179 [.fn (.func 232) [] [.ptr o 0]] h (fun v h'=>v=.imm ((gp ss).map .str)/\h'=h):=by
 refine j7 (v:=.imm ((gp ss).map .str)) ⟨_,Tryz.func179,rfl,rfl⟩ ⟨rfl,rfl⟩ ?_;intro ρ w cargs wf _ hv;obtain ⟨u,rfl,hu⟩:=hv.one
 have hcv:∃ p,u=.func (.func 232) #[] #[p]/\VR ρ h w (.ptr o 0) p:=by
  cases hu with
  | fn _ _ _ us vs hl hl' hu1 hv1 =>
   obtain ⟨us⟩:=us;obtain ⟨vs⟩:=vs
   match us,vs,hl,hl',hv1 with
   | [],[p],_,_,hv2=>exact ⟨p,rfl,hv2 0 _ _ rfl rfl⟩
 obtain ⟨p,rfl,hp⟩:=hcv;obtain ⟨c,t,q1,q2,q3⟩:=wf.obj o _ ho;have hpe:p=.pointer (some ⟨(ρ.loc o).blk,0,none⟩):=by cases hp;rfl
 subst hpe;have hlt:(ρ.loc o).blk<w.heap.size:=(Array.getElem?_eq_some_iff.1 q1).1;simp only [List.length_cons,List.length_nil] at q2;have hc0:c[0]?=some c[0]:=Array.getElem?_eq_getElem oq;have hcell:w.cell? ⟨(ρ.loc o).blk,0,none⟩=some c[0]:=by simp [World.cell?,q1,hc0]
 obtain ⟨cs,hR,hE⟩:=lz wf (q3 0 x c[0] rfl hc0) hx (FJ ss);obtain ⟨a,cap0,e0,hcl,hcs⟩:=hR;simp only [List.length_map,Nat.mul_one] at hcl e0
 have hI:Strs w.heap.size w c[0] ss:=by
  rcases Nat.eq_zero_or_pos ss.length with hz|hpos
  . exact .inl ⟨a,cap0,by rw [e0,hz],List.eq_nil_of_length_eq_zero hz⟩
  obtain ⟨b,off,ea,hcs2⟩:=hcs oq;subst ea
  have hcells:∀ j,j<ss.length->w.cell? ⟨b,off+j,none⟩=some (encStr (ss[j]?.getD [])):=by
   intro j hj;obtain ⟨u,g1,g2⟩:=hE j (.str ss[j]) 0 (.str ss[j]) (by simp [hj]) (by simp [aa.cells]);have h2:=hcs2 j u (by simpa using g1);generalize e:ss[j]=s at g2;cases g2
   rw [h2];simp [hj,e,encStr]
  have hbl:b<w.heap.size:=by
   have h1:=hcells 0 hpos;unfold World.cell? at h1;by_cases hb:b<w.heap.size
   . exact hb
   . simp [Array.getElem?_eq_none (show w.heap.size<=b by omega)] at h1
  exact .inr ⟨b,off,cap0,e0,hbl,hcells⟩
 refine (vb (ρ.loc o).blk c[0] ss (Nat.le_trans (by omega:ss.length+1<=1000001) dq) oq w hlt hcell hI).mono ?_;rintro e w' ⟨v,rfl,hrow,hb⟩;have hl:ss.length=(gp ss).length:=(mi _).symm.length_eq;obtain ⟨hx,⟨rfl,hn⟩|⟨gb,cap,cur,rfl,hbase,hgb,hcap,hcm,hcs,hcur⟩⟩:=hrow
 . have hz:gp ss=[]:=List.eq_nil_of_length_eq_zero oq;refine ⟨_,ρ.I,rfl,hb,fun _ _ h=>h,fun _ _ h=>.inl h,fun _=>?_⟩;rw [hz];exact .imm [] none 0 0 0 0 (fun _ _=>undef) (Nat.le_refl _) zq zq zq zq
 . refine ⟨_,fun b j=>ρ.I b j\/b=gb,rfl,hb,fun _ _ h=>.inl h,fun b j hI=>?_,fun _=>?_⟩
   . rcases hI with h|rfl
     . exact .inl h
     . exact .inr ⟨hbase,(Array.getElem?_eq_some_iff.1 hgb).1⟩
   . rw [show (Value.slice (some ⟨gb,0,none⟩) ss.length cap)=Value.slice (some ⟨gb,0,none⟩) ((gp ss).map aa.str).length cap by rw [List.length_map,<- hl]];refine .imm _ _ cap 1 gb 0 (fun i _=>encStr ((gp ss).getD i [])) (by rw [List.length_map,<- hl];exact hcap) (fun _=>rfl) ?_ ?_ ?_
     . intro i x hx;simp only [List.getElem?_map,Option.map_eq_some_iff] at hx;obtain ⟨s,_,rfl⟩:=hx;rfl
     . intro i x j y hx hy;simp only [List.getElem?_map,Option.map_eq_some_iff] at hx;obtain ⟨s,hs,rfl⟩:=hx
       have hj:j=0:=by
        have:=(List.getElem?_eq_some_iff.1 hy).1;simp [aa.cells] at this;exact this
       subst hj;refine ⟨.inr rfl,?_⟩;have hi:i<(gp ss).length:=(List.getElem?_eq_some_iff.1 hs).1
       have hc:cur[i]?=some (encStr s):=by
        have h1:(cur.toList.take (ss.length * 1))[i]?=some (encStr s):=by rw [hcur,List.getElem?_map,hs];rfl
        rw [List.getElem?_take] at h1;split at h1
        . rwa [Array.getElem?_toList] at h1
        . simp at h1
       have hg':(gp ss).getD i []=s:=by rw [List.getD_eq_getElem?_getD,hs];rfl
       rw [hg'];simp [World.cell?,hgb,hc]
     . intro i x j y hx hy;simp only [List.getElem?_map,Option.map_eq_some_iff] at hx;obtain ⟨s,hs,rfl⟩:=hx
       have hj:j=0:=by
        have:=(List.getElem?_eq_some_iff.1 hy).1;simp [aa.cells] at this;exact this
       subst hj;simp [aa.cells] at hy;subst hy;have hg':(gp ss).getD i []=s:=by rw [List.getD_eq_getElem?_getD,hs];rfl
       show VR _ h w' (.str s) (encStr ((gp ss).getD i []));rw [hg'];exact .str s
end Go.Proofs.YtcpklndelobigaaGreatDoor
namespace Go.Proofs.YtcpklndelobigaaGreatDoor
open Go.Proofs.YtcpklndelobigaaGreatDoor.Abs Go.RowKit Go.Shelf Go.Maps Go.Sort
def gk (a b:List UInt8):Int:=bif aV a b then -1 else bif aV b a then 1 else 0
theorem Bp:∀ a b,gk a b=Lib.compareBytes a b
 | [],[]=>by simp [gk,aV,Op.bytesLess,Lib.compareBytes]
 | [],_::_=>by simp [gk,aV,Op.bytesLess,Lib.compareBytes]
 | _::_,[]=>by simp [gk,aV,Op.bytesLess,Lib.compareBytes]
 | x::a,y::b=>by
  have ih:=Bp a b;simp only [gk,aV] at ih ⊢;rw [Lib.compareBytes,<- ih];by_cases h:x=y
  . subst h;simp [Op.bytesLess,UInt8.lt_irrefl]
  . have h':¬ y=x:=fun e=>h e.symm
    by_cases h1:x<y
    . simp [Op.bytesLess,h1,h]
    . have h2:y<x:=by
       rcases Nat.lt_trichotomy x.toNat y.toNat with q|q|q
       . exact absurd (UInt8.lt_iff_toNat_lt.2 q) h1
       . exact absurd (UInt8.toNat_inj.1 q) h
       . exact UInt8.lt_iff_toNat_lt.2 q
      have hb:(x==y)=false:=by simpa using h
      simp [Op.bytesLess,h1,h2,hb]
set_option maxRecDepth 100000 in
theorem jT (a b:List UInt8):af cx 35 [.str a,.str b] (.int .i64 (gk a b)):=by
 refine pM ⟨_,Tryz.func35,rfl,rfl⟩ rfl fun ρ w cargs hv=>?_
 obtain ⟨u,v,rfl,hu,hv2⟩:=hv.two;cases hu;cases hv2
 rw [Bp];refine (Any.strings_Compare Tryz.lays106 ⟨a.toArray⟩ ⟨b.toArray⟩ w).mono ?_;rintro e w' ⟨rfl,rfl⟩;exact ⟨rfl,Below.refl _ _⟩
def oD:List aa->Option (List (List UInt8))
 | []=>some []
 | .str s::l=>match oD l with
  | some r=>some (s::r)
  | none=>none
 | _=>none
theorem rp:∀ {l:List aa} {ss:List (List UInt8)},oD l=some ss->l=ss.map .str
 | [],ss,h=>by simp [oD] at h;subst h;rfl
 | x::l,ss,h=>by
  cases x <;> simp only [oD] at h <;> try (simp at h;done)
  rename_i s;cases hl:oD l with
  | none=>rw [hl] at h;simp at h
  | some r =>
   rw [hl] at h;simp at h;subst h;rw [rp hl];rfl
def oc:List aa->ae->Option (aa×ae)
 | [.fn (.func 232) [] [.ptr o 0]],h=>match h[o]? with
  | some (.box [x])=>match fG h x with
   | some l=>match oD l with
    | some ss=>bif Nat.ble ss.length 1000000 then some (.imm ((gp ss).map .str),h) else none
    | none=>none
   | none=>none
  | _=>none
 | _,_=>none
theorem u0 {args:List aa} {h:ae} {r:aa×ae} (hr:oc args h=some r):aE cx 179 args h fun v h'=>v=r.1/\h'=r.2:=by
 unfold oc at hr;split at hr <;> try (simp at hr;done)
 rename_i o;split at hr <;> try (simp at hr;done)
 rename_i x ho;split at hr <;> try (simp at hr;done)
 rename_i l hl;split at hr <;> try (simp at hr;done)
 rename_i ss hs;cases hc:Nat.ble ss.length 1000000 with
 | false=>rw [hc] at hr;simp at hr
 | true =>
  rw [hc] at hr;simp only [cond_true,Option.some.injEq] at hr;subst hr;rw [rp hs] at hl;exact u9 ho hl (Nat.le_of_ble_eq_true hc)
def mQ:List aa->ae->Option (aa×ae)
 | [.str a,.str b],h=>some (.int .i64 (gk a b),h)
 | _,_=>none
theorem sY {args:List aa} {h:ae} {r:aa×ae} (hr:mQ args h=some r):aE cx 35 args h fun v h'=>v=r.1/\h'=r.2:=by
 unfold mQ at hr;split at hr <;> try (simp at hr;done)
 simp only [Option.some.injEq] at hr;subst hr;exact Ca (jT _ _) (by simp [aQ,aa.frz]) (by simp [aM,aa.bel]) ⟨rfl,rfl⟩
def rF:xl:=fun f args h =>
 bif Nat.beq f 179 then oc args h
 else bif Nat.beq f 35 then mQ args h
 else none
theorem wy:yB cx rF:=by
 intro f args h r hr;unfold rF at hr;cases h1:Nat.beq f 179 with
 | true =>
  rw [h1] at hr;rw [Nat.eq_of_beq_eq_true h1];exact u0 hr
 | false =>
  cases h2:Nat.beq f 35 with
  | true =>
   rw [h1,h2] at hr;rw [Nat.eq_of_beq_eq_true h2];exact sY hr
  | false=>rw [h1,h2] at hr;simp at hr
def yu:md:=fun f args h=>bif Nat.beq f 179 || Nat.beq f 35 then w8 (fun _ _ _=>none) rF (fun _=>false) f args h else lg f args h
theorem bE:∀ f args h r,yu f args h=some r->jq cx f args h r.1 r.2.1 r.2.2:=by
 intro f args h r hr;unfold yu at hr;cases hc:Nat.beq f 179 || Nat.beq f 35 with
 | false=>rw [hc] at hr;exact Hj f args h r hr
 | true =>
  rw [hc] at hr;simp only [cond_true] at hr;exact ln (raw:=fun _=>false) (lg:=fun _ _ _=>none) zq wy f args h r hr
end Go.Proofs.YtcpklndelobigaaGreatDoor
