/- A part of the proof: plain lemmas, rules and walks. No condition. -/
import Derived.Test.YtdikgijfekfaoaaGreatDoorP5
set_option linter.all false
namespace Go.Proofs.YtdikgijfekfaoaaGreatDoor
open Go.Proofs.YtdikgijfekfaoaaGreatDoor.Abs
set_option maxRecDepth 20000
set_option maxHeartbeats 4000000
theorem Ec (x:Vr):x.v.refs=[]:=ju _ (by simp [Vr.v])
theorem xd (l:St):(ae (aa.int .i64) Vr.v l).flatMap (fun e=>e.1.refs++e.2.refs)=[]:=by
 rw [List.flatMap_eq_nil_iff]
 intro e he
 obtain ⟨p,_,rfl⟩:=List.mem_map.1 he
 simp [aa.refs,Ec]
theorem xI (r:Nat→Nat) (l:St):ix r (ae (aa.int .i64) Vr.v l)=ae (aa.int .i64) Vr.v l:=iU (k:=0) (fun i hi=>by omega) _ (AK 0 l)
theorem D5 (l:Fd):(ae aa.str Ty.v l).flatMap (fun e=>e.1.refs++e.2.refs)=[]:=by
 rw [List.flatMap_eq_nil_iff]
 intro e he
 obtain ⟨p,_,rfl⟩:=List.mem_map.1 he
 simp [aa.refs,ju _ (E2 0 p.2)]
theorem gG (r:Nat→Nat) (l:Fd):ix r (ae aa.str Ty.v l)=ae aa.str Ty.v l:=iU (k:=0) (fun i hi=>by omega) _ (Ga 0 l)
theorem yH {f:Nat} {S:St} {t r:Ty} (h:cm f S t=some r):∃ U,hdV f S t=some U∧((¬ U.kind=5∧r=U)∨(U.kind=5∧bdV S U.n=none∧r=U)∨(U.kind=5∧(∃ v,bdV S U.n=some v)∧hdR f S [] U=some r)):=by
 unfold cm at h
 split at h <;> try (cases h;done)
 rename_i U hU
 refine ⟨U,hU,?_⟩
 split at h
 · rename_i h5
   split at h
   · rename_i v hv;exact .inr (.inr ⟨h5,⟨v,hv⟩,h⟩)
   · rename_i hn;cases h;exact .inr (.inl ⟨h5,hn,rfl⟩)
 · rename_i h5;cases h;exact .inl ⟨h5,rfl⟩
theorem rm {g:Nat} {m:St} {u U:Ty} {x:Vr} (h:hdV g m u=some U) (h6:u.kind=6) (hx:am u.n m=some x) (hb:x.bd=true):hdV (g - 1) m x.val=some U∧x.val.sz<100000000∧g - 1<g:=by
 cases g with
 | zero=>simp [hdV] at h
 | succ g =>
  rw [hdV,if_pos h6,jS hx,if_pos hb] at h
  simp only at h
  split at h <;> try (cases h;done)
  rename_i hs
  exact ⟨h,hs,by omega⟩
theorem vU {g:Nat} {m:St} {u U:Ty} (h:hdV g m u=some U) (hn:u.kind=6→bdV m u.n=none):U=u:=by
 cases g with
 | zero=>simp [hdV] at h
 | succ g =>
  rw [hdV] at h
  split at h
  · rename_i h6
    rw [hn h6] at h
    cases h;rfl
  · cases h;rfl
theorem Ak {m:St} {n:Int} (h:am n m=none):bdV m n=none:=by unfold bdV;rw [h]
theorem Gh {m:St} {n:Int} {x:Vr} (h:am n m=some x) (hb:¬ x.bd=true):bdV m n=none:=by rw [jS h,if_neg hb]
theorem IC {m:St} {n:Int} {x:Vr} (h:am n m=some x) (hb:x.bd=true):bdV m n=some x.val:=by rw [jS h,if_pos hb]
theorem EX {f:Nat} {S:St} {U r u:Ty} (h:(¬ U.kind=5∧r=U)∨(U.kind=5∧bdV S U.n=none∧r=U)∨(U.kind=5∧(∃ v,bdV S U.n=some v)∧hdR f S [] U=some r)) (e:U=u) (hn:¬ u.kind=5∨bdV S u.n=none):r=u:=by
 subst e
 rcases h with h|h|h
 · exact h.2
 · exact h.2.2
 · obtain ⟨v,hv⟩:=h.2.1
   rcases hn with hn|hn
   · exact absurd h.1 hn
   · rw [hn] at hv;cases hv
theorem Ii {f:Nat} {S:St} {U r u v:Ty} (h:(¬ U.kind=5∧r=U)∨(U.kind=5∧bdV S U.n=none∧r=U)∨(U.kind=5∧(∃ v,bdV S U.n=some v)∧hdR f S [] U=some r)) (e:U=u) (h5:u.kind=5) (hb:bdV S u.n=some v):hdR f S [] u=some r:=by
 subst e
 rcases h with h|h|h
 · exact absurd h5 h.1
 · rw [h.2.1] at hb;cases hb
 · exact h.2.2
def bU (l:Fd) (t:Ty) (k:Nat):Fd:=((t.names.zip t.kids).take k).foldl (fun l p=>aJ p.1 p.2 l) l
theorem ti {l:Fd} {t:Ty} {k:Nat} (hk:k<t.names.length) (hl:t.names.length=t.kids.length):aJ (t.names.getD k []) (t.kids.getD k Ty.zero) (bU l t k)=bU l t (k+1):=by
 have hz:k<(t.names.zip t.kids).length:=by rw [List.length_zip];omega
 unfold bU
 rw [List.take_succ_eq_append_getElem hz,List.foldl_append,List.getElem_zip,List.getD_eq_getElem?_getD,List.getD_eq_getElem?_getD,List.getElem?_eq_getElem hk,List.getElem?_eq_getElem (by omega:k<t.kids.length)]
 rfl
theorem iJ {l:Fd} {t:Ty} {k:Nat} (hk:t.names.length≤k):bU l t k=dz l t:=by
 unfold bU dz
 rw [List.take_of_length_le (by rw [List.length_zip];omega)]
structure fdI (l:Fd):Prop where
 nd:(l.map Prod.fst).Nodup
 nm:∀ p∈l,p.1.length≤1000000000
theorem z7:fdI []:=⟨by simp,by simp⟩
theorem uD {l:Fd} {t:Ty} (h:fdI l) (hs:t.sz<100000000):fdI (dz l t):=⟨dp t h.nd,fun p hp=>by
 rcases eJ hp with h'|h'
 · obtain ⟨i,hi,e⟩:=List.getElem_of_mem h'.1
   have:=fi t i
   rw [List.getD_eq_getElem?_getD,List.getElem?_eq_getElem hi] at this
   rw [← e]
   have:(t.names[i]).length<t.sz:=this
   omega
 · exact h.nm p h'⟩
theorem AM {g:Nat} {m:St} {l:Fd} {w r:Ty} (h:hdR g m l w=some r):w.sz<100000000∧(dz l w).length<100000000∧w.names.length=w.kids.length:=by
 cases g with
 | zero=>simp [hdR] at h
 | succ g =>
  rw [hdR] at h
  split at h <;> try (cases h;done)
  rename_i hs
  exact hs
theorem CZ {g k:Nat} {m:St} {l:Fd} {w r:Ty} (hI:fdI l) (h:hdR g m l w=some r) (hk:w.names.length≤k):tT (bU l w k):=by
 rw [iJ hk]
 have hg:=AM h
 exact ⟨(uD hI hg.1).nd,(uD hI hg.1).nm,hg.2.1⟩
theorem xw {g:Nat} {m:St} {l:Fd} {w r:Ty} {x:Vr} (h:hdR g m l w=some r) (hx:am w.n m=some x) (hb:x.bd=true):hdR (g - 1) m (dz l w) x.val=some r∧g - 1<g:=by
 have hs:=AM h
 cases g with
 | zero=>simp [hdR] at h
 | succ g =>
  rw [hdR,if_pos hs,IC hx hb] at h
  exact ⟨h,by omega⟩
theorem Ea {g:Nat} {m:St} {l:Fd} {w r:Ty} (h:hdR g m l w=some r) (hn:bdV m w.n=none):r=recT (dz l w) w.n:=by
 have hs:=AM h
 cases g with
 | zero=>simp [hdR] at h
 | succ g =>
  rw [hdR,if_pos hs,hn] at h
  cases h;rfl
theorem sq (u w:Ty) (l:Fd) (n:Int) (lv:Int) (m:St) (hl:tT l):av cx 83 [.map 4,.int .i64 n] [bS lv,mS m,u.bx,.box zC,.map (ae aa.str Ty.v l),w.bx] (fun v h=>v=(recT l n).v∧h=[bS lv,mS m,u.bx,.box zC,.map (ae aa.str Ty.v l),w.bx]):=by
 refine ca [2,5,3,4] (ov u w l n hl) rfl dq zq (by simp [ai.belO]) (by simp [dB,ai.ren,bV,aa.ren,bc,gG]) rfl (by simp [bV,aa.ren,bc]) (by simp [Ty.v,aa.ren,bV]) ?_
 simp [dv,cy,dB,ai.ren,bV,aa.ren,bc,gG]
noncomputable def Js:Code:=aE Tryz.f106
theorem DC {p:Prop} (h:p:=by have e:=EX hUr (vU hV (fun h6=>by first|exact absurd h6 aq|exact Ak aq|exact Gh aq aq)) (by first|exact .inl oq|exact .inr (Ak aq)|exact .inr (Gh aq aq));subst e;simp [aK,aa.frz,bo,Ty.v]):p:=h
theorem E8 {p:Prop} (h:p:=by simp [-List.map_append,-List.map_take,-List.map_drop,-List.append_assoc,aa.refs,cY,ai.refs,ai.isIter,kZ,Abs.renT,ee,lh,ai.ren,aa.ren,bV,List.idxOf_cons,xd,xI,D5,gG]):p:=h
theorem H7 {p:Prop} (h:p:=by obtain rfl:=Ea hR (by first|exact Ak aq|exact Gh aq aq);simp [aK,aa.frz,bo,Ty.v,iJ (l:=l) (t:=w) (k:=k) oq]):p:=h
theorem mG {p:Prop} (h:p:=by simp [aK]):p:=h
theorem qj (f:Nat) (t r:Ty) (lv:Int) (m:St) (hs:t.sz<100000000) (hh:cm f m t=some r):av cx 106 [.ptr 0 0,Ty.v t] (hpS lv m) (fun v h=>v=(Ty.v r)∧h=hpS lv m):=by
 obtain ⟨U,hU,hUr⟩:=yH hh
 refine ap (cx:=cx) 87 2 [(ResultVar.cell 4 25)] Tryz.func106 rfl rfl rfl rfl rfl zq ?_
 show wpA cx 87 2 (at_ Js []) _ _ _
 refine qZ [(0,.ptr 0 0),(1,Ty.v t)] [bS lv,mS m] ?_ ?_
 refine qW 2 [(0,.ptr 0 0),(3,.ptr 2 0),(4,.ptr 3 0)] [bS lv,mS m,t.bx,.box zC] ?_ ?_
 refine ar ?_ ?_
 refine qB 0 ?_ ?_ ?_
 refine bR (σ:=(Nat×Ty)) (fun ⟨g,u⟩=>[(0,.ptr 0 0),(3,.ptr 2 0),(4,.ptr 3 0)]) (fun ⟨g,u⟩=>[bS lv,mS m,u.bx,.box zC]) (fun ⟨g,u⟩=>hdV g m u=some U∧u.sz<100000000) (fun ⟨g,u⟩=>g) (f,t) kq (by exact ⟨hU,hs⟩) ⟨⟨kq,kq,kq,trivial⟩,by simp [aV,aa.bel],by simp,kq,by simp [ai.belO]⟩ ?_
 rintro ⟨g,u⟩ ⟨hV,hus⟩
 refine qZ [(0,.ptr 0 0),(3,.ptr 2 0),(4,.ptr 3 0)] [bS lv,mS m,u.bx,.box zC] ?_ ?_
 refine ar ?_ ?_
 refine ar ?_ ?_
 refine cK cxM kq aB (bv ?_)
 refine qu 4 ?_ ?_
 by_cases hb1:(u.kind)=6
 refine fK 12 (.bool ((u.kind)==6)) (.bool true) (fI aB) kq (congrArg aa.bool (beq_iff_eq.2 hb1)) ?_
 refine fK 13 (.bool ((u.kind)==6)) (.bool true) (fI aB) kq (congrArg aa.bool (beq_iff_eq.2 hb1)) ?_
 refine qu 6 ?_ ?_
 rcases hm2:am (u.n) m with _|x2
 refine qd (e8 (ok:=false) (o:=1) (ek:=(aa.int .i64)) (ev:=Vr.v) (l:=m) (k:=(u.n)) dH hm2 kq jo ty3 rfl mB kq) ?_ ?_ ?_ ?_
 refine qu 2 ?_ ?_
 refine cn kq ⟨kq,?_⟩
 refine ab ?_
 refine qZ [(0,.ptr 0 0),(3,.ptr 2 0),(4,.ptr 3 0),(14,.ptr 0 0),(15,.ptr 0 0),(16,.ptr 0 1),(17,.map 1),(18,.ptr 2 2),(19,.int .i64 (u.n)),(20,.agg [.bool false,.int .i64 0,.bool false,.int .i64 0,.str [],.int .i64 0,.full [],.full [],.full []]),(21,.bool false),(22,.bool false)] [bS lv,mS m,u.bx,.box zC] ?_ ?_
 refine dY kq kq ?_
 refine bC 0 kq kq ?_
 refine af ?_
 refine af ?_
 refine aA ?_
 refine ab ?_
 refine qz [(0,.ptr 0 0),(3,.ptr 2 0),(4,.ptr 3 0)] ?_ ?_
 refine ar ?_ ?_
 refine ar ?_ ?_
 refine cK cxM kq aB (bv ?_)
 refine qu 4 ?_ ?_
 by_cases hb3:(u.kind)=5
 · exfalso;omega
 refine fK 33 (.bool ((u.kind) != 5)) (.bool true) (fI aB) kq (congrArg aa.bool (bne_iff_ne.2 hb3)) ?_
 refine fK 34 (.bool ((u.kind) != 5)) (.bool true) (fI aB) kq (congrArg aa.bool (bne_iff_ne.2 hb3)) ?_
 refine qu 10 ?_ ?_
 refine cn kq ⟨kq,?_⟩
 refine ab ?_
 refine qZ [(0,.ptr 0 0),(3,.ptr 2 0),(4,.ptr 3 0),(44,.bool true)] [bS lv,mS m,u.bx,.box zC] ?_ ?_
 refine cp kq kq ?_
 refine qW 2 [(4,.ptr 3 0)] [bS lv,mS m,u.bx,u.bx] ?_ ?_
 refine bb kq ?_
 apply aR
 refine aL (l:=[.agg [.int .i64 (u.kind),.str u.name,.int .i64 (u.n),.imm (u.names.map aa.str),.imm (u.kids.map Ty.enc)]]) (.inr rfl) kq DC mG mG ?_ ?_
 refine Eq.trans (b:=[bS lv,mS m]) kq ?_
 · rfl
 rotate_left
 iterate 12 kernel_rfl
 refine qd (cH (ok:=false) (o:=1) (ek:=(aa.int .i64)) (ev:=Vr.v) (l:=m) (k:=(u.n)) (x:=x2) dH hm2 kq jo ty3 rfl mB kq) ?_ ?_ ?_ ?_
 refine qu 2 ?_ ?_
 refine cn kq ⟨kq,?_⟩
 refine ab ?_
 refine qZ [(0,.ptr 0 0),(3,.ptr 2 0),(4,.ptr 3 0),(14,.ptr 0 0),(15,.ptr 0 0),(16,.ptr 0 1),(17,.map 1),(18,.ptr 2 2),(19,.int .i64 (u.n)),(20,Vr.v x2),(21,.bool (x2.bd)),(22,.bool (x2.bd))] [bS lv,mS m,u.bx,.box zC] ?_ ?_
 by_cases hb4:(x2.bd)=true
 refine qt (hb4) ?_ ?_
 refine qK ?_ ?_
 refine qz [(0,.ptr 0 0),(3,.ptr 2 0),(4,.ptr 3 0),(14,.ptr 0 0),(15,.ptr 0 0),(16,.ptr 0 1),(17,.map 1),(18,.ptr 2 2),(19,.int .i64 (u.n)),(20,Vr.v x2),(21,.bool (x2.bd))] ?_ ?_
 refine qB 1 ?_ ?_ ?_
 refine cK cxM kq (lG jB) (bv ?_)
 refine qu 6 ?_ ?_
 have hm5:am (u.n) m=some x2:=by assumption
 refine qd (cH (ok:=false) (o:=1) (ek:=(aa.int .i64)) (ev:=Vr.v) (l:=m) (k:=(u.n)) (x:=x2) dH hm5 kq jo ty3 rfl mB kq) ?_ ?_ ?_ ?_
 refine qu 2 ?_ ?_
 refine cn kq ⟨kq,?_⟩
 refine ak ?_
 refine ab ⟨(g - 1,x2.val),?_,?_,⟨⟨kq,kq,kq,trivial⟩,by simp [aV,aa.bel],by simp,kq,by simp [ai.belO]⟩⟩
 · try dsimp only
   exact (rm hV oq aq aq).2.2
 · try dsimp only
   exact ⟨(rm hV oq aq aq).1,(rm hV oq aq aq).2.1⟩
 iterate 10 kernel_rfl
 refine qf (Bool.eq_false_iff.2 hb4) ?_ ?_
 refine bC 0 kq kq ?_
 refine af ?_
 refine af ?_
 refine aA ?_
 refine ab ?_
 refine qz [(0,.ptr 0 0),(3,.ptr 2 0),(4,.ptr 3 0)] ?_ ?_
 refine ar ?_ ?_
 refine ar ?_ ?_
 refine cK cxM kq aB (bv ?_)
 refine qu 4 ?_ ?_
 by_cases hb6:(u.kind)=5
 · exfalso;omega
 refine fK 33 (.bool ((u.kind) != 5)) (.bool true) (fI aB) kq (congrArg aa.bool (bne_iff_ne.2 hb6)) ?_
 refine fK 34 (.bool ((u.kind) != 5)) (.bool true) (fI aB) kq (congrArg aa.bool (bne_iff_ne.2 hb6)) ?_
 refine qu 10 ?_ ?_
 refine cn kq ⟨kq,?_⟩
 refine ab ?_
 refine qZ [(0,.ptr 0 0),(3,.ptr 2 0),(4,.ptr 3 0),(44,.bool true)] [bS lv,mS m,u.bx,.box zC] ?_ ?_
 refine cp kq kq ?_
 refine qW 2 [(4,.ptr 3 0)] [bS lv,mS m,u.bx,u.bx] ?_ ?_
 refine bb kq ?_
 apply aR
 refine aL (l:=[.agg [.int .i64 (u.kind),.str u.name,.int .i64 (u.n),.imm (u.names.map aa.str),.imm (u.kids.map Ty.enc)]]) (.inr rfl) kq DC mG mG ?_ ?_
 refine Eq.trans (b:=[bS lv,mS m]) kq ?_
 · rfl
 rotate_left
 iterate 14 kernel_rfl
 refine fK 12 (.bool ((u.kind)==6)) (.bool false) (fI aB) kq (congrArg aa.bool (beq_eq_false_iff_ne.2 hb1)) ?_
 refine fK 13 (.bool ((u.kind)==6)) (.bool false) (fI aB) kq (congrArg aa.bool (beq_eq_false_iff_ne.2 hb1)) ?_
 refine qu 9 ?_ ?_
 refine cn kq ⟨kq,?_⟩
 refine ab ?_
 refine qZ [(0,.ptr 0 0),(3,.ptr 2 0),(4,.ptr 3 0),(14,.tup []),(15,.tup []),(16,.tup []),(17,.tup []),(18,.tup []),(19,.tup []),(20,.tup []),(21,.tup []),(22,.bool false)] [bS lv,mS m,u.bx,.box zC] ?_ ?_
 refine dY kq kq ?_
 refine bC 0 kq kq ?_
 refine af ?_
 refine af ?_
 refine aA ?_
 refine ab ?_
 refine qz [(0,.ptr 0 0),(3,.ptr 2 0),(4,.ptr 3 0)] ?_ ?_
 refine ar ?_ ?_
 refine ar ?_ ?_
 refine cK cxM kq aB (bv ?_)
 refine qu 4 ?_ ?_
 by_cases hb7:(u.kind)=5
 refine fK 33 (.bool ((u.kind) != 5)) (.bool false) (fI aB) kq (congrArg aa.bool (bne_eq_false_iff_eq.2 hb7)) ?_
 refine fK 34 (.bool ((u.kind) != 5)) (.bool false) (fI aB) kq (congrArg aa.bool (bne_eq_false_iff_eq.2 hb7)) ?_
 refine qu 6 ?_ ?_
 rcases hm8:am (u.n) m with _|x8
 refine qd (e8 (ok:=false) (o:=1) (ek:=(aa.int .i64)) (ev:=Vr.v) (l:=m) (k:=(u.n)) dH hm8 kq jo ty3 rfl mB kq) ?_ ?_ ?_ ?_
 refine qu 3 ?_ ?_
 refine cn kq ⟨kq,?_⟩
 refine ab ?_
 refine qZ [(0,.ptr 0 0),(3,.ptr 2 0),(4,.ptr 3 0),(44,.bool true)] [bS lv,mS m,u.bx,.box zC] ?_ ?_
 refine cp kq kq ?_
 refine qW 2 [(4,.ptr 3 0)] [bS lv,mS m,u.bx,u.bx] ?_ ?_
 refine bb kq ?_
 apply aR
 refine aL (l:=[.agg [.int .i64 (u.kind),.str u.name,.int .i64 (u.n),.imm (u.names.map aa.str),.imm (u.kids.map Ty.enc)]]) (.inr rfl) kq DC mG mG ?_ ?_
 refine Eq.trans (b:=[bS lv,mS m]) kq ?_
 · rfl
 rotate_left
 iterate 6 kernel_rfl
 refine qd (cH (ok:=false) (o:=1) (ek:=(aa.int .i64)) (ev:=Vr.v) (l:=m) (k:=(u.n)) (x:=x8) dH hm8 kq jo ty3 rfl mB kq) ?_ ?_ ?_ ?_
 refine qu 3 ?_ ?_
 refine cn kq ⟨kq,?_⟩
 refine ab ?_
 refine qZ [(0,.ptr 0 0),(3,.ptr 2 0),(4,.ptr 3 0),(44,.bool (!(x8.bd)))] [bS lv,mS m,u.bx,.box zC] ?_ ?_
 by_cases hb9:(x8.bd)=true
 refine qf (x:=(!(x8.bd))) (congrArg not (hb9)) ?_ ?_
 refine qK ?_ ?_
 refine qz [(0,.ptr 0 0),(3,.ptr 2 0),(4,.ptr 3 0)] ?_ ?_
 refine qW 2 [(0,.ptr 0 0),(3,.ptr 2 0),(4,.ptr 3 0),(5,.map 4)] [bS lv,mS m,u.bx,.box zC,.map (ae aa.str Ty.v ([]:List (List UInt8×Ty)))] ?_ ?_
 refine qU 3 [(0,.ptr 0 0),(3,.ptr 2 0),(4,.ptr 3 0),(5,.map 4)] ?_ ?_
 refine qW 3 [(0,.ptr 0 0),(4,.ptr 3 0),(5,.map 4),(7,.ptr 5 0)] [bS lv,mS m,u.bx,.box zC,.map (ae aa.str Ty.v ([]:List (List UInt8×Ty))),u.bx] ?_ ?_
 refine qB 2 ?_ ?_ ?_
 refine bR (σ:=(Nat×Fd×Ty)) (fun ⟨g,l,w⟩=>[(0,.ptr 0 0),(4,.ptr 3 0),(5,.map 4),(7,.ptr 5 0)]) (fun ⟨g,l,w⟩=>[bS lv,mS m,u.bx,.box zC,.map (ae aa.str Ty.v l),w.bx]) (fun ⟨g,l,w⟩=>hdR g m l w=some r∧fdI l) (fun ⟨g,l,w⟩=>g) (f,([]:Fd),u) kq (by exact ⟨Ii hUr (vU hV (fun h6=>by first|exact absurd h6 aq|exact Ak aq|exact Gh aq aq)) oq (IC aq aq),z7⟩) ⟨⟨kq,kq,kq,kq,trivial⟩,by simp [aV,aa.bel],by simp,kq,by simp [ai.belO]⟩ ?_
 rintro ⟨g,l,w⟩ ⟨hR,hI⟩
 have hz5:=bK w
 obtain ⟨hz6,hz7,hz8⟩:=AM hR
 refine qZ [(0,.ptr 0 0),(4,.ptr 3 0),(5,.map 4),(7,.ptr 5 0)] [bS lv,mS m,u.bx,.box zC,.map (ae aa.str Ty.v l),w.bx] ?_ ?_
 refine ar ?_ ?_
 refine qB 3 ?_ ?_ ?_
 refine ar ?_ ?_
 refine qV 2 ?_ ?_
 refine qy (au (l:=w.names) (enc:=aa.str) kq bi) ?_ ?_ ?_
 refine qR 1 [(0,.ptr 0 0),(4,.ptr 3 0),(5,.map 4),(7,.ptr 5 0),(58,.imm (w.names.map aa.str)),(59,nI w.names.length),(60,.int .i64 0)] [bS lv,mS m,u.bx,.box zC,.map (ae aa.str Ty.v l),w.bx] ?_ ?_
 refine qB 4 ?_ ?_ ?_
 refine bR (σ:=Nat) (fun k=>[(0,.ptr 0 0),(4,.ptr 3 0),(5,.map 4),(7,.ptr 5 0),(58,.imm (w.names.map aa.str)),(59,.int .i64 ((w.names.length:Nat):Int)),(60,.int .i64 ((k:Nat):Int))]) (fun k=>[bS lv,mS m,u.bx,.box zC,.map (ae aa.str Ty.v (bU l w k)),w.bx]) (fun k=>k≤w.names.length) (fun k=>w.names.length - k) 0 kq (by exact Nat.zero_le _) ⟨⟨kq,kq,kq,kq,kq,kq,kq,trivial⟩,by simp [aV,aa.bel],by simp,(Eq.trans (b:=[bS lv,mS m,u.bx,.box zC,.map (ae aa.str Ty.v l),w.bx]) kq (by rfl)),by simp [ai.belO]⟩ ?_
 rintro k hk
 refine qW 1 [(0,.ptr 0 0),(4,.ptr 3 0),(5,.map 4),(7,.ptr 5 0),(58,.imm (w.names.map aa.str)),(59,nI w.names.length),(60,nI k),(61,.bool (decide (((k:Nat):Int)<((w.names.length:Nat):Int))))] [bS lv,mS m,u.bx,.box zC,.map (ae aa.str Ty.v (bU l w k)),w.bx] ?_ ?_
 refine ar ?_ ?_
 by_cases hb10:((k:Nat):Int)<((w.names.length:Nat):Int)
 refine qt (decide_eq_true hb10) ?_ ?_
 refine qK ?_ ?_
 refine qz [(0,.ptr 0 0),(4,.ptr 3 0),(5,.map 4),(7,.ptr 5 0),(58,.imm (w.names.map aa.str)),(59,nI w.names.length),(60,nI k)] ?_ ?_
 refine ar ?_ ?_
 refine qB 5 ?_ ?_ ?_
 refine qV 1 ?_ ?_
 refine qy (ax (k:=.i64) (l:=w.names) (enc:=aa.str) (i:=((k:Nat):Int)) [] kq bi ty9 (fun _=>rfl) oq oq) ?_ ?_ ?_
 refine qR 3 [(0,.ptr 0 0),(4,.ptr 3 0),(5,.map 4),(7,.ptr 5 0),(8,nI k),(9,.str (w.names.getD k [])),(58,.imm (w.names.map aa.str)),(59,nI w.names.length),(60,nI k)] [bS lv,mS m,u.bx,.box zC,.map (ae aa.str Ty.v (bU l w k)),w.bx] ?_ ?_
 refine qo ?_ ?_
 refine qr 5 ?_ ?_
 refine qy ((ax (k:=.i64) (l:=w.kids) (enc:=Ty.enc) (i:=((k:Nat):Int)) Ty.zero kq bf bX bg oq oq).trans (congrArg (fun cs=>some (aa.pimm cs 0,_)) (aO (w.kids.getD k Ty.zero)))) ?_ ?_ ?_
 refine qr 1 ?_ ?_
 refine qY (dc (o:=4) (ek:=aa.str) (ev:=Ty.v) (l:=(bU l w k)) (k:=(w.names.getD k [])) (x:=(w.kids.getD k Ty.zero)) pw kq sw ty9 rfl kq kq) ?_ ?_ ?_
 refine qe ?_ ?_
 refine ak ?_
 refine ab ?_
 refine qZ [(0,.ptr 0 0),(4,.ptr 3 0),(5,.map 4),(7,.ptr 5 0),(58,.imm (w.names.map aa.str)),(59,nI w.names.length),(60,nI k)] [bS lv,mS m,u.bx,.box zC,.map (ae aa.str Ty.v (aJ (w.names.getD k []) (w.kids.getD k Ty.zero) (bU l w k))),w.bx] ?_ ?_
 refine qo ?_ ?_
 refine qy (aN (a:=((k:Nat):Int)) (b:=1) kq oq oq) ?_ ?_ ?_
 refine qr 1 ?_ ?_
 refine qe ?_ ?_
 refine ab ⟨k+1,?_,?_,⟨⟨kq,kq,kq,kq,kq,kq,kq,trivial⟩,by simp [aV,aa.bel],by simp,(Eq.trans (b:=[bS lv,mS m,u.bx,.box zC,.map (ae aa.str Ty.v (aJ (w.names.getD k []) (w.kids.getD k Ty.zero) (bU l w k))),w.bx]) kq (by rw [ti oq hz8])),by simp [ai.belO]⟩⟩
 · omega
 · omega
 iterate 24 kernel_rfl
 refine qf (decide_eq_false hb10) ?_ ?_
 refine bC 4 kq kq ?_
 refine af ?_
 refine af ?_
 refine aA ?_
 refine ab ?_
 refine qz [(0,.ptr 0 0),(4,.ptr 3 0),(5,.map 4),(7,.ptr 5 0)] ?_ ?_
 refine qU 3 [(0,.ptr 0 0),(4,.ptr 3 0),(5,.map 4),(6,.int .i64 (w.n)),(7,.ptr 5 0)] ?_ ?_
 refine qV 5 ?_ ?_
 rcases hm11:am (w.n) m with _|x11
 refine qy (e8 (ok:=false) (o:=1) (ek:=(aa.int .i64)) (ev:=Vr.v) (l:=m) (k:=(w.n)) dH hm11 kq jo ty3 rfl mB kq) ?_ ?_ ?_
 refine qR 2 [(0,.ptr 0 0),(4,.ptr 3 0),(5,.map 4),(6,.int .i64 (w.n)),(7,.ptr 5 0),(82,.bool true)] [bS lv,mS m,u.bx,.box zC,.map (ae aa.str Ty.v (bU l w k)),w.bx] ?_ ?_
 refine cp kq kq ?_
 refine qV 2 ?_ ?_
 refine cM (args:=[.map 4,.int .i64 (w.n)]) (v:=Ty.v (recT (bU l w k) (w.n))) (h':=[bS lv,mS m,u.bx,.box zC,.map (ae aa.str Ty.v (bU l w k)),w.bx]) [bS lv,mS m,u.bx,.box zC,.map (ae aa.str Ty.v (bU l w k)),w.bx] kq kq kq kq kq (sq u w (bU l w k) (w.n) lv m (CZ hI hR oq)) ?_
 refine qR 1 [(4,.ptr 3 0)] [bS lv,mS m,u.bx,(recT (bU l w k) (w.n)).bx,.map (ae aa.str Ty.v (bU l w k)),w.bx] ?_ ?_
 refine bb kq ?_
 apply iR
 apply aR
 apply aR
 apply iR
 refine aL (l:=[.agg [.int .i64 ((recT (bU l w k) (w.n)).kind),.str (recT (bU l w k) (w.n)).name,.int .i64 ((recT (bU l w k) (w.n)).n),.imm ((recT (bU l w k) (w.n)).names.map aa.str),.imm ((recT (bU l w k) (w.n)).kids.map Ty.enc)]]) (.inr rfl) kq H7 mG mG ?_ ?_
 refine Eq.trans (b:=[bS lv,mS m]) kq ?_
 · rfl
 rotate_left
 iterate 5 kernel_rfl
 refine qy (cH (ok:=false) (o:=1) (ek:=(aa.int .i64)) (ev:=Vr.v) (l:=m) (k:=(w.n)) (x:=x11) dH hm11 kq jo ty3 rfl mB kq) ?_ ?_ ?_
 refine qR 2 [(0,.ptr 0 0),(4,.ptr 3 0),(5,.map 4),(6,.int .i64 (w.n)),(7,.ptr 5 0),(82,.bool (!(x11.bd)))] [bS lv,mS m,u.bx,.box zC,.map (ae aa.str Ty.v (bU l w k)),w.bx] ?_ ?_
 by_cases hb12:(x11.bd)=true
 refine qf (x:=(!(x11.bd))) (congrArg not (hb12)) ?_ ?_
 refine qk ?_ ?_
 refine ak ?_
 refine ab ?_
 refine qz [(0,.ptr 0 0),(4,.ptr 3 0),(5,.map 4),(6,.int .i64 (w.n)),(7,.ptr 5 0)] ?_ ?_
 refine ar ?_ ?_
 refine qU 1 [(0,.ptr 0 0),(4,.ptr 3 0),(5,.map 4),(6,.int .i64 (w.n)),(86,.agg [.int .i64 (w.kind),.str w.name,.int .i64 (w.n),.imm (w.names.map aa.str),.imm (w.kids.map Ty.enc)])] ?_ ?_
 refine qo ?_ ?_
 refine qR 2 [(0,.ptr 0 0),(4,.ptr 3 0),(5,.map 4),(6,.int .i64 (w.n)),(7,.ptr 6 0)] [bS lv,mS m,u.bx,.box zC,.map (ae aa.str Ty.v (bU l w k)),w.bx,w.bx] ?_ ?_
 refine GA [0,1,2,3,4,6] [(0,.ptr 0 0),(4,.ptr 3 0),(5,.map 4),(6,.int .i64 (w.n)),(7,.ptr 5 0)] [bS lv,mS m,u.bx,.box zC,.map (ae aa.str Ty.v (bU l w k)),w.bx] dq dq E8 E8 E8 E8 ?_
 refine qZ [(0,.ptr 0 0),(4,.ptr 3 0),(5,.map 4),(6,.int .i64 (w.n)),(7,.ptr 5 0)] [bS lv,mS m,u.bx,.box zC,.map (ae aa.str Ty.v (bU l w k)),w.bx] ?_ ?_
 refine qo ?_ ?_
 refine qr 5 ?_ ?_
 have hm13:am (w.n) m=some x11:=by assumption
 refine qy (cH (ok:=false) (o:=1) (ek:=(aa.int .i64)) (ev:=Vr.v) (l:=m) (k:=(w.n)) (x:=x11) dH hm13 kq jo ty3 rfl mB kq) ?_ ?_ ?_
 refine qr 2 ?_ ?_
 refine qe ?_ ?_
 refine ab ⟨(g - 1,dz l w,x11.val),?_,?_,⟨⟨kq,kq,kq,kq,trivial⟩,by simp [aV,aa.bel],by simp,(Eq.trans (b:=[bS lv,mS m,u.bx,.box zC,.map (ae aa.str Ty.v (bU l w k)),x11.val.bx]) kq (by (try dsimp only);rw [iJ oq])),by simp [ai.belO]⟩⟩
 · try dsimp only
   exact (xw hR aq aq).2
 · try dsimp only
   exact ⟨(xw hR aq aq).1,uD hI oq⟩
 iterate 14 kernel_rfl
 refine qt (x:=(!(x11.bd))) (congrArg not (Bool.eq_false_iff.2 hb12)) ?_ ?_
 refine qV 2 ?_ ?_
 refine cM (args:=[.map 4,.int .i64 (w.n)]) (v:=Ty.v (recT (bU l w k) (w.n))) (h':=[bS lv,mS m,u.bx,.box zC,.map (ae aa.str Ty.v (bU l w k)),w.bx]) [bS lv,mS m,u.bx,.box zC,.map (ae aa.str Ty.v (bU l w k)),w.bx] kq kq kq kq kq (sq u w (bU l w k) (w.n) lv m (CZ hI hR oq)) ?_
 refine qR 1 [(4,.ptr 3 0)] [bS lv,mS m,u.bx,(recT (bU l w k) (w.n)).bx,.map (ae aa.str Ty.v (bU l w k)),w.bx] ?_ ?_
 refine bb kq ?_
 apply iR
 apply aR
 apply aR
 apply iR
 refine aL (l:=[.agg [.int .i64 ((recT (bU l w k) (w.n)).kind),.str (recT (bU l w k) (w.n)).name,.int .i64 ((recT (bU l w k) (w.n)).n),.imm ((recT (bU l w k) (w.n)).names.map aa.str),.imm ((recT (bU l w k) (w.n)).kids.map Ty.enc)]]) (.inr rfl) kq H7 mG mG ?_ ?_
 refine Eq.trans (b:=[bS lv,mS m]) kq ?_
 · rfl
 rotate_left
 iterate 31 kernel_rfl
 refine qt (x:=(!(x8.bd))) (congrArg not (Bool.eq_false_iff.2 hb9)) ?_ ?_
 refine qW 2 [(4,.ptr 3 0)] [bS lv,mS m,u.bx,u.bx] ?_ ?_
 refine bb kq ?_
 apply aR
 refine aL (l:=[.agg [.int .i64 (u.kind),.str u.name,.int .i64 (u.n),.imm (u.names.map aa.str),.imm (u.kids.map Ty.enc)]]) (.inr rfl) kq DC mG mG ?_ ?_
 refine Eq.trans (b:=[bS lv,mS m]) kq ?_
 · rfl
 rotate_left
 iterate 8 kernel_rfl
 refine fK 33 (.bool ((u.kind) != 5)) (.bool true) (fI aB) kq (congrArg aa.bool (bne_iff_ne.2 hb7)) ?_
 refine fK 34 (.bool ((u.kind) != 5)) (.bool true) (fI aB) kq (congrArg aa.bool (bne_iff_ne.2 hb7)) ?_
 refine qu 10 ?_ ?_
 refine cn kq ⟨kq,?_⟩
 refine ab ?_
 refine qZ [(0,.ptr 0 0),(3,.ptr 2 0),(4,.ptr 3 0),(44,.bool true)] [bS lv,mS m,u.bx,.box zC] ?_ ?_
 refine cp kq kq ?_
 refine qW 2 [(4,.ptr 3 0)] [bS lv,mS m,u.bx,u.bx] ?_ ?_
 refine bb kq ?_
 apply aR
 refine aL (l:=[.agg [.int .i64 (u.kind),.str u.name,.int .i64 (u.n),.imm (u.names.map aa.str),.imm (u.kids.map Ty.enc)]]) (.inr rfl) kq DC mG mG ?_ ?_
 refine Eq.trans (b:=[bS lv,mS m]) kq ?_
 · rfl
 rotate_left
 iterate 18 kernel_rfl
 all_goals
  simp [ai.belO,hpS,Ty.v]
theorem BK {f:Nat} {S:St} {t r:Ty} (h:dl f S t=some r):∃ g q rs,f=g+1∧cm g S t=some q∧q.sz<100000000∧rX (dl g S) q.kids=some rs∧r=.mk q.kind q.name q.n q.names rs:=by
 cases f with
 | zero=>simp [dl] at h
 | succ g =>
  rw [dl] at h
  split at h <;> try (cases h;done)
  rename_i q hq
  split at h <;> try (cases h;done)
  rename_i hs
  split at h <;> try (cases h;done)
  rename_i rs hrs
  cases h
  exact ⟨g,q,rs,rfl,hq,hs,hrs,rfl⟩
theorem E6 {g:Ty→Option Ty} {l rs:List Ty} (h:rX g l=some rs):rs.length=l.length∧∀ i,i<l.length→g (l.getD i Ty.zero)=some (rs.getD i Ty.zero):=by
 obtain ⟨h1,h2⟩:=lZ h
 refine ⟨h1,fun i hi=>h2 i _ _ ?_ ?_⟩
 · rw [List.getD_eq_getElem?_getD,List.getElem?_eq_getElem hi];rfl
 · rw [List.getD_eq_getElem?_getD,List.getElem?_eq_getElem (by omega:i<rs.length)];rfl
def rsL (rs ks:List Ty) (k:Nat):List Ty:=(List.range ks.length).map fun i=>if i<k then rs.getD i Ty.zero else ks.getD i Ty.zero
@[simp] theorem A8 (rs ks:List Ty) (k:Nat):(rsL rs ks k).length=ks.length:=by simp [rsL]
theorem mw {rs ks:List Ty} {k i:Nat} (h:i<(rsL rs ks k).length):(rsL rs ks k)[i]=if i<k then rs.getD i Ty.zero else ks.getD i Ty.zero:=by simp [rsL]
theorem wG {rs ks:List Ty} {k:Nat} (h:k<ks.length):(rsL rs ks k).getD (0+k) Ty.zero=ks.getD k Ty.zero:=by
 have h':k<(rsL rs ks k).length:=by simpa using h
 rw [Nat.zero_add,List.getD_eq_getElem?_getD,List.getElem?_eq_getElem h',Option.getD_some,mw,if_neg (Nat.lt_irrefl k)]
theorem EW {rs ks:List Ty} {k:Nat}:(rsL rs ks k).set (0+k) (rs.getD k Ty.zero)=rsL rs ks (k+1):=by
 rw [Nat.zero_add]
 refine List.ext_getElem zq fun i h1 h2=>?_
 rw [List.getElem_set,mw,mw]
 by_cases e:k=i
 · subst e;rw [if_pos rfl,if_pos (Nat.lt_succ_self k)]
 · rw [if_neg e]
   by_cases h:i<k
   · rw [if_pos h,if_pos oq]
   · rw [if_neg h,if_neg oq]
theorem Iy (rs ks:List Ty):rsL rs ks 0=ks:=by
 refine List.ext_getElem zq fun i h1 h2=>?_
 rw [mw,if_neg oq,List.getD_eq_getElem?_getD,List.getElem?_eq_getElem h2];rfl
theorem Gc {rs ks:List Ty} {k:Nat} (hl:rs.length=ks.length) (h:ks.length≤k):rsL rs ks k=rs:=by
 refine List.ext_getElem (by simp [hl]) fun i h1 h2=>?_
 rw [mw,if_pos oq,List.getD_eq_getElem?_getD,List.getElem?_eq_getElem h2];rfl
noncomputable def c68:Code:=aE Tryz.f68
theorem D4 {p:Prop} (h:p:=by simp [aa.frz,bo,aa.ren,bV,dB,ai.ren,bc,cb,aS,aa.owns,xn,xG,Ty.v]):p:=h
theorem v7 {p:Prop} (h:p:=by simp [ai.belO,hpS,Ty.v]):p:=h
theorem tD (f:Nat) (t r:Ty) (lv:Int) (m:St) (hs:t.sz<100000000) (hr:dl f m t=some r):av cx 68 [.ptr 0 0,Ty.v t] (hpS lv m) (fun v h=>v=(Ty.v r)∧h=hpS lv m):=by
 induction f generalizing t r with
 | zero=>simp [dl] at hr
 | succ f ih =>
 obtain ⟨g,q,rs,e,hq,hqs,hrs,rfl⟩:=BK hr
 obtain rfl:f=g:=by omega
 obtain ⟨hrl,hra⟩:=E6 hrs
 have ihR:∀ (x y:Ty),x.sz<100000000→dl f m x=some y→av cx 68 [.ptr 0 0,Ty.v x] (hpS lv m) (fun v h=>v=y.v∧h=hpS lv m):=fun x y h1 h2=>ih x y h1 h2
 have hz2:=ct q
 refine ap (cx:=cx) 29 2 [(ResultVar.cell 4 25)] Tryz.func68 rfl rfl rfl rfl rfl zq ?_
 show wpA cx 29 2 (at_ c68 []) _ _ _
 refine qZ [(0,.ptr 0 0),(1,Ty.v t)] [bS lv,mS m] ?_ ?_
 refine qW 2 [(0,.ptr 0 0),(3,.ptr 2 0),(4,.ptr 3 0)] [bS lv,mS m,t.bx,.box zC] ?_ ?_
 refine qV 2 ?_ ?_
 refine aT (args:=[.ptr 0 0,.agg [.int .i64 (t.kind),.str t.name,.int .i64 (t.n),.imm (t.names.map aa.str),.imm (t.kids.map Ty.enc)]]) (hs:=[bS lv,mS m]) (hs':=[.box [.int .i64 ((lv)),.map 1],mS m]) (aM:=[t.bx,.box zC]) kq kq kq kq kq (qj f t q (lv) m hs hq) v7 v7 rfl v7 v7 kq ?_
 refine m0 (args:=[Ty.v q]) (args':=[Ty.v q]) (V':=.agg [.int .i64 (q.kind),.str q.name,.int .i64 (q.n),.imm (q.names.map aa.str),.own 4 0 q.kids.length]) (F:=[.box [.int .i64 ((lv)),.map 1],mS m,t.bx,.box zC]) (G':=[.arr 5 (q.kids.map Ty.enc) 0]) kq kq kq kq (sP q hqs) [.box [.int .i64 ((lv)),.map 1],mS m,t.bx,.box zC] kq D4 D4 D4 D4 D4 ?_
 refine qR 1 [(0,.ptr 0 0),(3,.ptr 2 0),(4,.ptr 3 0)] [.box [.int .i64 ((lv)),.map 1],mS m,.box [.int .i64 (q.kind),.str q.name,.int .i64 (q.n),.imm (q.names.map aa.str),.own 4 0 q.kids.length],.box zC,.arr 5 (q.kids.map Ty.enc) 0] ?_ ?_
 refine ar ?_ ?_
 refine qV 2 ?_ ?_
 refine qy (mz (o:=4) (off:=0) (len:=q.kids.length) (sz:=5) (es:=(q.kids.map Ty.enc)) (fr:=0) kq bf kq zq) ?_ ?_ ?_
 refine qR 1 [(0,.ptr 0 0),(3,.ptr 2 0),(4,.ptr 3 0),(12,nI q.kids.length),(13,.int .i64 0)] [.box [.int .i64 ((lv)),.map 1],mS m,.box [.int .i64 (q.kind),.str q.name,.int .i64 (q.n),.imm (q.names.map aa.str),.own 4 0 q.kids.length],.box zC,.arr 5 (q.kids.map Ty.enc) 0] ?_ ?_
 refine qB 0 ?_ ?_ ?_
 refine bR (σ:=Nat) (fun k=>[(0,.ptr 0 0),(3,.ptr 2 0),(4,.ptr 3 0),(12,.int .i64 ((q.kids.length:Nat):Int)),(13,.int .i64 ((k:Nat):Int))]) (fun k=>[.box [.int .i64 ((lv)),.map 1],mS m,.box [.int .i64 (q.kind),.str q.name,.int .i64 (q.n),.imm (q.names.map aa.str),.own 4 0 q.kids.length],.box zC,.arr 5 ((rsL rs q.kids k).map Ty.enc) 0]) (fun k=>k≤q.kids.length) (fun k=>q.kids.length - k) 0 kq (by exact Nat.zero_le _) ⟨⟨kq,kq,kq,kq,kq,trivial⟩,by simp [aV,aa.bel],by simp,(Eq.trans (b:=[.box [.int .i64 ((lv)),.map 1],mS m,.box [.int .i64 (q.kind),.str q.name,.int .i64 (q.n),.imm (q.names.map aa.str),.own 4 0 q.kids.length],.box zC,.arr 5 (q.kids.map Ty.enc) 0]) kq (by rw [Iy])),by simp [ai.belO]⟩ ?_
 rintro k hk
 refine qW 1 [(0,.ptr 0 0),(3,.ptr 2 0),(4,.ptr 3 0),(12,nI q.kids.length),(13,nI k),(14,.bool (decide (((k:Nat):Int)<((q.kids.length:Nat):Int))))] [.box [.int .i64 ((lv)),.map 1],mS m,.box [.int .i64 (q.kind),.str q.name,.int .i64 (q.n),.imm (q.names.map aa.str),.own 4 0 q.kids.length],.box zC,.arr 5 ((rsL rs q.kids k).map Ty.enc) 0] ?_ ?_
 refine ar ?_ ?_
 by_cases hb1:((k:Nat):Int)<((q.kids.length:Nat):Int)
 refine qt (decide_eq_true hb1) ?_ ?_
 refine qK ?_ ?_
 refine qz [(0,.ptr 0 0),(3,.ptr 2 0),(4,.ptr 3 0),(12,nI q.kids.length),(13,nI k)] ?_ ?_
 refine ar ?_ ?_
 refine qB 1 ?_ ?_ ?_
 refine qU 2 [(0,.ptr 0 0),(3,.ptr 2 0),(4,.ptr 3 0),(5,nI k),(12,nI q.kids.length),(13,nI k)] ?_ ?_
 refine cK cxM kq (lG aB) (bv ?_)
 refine qu 7 ?_ ?_
 refine qd (lQ (k:=.i64) (i:=((k:Nat):Int)) (o:=4) (off:=0) (len:=q.kids.length) (sz:=5) (fr:=0) (es:=((rsL rs q.kids k).map Ty.enc)) kq bf bX kq rfl zq oq oq) ?_ ?_ ?_ ?_
 refine qd (uB (t:=25) (o:=4) (idx:=(0+k)) (off:=0) (k:=(((rsL rs q.kids k).map Ty.enc).length)) (sz:=5) (fr:=0) (es:=((rsL rs q.kids k).map Ty.enc)) (x:=Ty.enc ((rsL rs q.kids k).getD (0+k) Ty.zero)) (v:=.agg [.int .i64 (((rsL rs q.kids k).getD (0+k) Ty.zero).kind),.str ((rsL rs q.kids k).getD (0+k) Ty.zero).name,.int .i64 (((rsL rs q.kids k).getD (0+k) Ty.zero).n),.imm (((rsL rs q.kids k).getD (0+k) Ty.zero).names.map aa.str),.imm (((rsL rs q.kids k).getD (0+k) Ty.zero).kids.map Ty.enc)]) kq kq zq (uf _ _ _ _ (by simp only [A8];omega)) (by rw [aO];exact kq)) ?_ ?_ ?_ ?_
 refine cV (args:=[.ptr 0 0,.agg [.int .i64 (((rsL rs q.kids k).getD (0+k) Ty.zero).kind),.str ((rsL rs q.kids k).getD (0+k) Ty.zero).name,.int .i64 (((rsL rs q.kids k).getD (0+k) Ty.zero).n),.imm (((rsL rs q.kids k).getD (0+k) Ty.zero).names.map aa.str),.imm (((rsL rs q.kids k).getD (0+k) Ty.zero).kids.map Ty.enc)]]) (hs:=[.box [.int .i64 ((lv)),.map 1],mS m]) (hs':=[.box [.int .i64 (((lv))),.map 1],mS m]) (aM:=[.box [.int .i64 (q.kind),.str q.name,.int .i64 (q.n),.imm (q.names.map aa.str),.own 4 0 q.kids.length],.box zC,.arr 5 ((rsL rs q.kids k).map Ty.enc) 0]) (L:=[0,1]) kq kq kq kq kq kq (ihR ((rsL rs q.kids k).getD (0+k) Ty.zero) (rs.getD k Ty.zero) (by rw [wG oq];exact Nat.lt_trans (b9 q _ oq) hqs) (by rw [wG oq];exact hra k oq)) v7 v7 rfl v7 v7 kq rfl rfl ?_
 refine qd (lQ (k:=.i64) (i:=((k:Nat):Int)) (o:=4) (off:=0) (len:=q.kids.length) (sz:=5) (fr:=0) (es:=((rsL rs q.kids k).map Ty.enc)) kq bf bX kq rfl zq oq oq) ?_ ?_ ?_ ?_
 refine qD (AF (o:=4) (k:=(((rsL rs q.kids k).map Ty.enc).length)) (x:=Ty.v (rs.getD k Ty.zero)) (enc:=Ty.enc) (l:=(rsL rs q.kids k)) (X:=(rs.getD k Ty.zero)) (d:=Ty.zero) (idx:=(0+k)) (sz:=5) kq (Ty.enc_v (rs.getD k Ty.zero)).symm kq zq (by simp only [A8];omega) bX El AQ) ?_ ?_ ?_ ?_
 refine cn kq ⟨kq,?_⟩
 refine ak ?_
 refine ab ?_
 refine qZ [(0,.ptr 0 0),(3,.ptr 2 0),(4,.ptr 3 0),(12,nI q.kids.length),(13,nI k)] [.box [.int .i64 (((lv))),.map 1],mS m,.box [.int .i64 (q.kind),.str q.name,.int .i64 (q.n),.imm (q.names.map aa.str),.own 4 0 q.kids.length],.box zC,.arr 5 (((rsL rs q.kids k).set (0+k) (rs.getD k Ty.zero)).map Ty.enc) 0] ?_ ?_
 refine qo ?_ ?_
 refine qy (aN (a:=((k:Nat):Int)) (b:=1) kq oq oq) ?_ ?_ ?_
 refine qr 1 ?_ ?_
 refine qe ?_ ?_
 refine ab ⟨k+1,?_,?_,⟨⟨kq,kq,kq,kq,kq,trivial⟩,by simp [aV,aa.bel],by simp,(Eq.trans (b:=[.box [.int .i64 (((lv))),.map 1],mS m,.box [.int .i64 (q.kind),.str q.name,.int .i64 (q.n),.imm (q.names.map aa.str),.own 4 0 q.kids.length],.box zC,.arr 5 (((rsL rs q.kids k).set (0+k) (rs.getD k Ty.zero)).map Ty.enc) 0]) kq (by rw [EW])),by simp [ai.belO]⟩⟩
 · omega
 · omega
 iterate 26 kernel_rfl
 refine qf (decide_eq_false hb1) ?_ ?_
 refine bC 0 kq kq ?_
 refine af ?_
 refine af ?_
 refine aA ?_
 refine ab ?_
 refine qz [(3,.ptr 2 0),(4,.ptr 3 0)] ?_ ?_
 refine sD 2 4 4 (cs:=[.int .i64 (q.kind),.str q.name,.int .i64 (q.n),.imm (q.names.map aa.str),.own 4 0 q.kids.length]) (es:=((rsL rs q.kids k).map Ty.enc)) (off:=0) (len:=q.kids.length) (sz:=5) (fr:=0) [.int .i64 (q.kind),.str q.name,.int .i64 (q.n),.imm (q.names.map aa.str),.imm ((rsL rs q.kids k).map Ty.enc)] ((rsL rs q.kids k).map Ty.enc) dq kq kq kq zq kq kq ?_
 refine qZ [(3,.ptr 2 0),(4,.ptr 3 0)] [.box [.int .i64 ((lv)),.map 1],mS m,.box [.int .i64 (q.kind),.str q.name,.int .i64 (q.n),.imm (q.names.map aa.str),.imm ((rsL rs q.kids k).map Ty.enc)],.box zC,.arr 5 ((rsL rs q.kids k).map Ty.enc) ((rsL rs q.kids k).map Ty.enc).length] ?_ ?_
 refine qW 2 [(4,.ptr 3 0)] [.box [.int .i64 ((lv)),.map 1],mS m,.box [.int .i64 (q.kind),.str q.name,.int .i64 (q.n),.imm (q.names.map aa.str),.imm ((rsL rs q.kids k).map Ty.enc)],.box [.int .i64 (q.kind),.str q.name,.int .i64 (q.n),.imm (q.names.map aa.str),.imm ((rsL rs q.kids k).map Ty.enc)],.arr 5 ((rsL rs q.kids k).map Ty.enc) ((rsL rs q.kids k).map Ty.enc).length] ?_ ?_
 refine bb kq ?_
 refine aL (l:=[.agg [.int .i64 (q.kind),.str q.name,.int .i64 (q.n),.imm (q.names.map aa.str),.imm ((rsL rs q.kids k).map Ty.enc)]]) (.inr rfl) kq (by rw [Gc hrl oq];simp [Ty.v,aa.frz,bo,aK]) (by simp [aK]) (by simp [aK]) ?_ ?_
 refine Eq.trans (b:=[.box [.int .i64 ((lv)),.map 1],mS m]) kq ?_
 · rfl
 · simp [ai.belO,hpS,Ty.v]
 iterate 17 kernel_rfl
theorem y6 {f:Nat} {S S':St} {n:Int} {t:Ty} {ok:Bool} (h:cg f S n t=some (ok,S')):¬ am n S=none∧∃ r,dl f S t=some r∧r.sz<100000000∧(∀ k∈aD [] r,(am k S).isSome=true) ∧
 ∀ x,am n S=some x→((aD [] r).contains n=true→false=ok∧S=S')∧(¬ (aD [] r).contains n=true→true=ok∧aJ n (Vr.mk x.row x.lv true t x.names) (c8 x.lv (aD [] r) S)=S'):=by
 unfold cg at h
 split at h <;> try (cases h;done)
 rename_i v hv
 split at h <;> try (cases h;done)
 rename_i r hr
 split at h <;> try (cases h;done)
 rename_i hs
 refine ⟨by rw [hv];simp,r,hr,hs.1,fun k hk=>List.all_eq_true.1 hs.2 k hk,fun x hx=>?_⟩
 rw [hv] at hx;cases hx
 split at h
 · rename_i hc
   cases h
   exact ⟨fun _=>⟨rfl,rfl⟩,fun h=>absurd hc h⟩
 · rename_i hc
   cases h
   exact ⟨fun h=>absurd h hc,fun _=>⟨rfl,rfl⟩⟩
def IJ (lv:Int) (S:St) (k:Int):St:=match am k S with
 | some w=>aJ k { w with lv:=min w.lv lv } S
 | none=>S
theorem nk (lv:Int):∀ (ks:List Int) (S:St),c8 lv ks S=ks.foldl (IJ lv) S
 | [],S=>rfl
 | k::ks,S=>by rw [c8,nk lv ks,List.foldl_cons];rfl
theorem BA {lv:Int} {l:List Int} {S:St} {k:Nat} {w:Vr} (hk:k<l.length) (hm:am (l.getD k 0) (c8 lv (l.take k) S)=some w):aJ (l.getD k 0) (Vr.mk w.row (min w.lv lv) w.bd w.val w.names) (c8 lv (l.take k) S)=c8 lv (l.take (k+1)) S:=by
 rw [kl _ k 0 hk,nk lv (l.take k++_),List.foldl_append,← nk lv (l.take k),List.foldl_cons,List.foldl_nil]
 unfold IJ
 rw [hm]
theorem FW {lv:Int} {l:List Int} {S:St} {k:Nat} (hk:k<l.length) (ha:∀ k∈l,(am k S).isSome=true):¬ am (l.getD k 0) (c8 lv (l.take k) S)=none:=by
 have hm:l.getD k 0∈l:=by rw [List.getD_eq_getElem?_getD,List.getElem?_eq_getElem hk];exact List.getElem_mem hk
 obtain ⟨x,hx⟩:=Option.isSome_iff_exists.1 (ha _ hm)
 obtain ⟨l',hl'⟩:=((iC lv (l.take k) S).2 (l.getD k 0)).1 x hx
 rw [hl'];simp
theorem Dk {lv:Int} {l:List Int} {S:St} {k:Nat} (hk:l.length≤k):c8 lv (l.take k) S=c8 lv l S:=by rw [List.take_of_length_le hk]
noncomputable def JI:Code:=aE Tryz.f107
theorem Gu {p:Prop} (h:p:=by simp [ai.belO,hpS,Ty.v,Vr.v]):p:=h
theorem i7 (f:Nat) (n:Int) (t:Ty) (lv:Int) (m m':St) (ok:Bool) (hs:t.sz<100000000) (hb:cg f m n t=some (ok,m')):av cx 107 [.ptr 0 0,.int .i64 (n),Ty.v t] (hpS lv m) (fun v h=>v=(.bool (ok))∧h=hpS lv m'):=by
 obtain ⟨hno,r,hr,hrs,hall,hx⟩:=y6 hb
 have hvl:=rD [] r
 simp only [List.length_nil] at hvl
 refine ap (cx:=cx) 59 2 [(ResultVar.tmp 6)] Tryz.func107 rfl rfl rfl rfl rfl zq ?_
 show wpA cx 59 2 (at_ JI []) _ _ _
 refine qZ [(0,.ptr 0 0),(1,.int .i64 (n)),(2,Ty.v t)] [bS lv,mS m] ?_ ?_
 refine qW 2 [(0,.ptr 0 0),(1,.int .i64 (n)),(5,.ptr 2 0)] [bS lv,mS m,t.bx] ?_ ?_
 refine qV 5 ?_ ?_
 rcases hm1:am (n) m with _|x1
 · exact absurd hm1 (hno)
 refine qy (cH (ok:=false) (o:=1) (ek:=(aa.int .i64)) (ev:=Vr.v) (l:=m) (k:=(n)) (x:=x1) dH hm1 kq jo ty3 rfl mB kq) ?_ ?_ ?_
 refine qR 2 [(0,.ptr 0 0),(1,.int .i64 (n)),(5,.ptr 2 0),(7,.ptr 3 0)] [bS lv,mS m,t.bx,.box [.bool (x1.row),.int .i64 (x1.lv),.bool (x1.bd),.int .i64 (x1.val.kind),.str x1.val.name,.int .i64 (x1.val.n),.imm (x1.val.names.map aa.str),.imm (x1.val.kids.map Ty.enc),.imm (x1.names.map aa.str)]] ?_ ?_
 refine qV 2 ?_ ?_
 refine aT (args:=[.ptr 0 0,.agg [.int .i64 (t.kind),.str t.name,.int .i64 (t.n),.imm (t.names.map aa.str),.imm (t.kids.map Ty.enc)]]) (hs:=[bS lv,mS m]) (hs':=[.box [.int .i64 ((lv)),.map 1],mS m]) (aM:=[t.bx,.box [.bool (x1.row),.int .i64 (x1.lv),.bool (x1.bd),.int .i64 (x1.val.kind),.str x1.val.name,.int .i64 (x1.val.n),.imm (x1.val.names.map aa.str),.imm (x1.val.kids.map Ty.enc),.imm (x1.names.map aa.str)]]) kq kq kq kq kq (tD f t r (lv) m hs hr) Gu Gu rfl Gu Gu kq ?_
 refine bp (args:=[Ty.v r]) kq kq kq kq (tW r oq) (by simp [Ty.v,bm,Occ.v]) (by simp [Ty.v]) (by simp [Ty.v,a7]) ?_
 refine qR 1 [(0,.ptr 0 0),(1,.int .i64 (n)),(5,.ptr 2 0),(7,.ptr 3 0),(8,.imm ((aD [] r).map (aa.int .i64)))] [.box [.int .i64 ((lv)),.map 1],mS m,t.bx,.box [.bool (x1.row),.int .i64 (x1.lv),.bool (x1.bd),.int .i64 (x1.val.kind),.str x1.val.name,.int .i64 (x1.val.n),.imm (x1.val.names.map aa.str),.imm (x1.val.kids.map Ty.enc),.imm (x1.names.map aa.str)]] ?_ ?_
 refine ar ?_ ?_
 refine qV 2 ?_ ?_
 refine bp (args:=[.imm ((aD [] r).map (aa.int .i64)),.int .i64 (n)]) kq kq kq kq (og (aD [] r) (n) oq) (by simp [Ty.v,bm,Occ.v]) (by simp [Ty.v]) (by simp [Ty.v,a7]) ?_
 refine qN [(0,.ptr 0 0),(1,.int .i64 (n)),(5,.ptr 2 0),(7,.ptr 3 0),(8,.imm ((aD [] r).map (aa.int .i64))),(24,.bool ((aD [] r).contains (n)))] [.box [.int .i64 ((lv)),.map 1],mS m,t.bx,.box [.bool (x1.row),.int .i64 (x1.lv),.bool (x1.bd),.int .i64 (x1.val.kind),.str x1.val.name,.int .i64 (x1.val.n),.imm (x1.val.names.map aa.str),.imm (x1.val.kids.map Ty.enc),.imm (x1.names.map aa.str)]] ?_ ?_
 by_cases hb2:((aD [] r).contains (n))=true
 refine qt (hb2) ?_ ?_
 refine qU 1 [(6,.bool false)] ?_ ?_
 refine bb kq ?_
 apply aR
 refine aL (l:=[.bool false]) (.inr rfl) kq (by obtain ⟨h1,h2⟩:=(hx _ aq).1 aq;subst h1;rfl) (by simp [aK]) (by simp [aK]) ?_ ?_
 refine Eq.trans (b:=[.box [.int .i64 ((lv)),.map 1],mS m]) kq ?_
 rotate_left
 · simp [ai.belO,hpS,Ty.v,Vr.v]
 iterate 2 kernel_rfl
 refine qf (Bool.eq_false_iff.2 hb2) ?_ ?_
 refine qK ?_ ?_
 refine qz [(0,.ptr 0 0),(1,.int .i64 (n)),(5,.ptr 2 0),(7,.ptr 3 0),(8,.imm ((aD [] r).map (aa.int .i64)))] ?_ ?_
 refine ar ?_ ?_
 refine qV 1 ?_ ?_
 refine qy (au (l:=(aD [] r)) (enc:=(aa.int .i64)) kq ff) ?_ ?_ ?_
 refine qR 1 [(0,.ptr 0 0),(1,.int .i64 (n)),(5,.ptr 2 0),(7,.ptr 3 0),(25,.imm ((aD [] r).map (aa.int .i64))),(26,nI ((aD [] r).length)),(27,.int .i64 0)] [.box [.int .i64 ((lv)),.map 1],mS m,t.bx,.box [.bool (x1.row),.int .i64 (x1.lv),.bool (x1.bd),.int .i64 (x1.val.kind),.str x1.val.name,.int .i64 (x1.val.n),.imm (x1.val.names.map aa.str),.imm (x1.val.kids.map Ty.enc),.imm (x1.names.map aa.str)]] ?_ ?_
 refine qB 0 ?_ ?_ ?_
 refine bR (σ:=Nat) (fun k=>[(0,.ptr 0 0),(1,.int .i64 (n)),(5,.ptr 2 0),(7,.ptr 3 0),(25,.imm ((aD [] r).map (aa.int .i64))),(26,.int .i64 (((aD [] r).length:Nat):Int)),(27,.int .i64 ((k:Nat):Int))]) (fun k=>[.box [.int .i64 ((lv)),.map 1],mS (c8 x1.lv ((aD [] r).take k) m),t.bx,.box [.bool (x1.row),.int .i64 (x1.lv),.bool (x1.bd),.int .i64 (x1.val.kind),.str x1.val.name,.int .i64 (x1.val.n),.imm (x1.val.names.map aa.str),.imm (x1.val.kids.map Ty.enc),.imm (x1.names.map aa.str)]]) (fun k=>k≤(aD [] r).length) (fun k=>(aD [] r).length - k) 0 kq (by exact Nat.zero_le _) ⟨⟨kq,kq,kq,kq,kq,kq,kq,trivial⟩,by simp [aV,aa.bel],by simp,(Eq.trans (b:=[.box [.int .i64 ((lv)),.map 1],mS m,t.bx,.box [.bool (x1.row),.int .i64 (x1.lv),.bool (x1.bd),.int .i64 (x1.val.kind),.str x1.val.name,.int .i64 (x1.val.n),.imm (x1.val.names.map aa.str),.imm (x1.val.kids.map Ty.enc),.imm (x1.names.map aa.str)]]) kq (by rfl)),by simp [ai.belO]⟩ ?_
 rintro k hk
 refine qW 1 [(0,.ptr 0 0),(1,.int .i64 (n)),(5,.ptr 2 0),(7,.ptr 3 0),(25,.imm ((aD [] r).map (aa.int .i64))),(26,nI ((aD [] r).length)),(27,nI k),(28,.bool (decide (((k:Nat):Int)<(((aD [] r).length:Nat):Int))))] [.box [.int .i64 ((lv)),.map 1],mS (c8 x1.lv ((aD [] r).take k) m),t.bx,.box [.bool (x1.row),.int .i64 (x1.lv),.bool (x1.bd),.int .i64 (x1.val.kind),.str x1.val.name,.int .i64 (x1.val.n),.imm (x1.val.names.map aa.str),.imm (x1.val.kids.map Ty.enc),.imm (x1.names.map aa.str)]] ?_ ?_
 refine ar ?_ ?_
 by_cases hb3:((k:Nat):Int)<(((aD [] r).length:Nat):Int)
 refine qt (decide_eq_true hb3) ?_ ?_
 refine qK ?_ ?_
 refine qz [(0,.ptr 0 0),(1,.int .i64 (n)),(5,.ptr 2 0),(7,.ptr 3 0),(25,.imm ((aD [] r).map (aa.int .i64))),(26,nI ((aD [] r).length)),(27,nI k)] ?_ ?_
 refine ar ?_ ?_
 refine qB 1 ?_ ?_ ?_
 refine qO ?_ ?_
 refine qy (ax (k:=.i64) (l:=(aD [] r)) (enc:=(aa.int .i64)) (i:=((k:Nat):Int)) 0 kq ff ty3 (fun _=>rfl) oq oq) ?_ ?_ ?_
 refine qR 2 [(0,.ptr 0 0),(1,.int .i64 (n)),(5,.ptr 2 0),(7,.ptr 3 0),(10,.int .i64 (((aD [] r).getD k 0))),(25,.imm ((aD [] r).map (aa.int .i64))),(26,nI ((aD [] r).length)),(27,nI k)] [.box [.int .i64 ((lv)),.map 1],mS (c8 x1.lv ((aD [] r).take k) m),t.bx,.box [.bool (x1.row),.int .i64 (x1.lv),.bool (x1.bd),.int .i64 (x1.val.kind),.str x1.val.name,.int .i64 (x1.val.n),.imm (x1.val.names.map aa.str),.imm (x1.val.kids.map Ty.enc),.imm (x1.names.map aa.str)]] ?_ ?_
 refine qV 5 ?_ ?_
 rcases hm4:am (((aD [] r).getD k 0)) (c8 x1.lv ((aD [] r).take k) m) with _|x4
 · exact absurd hm4 ((FW oq hall))
 refine qy (cH (ok:=false) (o:=1) (ek:=(aa.int .i64)) (ev:=Vr.v) (l:=(c8 x1.lv ((aD [] r).take k) m)) (k:=(((aD [] r).getD k 0))) (x:=x4) dH hm4 kq jo ty3 rfl mB kq) ?_ ?_ ?_
 refine qR 2 [(0,.ptr 0 0),(1,.int .i64 (n)),(5,.ptr 2 0),(7,.ptr 3 0),(10,.int .i64 (((aD [] r).getD k 0))),(11,.ptr 4 0),(25,.imm ((aD [] r).map (aa.int .i64))),(26,nI ((aD [] r).length)),(27,nI k)] [.box [.int .i64 ((lv)),.map 1],mS (c8 x1.lv ((aD [] r).take k) m),t.bx,.box [.bool (x1.row),.int .i64 (x1.lv),.bool (x1.bd),.int .i64 (x1.val.kind),.str x1.val.name,.int .i64 (x1.val.n),.imm (x1.val.names.map aa.str),.imm (x1.val.kids.map Ty.enc),.imm (x1.names.map aa.str)],.box [.bool (x4.row),.int .i64 (x4.lv),.bool (x4.bd),.int .i64 (x4.val.kind),.str x4.val.name,.int .i64 (x4.val.n),.imm (x4.val.names.map aa.str),.imm (x4.val.kids.map Ty.enc),.imm (x4.names.map aa.str)]] ?_ ?_
 refine qV 4 ?_ ?_
 refine qy (DO (a:=(x4.lv)) (b:=(x1.lv)) (ats:=[3,3]) kq) ?_ ?_ ?_
 refine qR 2 [(0,.ptr 0 0),(1,.int .i64 (n)),(5,.ptr 2 0),(7,.ptr 3 0),(10,.int .i64 (((aD [] r).getD k 0))),(11,.ptr 4 0),(25,.imm ((aD [] r).map (aa.int .i64))),(26,nI ((aD [] r).length)),(27,nI k)] [.box [.int .i64 ((lv)),.map 1],mS (c8 x1.lv ((aD [] r).take k) m),t.bx,.box [.bool (x1.row),.int .i64 (x1.lv),.bool (x1.bd),.int .i64 (x1.val.kind),.str x1.val.name,.int .i64 (x1.val.n),.imm (x1.val.names.map aa.str),.imm (x1.val.kids.map Ty.enc),.imm (x1.names.map aa.str)],.box [.bool (x4.row),.int .i64 (min (x4.lv) (x1.lv)),.bool (x4.bd),.int .i64 (x4.val.kind),.str x4.val.name,.int .i64 (x4.val.n),.imm (x4.val.names.map aa.str),.imm (x4.val.kids.map Ty.enc),.imm (x4.names.map aa.str)]] ?_ ?_
 refine cK cxM kq (lG aB) (bv ?_)
 refine qu 6 ?_ ?_
 refine qD (dc (o:=1) (ek:=(aa.int .i64)) (ev:=Vr.v) (l:=(c8 x1.lv ((aD [] r).take k) m)) (k:=(((aD [] r).getD k 0))) (x:=(Vr.mk (x4.row) (min (x4.lv) (x1.lv)) (x4.bd) x4.val x4.names)) dH kq jo ty3 rfl kq kq) ?_ ?_ ?_ ?_
 refine cn kq ⟨kq,?_⟩
 refine ak ?_
 refine ab ?_
 refine qZ [(0,.ptr 0 0),(1,.int .i64 (n)),(5,.ptr 2 0),(7,.ptr 3 0),(25,.imm ((aD [] r).map (aa.int .i64))),(26,nI ((aD [] r).length)),(27,nI k)] [.box [.int .i64 ((lv)),.map 1],mS (aJ (((aD [] r).getD k 0)) (Vr.mk (x4.row) (min (x4.lv) (x1.lv)) (x4.bd) x4.val x4.names) (c8 x1.lv ((aD [] r).take k) m)),t.bx,.box [.bool (x1.row),.int .i64 (x1.lv),.bool (x1.bd),.int .i64 (x1.val.kind),.str x1.val.name,.int .i64 (x1.val.n),.imm (x1.val.names.map aa.str),.imm (x1.val.kids.map Ty.enc),.imm (x1.names.map aa.str)],.box [.bool (x4.row),.int .i64 (min (x4.lv) (x1.lv)),.bool (x4.bd),.int .i64 (x4.val.kind),.str x4.val.name,.int .i64 (x4.val.n),.imm (x4.val.names.map aa.str),.imm (x4.val.kids.map Ty.enc),.imm (x4.names.map aa.str)]] ?_ ?_
 refine qo ?_ ?_
 refine qy (aN (a:=((k:Nat):Int)) (b:=1) kq oq oq) ?_ ?_ ?_
 refine qr 1 ?_ ?_
 refine qe ?_ ?_
 refine ab ⟨k+1,?_,?_,⟨⟨kq,kq,kq,kq,kq,kq,kq,trivial⟩,by simp [aV,aa.bel],by simp,(Eq.trans (b:=[.box [.int .i64 ((lv)),.map 1],mS (aJ (((aD [] r).getD k 0)) (Vr.mk (x4.row) (min (x4.lv) (x1.lv)) (x4.bd) x4.val x4.names) (c8 x1.lv ((aD [] r).take k) m)),t.bx,.box [.bool (x1.row),.int .i64 (x1.lv),.bool (x1.bd),.int .i64 (x1.val.kind),.str x1.val.name,.int .i64 (x1.val.n),.imm (x1.val.names.map aa.str),.imm (x1.val.kids.map Ty.enc),.imm (x1.names.map aa.str)]]) kq (by rw [BA oq aq])),by simp [ai.belO]⟩⟩
 · omega
 · omega
 iterate 28 kernel_rfl
 refine qf (decide_eq_false hb3) ?_ ?_
 refine bC 0 kq kq ?_
 refine af ?_
 refine af ?_
 refine aA ?_
 refine ab ?_
 refine qz [(0,.ptr 0 0),(1,.int .i64 (n)),(5,.ptr 2 0),(7,.ptr 3 0)] ?_ ?_
 refine ar ?_ ?_
 refine cK cxM kq aB (bv ?_)
 refine qu 5 ?_ ?_
 refine cn kq ⟨kq,?_⟩
 refine ab ?_
 refine qZ [(0,.ptr 0 0),(1,.int .i64 (n)),(7,.ptr 3 0)] [.box [.int .i64 ((lv)),.map 1],mS (c8 x1.lv ((aD [] r).take k) m),t.bx,.box [.bool (x1.row),.int .i64 (x1.lv),.bool true,.int .i64 (t.kind),.str t.name,.int .i64 (t.n),.imm (t.names.map aa.str),.imm (t.kids.map Ty.enc),.imm (x1.names.map aa.str)]] ?_ ?_
 refine ar ?_ ?_
 refine cK cxM kq aB (bv ?_)
 refine qu 6 ?_ ?_
 refine qD (dc (o:=1) (ek:=(aa.int .i64)) (ev:=Vr.v) (l:=(c8 x1.lv ((aD [] r).take k) m)) (k:=(n)) (x:=(Vr.mk (x1.row) (x1.lv) true t x1.names)) dH kq jo ty3 rfl kq kq) ?_ ?_ ?_ ?_
 refine cn kq ⟨kq,?_⟩
 refine ab ?_
 refine qZ [] [.box [.int .i64 ((lv)),.map 1],mS (aJ (n) (Vr.mk (x1.row) (x1.lv) true t x1.names) (c8 x1.lv ((aD [] r).take k) m)),t.bx,.box [.bool (x1.row),.int .i64 (x1.lv),.bool true,.int .i64 (t.kind),.str t.name,.int .i64 (t.n),.imm (t.names.map aa.str),.imm (t.kids.map Ty.enc),.imm (x1.names.map aa.str)]] ?_ ?_
 refine qU 1 [(6,.bool true)] ?_ ?_
 refine bb kq ?_
 refine aL (l:=[.bool true]) (.inr rfl) kq (by obtain ⟨h1,h2⟩:=(hx _ aq).2 aq;subst h1;rfl) (by simp [aK]) (by simp [aK]) ?_ ?_
 refine Eq.trans (b:=[.box [.int .i64 ((lv)),.map 1],mS (aJ (n) (Vr.mk (x1.row) (x1.lv) true t x1.names) (c8 x1.lv ((aD [] r).take k) m))]) kq ?_
 rotate_left
 · simp [ai.belO,hpS,Ty.v,Vr.v]
 iterate 35 kernel_rfl
 all_goals
  first|(obtain ⟨h1,h2⟩:=(hx _ aq).1 aq;rw [← h2];rfl)|(obtain ⟨h1,h2⟩:=(hx _ aq).2 aq;rw [← h2,← Dk (l:=aD [] r) (k:=k) oq];rfl)
@[simp] theorem FT (k:Nat) (l:Dn):((ae aa.str aa.bool l).all fun e=>e.1.bel k && e.2.bel k)=true:=by
 simp [ae,List.all_eq_true]
theorem DX (l:Dn):(ae aa.str aa.bool l).flatMap (fun e=>e.1.refs++e.2.refs)=[]:=by
 rw [List.flatMap_eq_nil_iff]
 intro e he
 obtain ⟨p,_,rfl⟩:=List.mem_map.1 he
 simp [aa.refs]
theorem mh (r:Nat→Nat) (l:Dn):ix r (ae aa.str aa.bool l)=ae aa.str aa.bool l:=iU (k:=0) (fun i hi=>by omega) _ (FT 0 l)
def mH (l:List (List UInt8)) (k:Nat):Dn:=(l.take k).foldl (fun m x=>aJ x true m) []
theorem Bk {l:List (List UInt8)} {k:Nat} (hk:k<l.length):aJ (l.getD (0+k) []) true (mH l k)=mH l (k+1):=by
 unfold mH
 rw [kl l k [] hk,List.foldl_append,Nat.zero_add];rfl
theorem Dz {l:List (List UInt8)} {k:Nat} (hk:l.length≤k):mH l k=ez l:=by unfold mH ez;rw [List.take_of_length_le hk]
noncomputable def JO:Code:=aE Tryz.f124
theorem EO {p:Prop} (h:p:=by simp [-List.map_append,-List.map_take,-List.map_drop,-List.append_assoc,aa.refs,cY,ai.refs,ai.isIter,kZ,Abs.renT,ee,lh,ai.ren,aa.ren,bV,List.idxOf_cons,DX,mh]):p:=h
theorem Da {p:Prop} (h:p:=by simp [aa.frz,bo,aa.ren,bV,dB,ai.ren,bc,cb,aS,aa.owns]):p:=h
theorem H6 {p:Prop} (h:p:=by simp [ai.belO,-List.map_append,-List.map_take,-List.map_drop,-List.append_assoc]):p:=h
theorem IG {p:Prop} (h:p:=by simp [aK,-List.map_append,-List.map_take,-List.map_drop,-List.append_assoc]):p:=h
theorem BM (a b:Ty) (ha:a.sz<100000000) (hb:b.sz<100000000):av cx 124 [Ty.v a,Ty.v b] [] (fun v h=>v=.map 0∧h=[.map (ae aa.str aa.bool (ez (a.names++b.names)))]):=by
 have hz1:=bK a
 have hz2:=bK b
 have hal:(a.names++b.names).length=a.names.length+b.names.length:=List.length_append
 refine dF (cx:=cx) 24 0 [(ResultVar.tmp 4)] Tryz.func124 rfl rfl rfl rfl rfl zq ?_
 show wpA cx 24 0 (at_ JO []) _ _ _
 refine qZ [(0,Ty.v a),(1,Ty.v b)] [] ?_ ?_
 refine qW 3 [(2,.ptr 0 0),(3,.ptr 1 0)] [a.bx,b.bx] ?_ ?_
 refine qW 2 [(2,.ptr 0 0),(3,.ptr 1 0),(5,.map 2)] [a.bx,b.bx,.map (ae aa.str aa.bool ([]:List (List UInt8×Bool)))] ?_ ?_
 refine ar ?_ ?_
 refine ar ?_ ?_
 refine cK cxM kq aB (bv ?_)
 refine qu 2 ?_ ?_
 refine uy (args:=[.imm (a.names.map aa.str)]) (args':=[.imm (a.names.map aa.str)]) (V':=.own 3 0 a.names.length) (F:=[a.bx,b.bx,.map (ae aa.str aa.bool ([]:List (List UInt8×Bool)))]) (G':=[.arr 1 (a.names.map aa.str) 0]) (L:=[3]) kq kq kq kq kq (y7 a.names oq) [a.bx,b.bx,.map (ae aa.str aa.bool ([]:List (List UInt8×Bool)))] kq Da Da zq Da Da Da (by simp [l9,aS,aa.owns]) ?_
 refine qu 2 ?_ ?_
 refine qD (bh (o:=3) (len:=a.names.length) (l:=a.names) (xs:=b.names) (enc:=aa.str) (sz:=1) (fr:=0) (x:=(.imm (b.names.map aa.str))) kq bi ty9 bi rfl kq rfl rfl kq ⟨by decide,by kernel_rfl⟩ (fun _=>rfl) oq oq) ?_ ?_ ?_ ?_
 refine qd (mz (o:=3) (off:=0) (len:=((a.names++b.names).length)) (sz:=1) (es:=((a.names++b.names).map aa.str)) (fr:=0) kq bi kq zq) ?_ ?_ ?_ ?_
 refine qu 1 ?_ ?_
 refine cn kq ⟨kq,?_⟩
 refine ab ?_
 refine qZ [(5,.map 2),(14,.own 3 0 (a.names++b.names).length),(15,nI ((a.names++b.names).length)),(16,.int .i64 0)] [a.bx,b.bx,.map (ae aa.str aa.bool ([]:List (List UInt8×Bool))),.arr 1 ((a.names++b.names).map aa.str) 0] ?_ ?_
 refine qB 0 ?_ ?_ ?_
 refine bR (σ:=Nat) (fun k=>[(5,.map 2),(14,.own 3 0 (a.names++b.names).length),(15,.int .i64 (((a.names++b.names).length:Nat):Int)),(16,.int .i64 ((k:Nat):Int))]) (fun k=>[a.bx,b.bx,.map (ae aa.str aa.bool (mH (a.names++b.names) k)),.arr 1 ((a.names++b.names).map aa.str) 0]) (fun k=>k≤(a.names++b.names).length) (fun k=>(a.names++b.names).length - k) 0 kq (by exact Nat.zero_le _) ⟨⟨kq,kq,kq,kq,trivial⟩,by simp [aV,aa.bel],by simp,(Eq.trans (b:=[a.bx,b.bx,.map (ae aa.str aa.bool ([]:List (List UInt8×Bool))),.arr 1 ((a.names++b.names).map aa.str) 0]) kq (by rfl)),by simp [ai.belO,bM]⟩ ?_
 rintro k hk
 refine qW 1 [(5,.map 2),(14,.own 3 0 (a.names++b.names).length),(15,nI ((a.names++b.names).length)),(16,nI k),(17,.bool (decide (((k:Nat):Int)<(((a.names++b.names).length:Nat):Int))))] [a.bx,b.bx,.map (ae aa.str aa.bool (mH (a.names++b.names) k)),.arr 1 ((a.names++b.names).map aa.str) 0] ?_ ?_
 refine ar ?_ ?_
 by_cases hb1:((k:Nat):Int)<(((a.names++b.names).length:Nat):Int)
 refine qt (decide_eq_true hb1) ?_ ?_
 refine qK ?_ ?_
 refine qz [(5,.map 2),(14,.own 3 0 (a.names++b.names).length),(15,nI ((a.names++b.names).length)),(16,nI k)] ?_ ?_
 refine ar ?_ ?_
 refine qB 1 ?_ ?_ ?_
 refine qO ?_ ?_
 refine qy (lQ (k:=.i64) (i:=((k:Nat):Int)) (o:=3) (off:=0) (len:=((a.names++b.names).length)) (sz:=1) (fr:=0) (es:=((a.names++b.names).map aa.str)) kq bi ty9 kq rfl zq oq oq) ?_ ?_ ?_
 refine qy (uB (t:=9) (o:=3) (idx:=(0+k)) (off:=0) (k:=(((a.names++b.names).map aa.str).length)) (sz:=1) (fr:=0) (es:=((a.names++b.names).map aa.str)) (x:=aa.str ((a.names++b.names).getD (0+k) [])) (v:=.str ((a.names++b.names).getD (0+k) [])) kq kq zq (uf _ _ _ _ oq) kq) ?_ ?_ ?_
 refine qR 1 [(5,.map 2),(7,.str ((a.names++b.names).getD (0+k) [])),(14,.own 3 0 (a.names++b.names).length),(15,nI ((a.names++b.names).length)),(16,nI k)] [a.bx,b.bx,.map (ae aa.str aa.bool (mH (a.names++b.names) k)),.arr 1 ((a.names++b.names).map aa.str) 0] ?_ ?_
 refine qo ?_ ?_
 refine qr 2 ?_ ?_
 refine qY (dc (o:=2) (ek:=aa.str) (ev:=aa.bool) (l:=(mH (a.names++b.names) k)) (k:=((a.names++b.names).getD (0+k) [])) (x:=true) pw kq x7 ty9 rfl kq kq) ?_ ?_ ?_
 refine qe ?_ ?_
 refine ak ?_
 refine ab ?_
 refine qZ [(5,.map 2),(14,.own 3 0 (a.names++b.names).length),(15,nI ((a.names++b.names).length)),(16,nI k)] [a.bx,b.bx,.map (ae aa.str aa.bool (aJ ((a.names++b.names).getD (0+k) []) true (mH (a.names++b.names) k))),.arr 1 ((a.names++b.names).map aa.str) 0] ?_ ?_
 refine qo ?_ ?_
 refine qy (aN (a:=((k:Nat):Int)) (b:=1) kq oq oq) ?_ ?_ ?_
 refine qr 1 ?_ ?_
 refine qe ?_ ?_
 refine ab ⟨k+1,?_,?_,⟨⟨kq,kq,kq,kq,trivial⟩,by simp [aV,aa.bel],by simp,(Eq.trans (b:=[a.bx,b.bx,.map (ae aa.str aa.bool (aJ ((a.names++b.names).getD (0+k) []) true (mH (a.names++b.names) k))),.arr 1 ((a.names++b.names).map aa.str) 0]) kq (by rw [Bk oq])),by simp [ai.belO,bM]⟩⟩
 · omega
 · omega
 iterate 23 kernel_rfl
 refine qf (decide_eq_false hb1) ?_ ?_
 refine bC 0 kq kq ?_
 refine af ?_
 refine af ?_
 refine aA ?_
 refine ab ?_
 refine qz [(5,.map 2)] ?_ ?_
 refine qU 2 [(4,.map 2)] ?_ ?_
 refine iB [2] [(4,.map 0)] [.map (ae aa.str aa.bool (mH (a.names++b.names) k))] dq EO EO EO EO ?_
 refine qZ [(4,.map 0)] [.map (ae aa.str aa.bool (mH (a.names++b.names) k))] ?_ ?_
 refine bb kq ?_
 refine dV (l:=[.map 0]) 1 [.map (ae aa.str aa.bool (mH (a.names++b.names) k))] (.inr rfl) kq (Nat.zero_le _) kq IG H6 ?_
 · exact ⟨rfl,by rw [Dz oq]⟩
 iterate 23 kernel_rfl
noncomputable def JE:Code:=aE Tryz.f123
theorem BD (l:Dn) :av cx 123 [.map 0] [.map (ae aa.str aa.bool l)] (fun v h=>v=.fn (.func 138) [] [.ptr 1 0]∧h=[.map (ae aa.str aa.bool l),.box [.map 0]]):=by
 refine dF (cx:=cx) 4 1 [(ResultVar.tmp 2)] Tryz.func123 rfl rfl rfl rfl rfl zq ?_
 show wpA cx 4 1 (at_ JE []) _ _ _
 refine qZ [(0,.map 0)] [.map (ae aa.str aa.bool l)] ?_ ?_
 refine qW 2 [(1,.ptr 1 0)] [.map (ae aa.str aa.bool l),.box [.map 0]] ?_ ?_
 refine qU 2 [(2,.fn (.func 138) [] [.ptr 1 0])] ?_ ?_
 refine bb kq ?_
 refine dV (l:=[.fn (.func 138) [] [.ptr 1 0]]) 2 [.map (ae aa.str aa.bool l),.box [.map 0]] (.inr rfl) kq dq kq IG H6 ?_
 · exact ⟨rfl,rfl⟩
 iterate 3 kernel_rfl
theorem ze {f:Nat} {U:UF} {S S':St} {a b:Ty} {ok:Bool} (h:gi f U S a b=some (ok,S')):∃ R:Bool×St×Ty×Ty,dR f U f S a b []=some R∧(R.1=true→fu f R.2.1 R.2.2.1 R.2.2.2=some (ok,S'))∧(R.1=false→false=ok∧R.2.1=S'):=by
 unfold gi at h
 split at h <;> try (cases h;done)
 · rename_i S1 a1 b1 hl;exact ⟨_,hl,fun _=>h,fun h=>(by cases h)⟩
 · rename_i S1 a1 b1 hl;cases h;exact ⟨_,hl,fun h=>(by cases h),fun _=>⟨rfl,rfl⟩⟩
theorem EV {f g:Nat} {U:UF} {S:St} {a b:Ty} {D:Dn} {R:Bool×St×Ty×Ty} (h:dR f U g S a b D=some R):∃ (a' b':Ty) (P:Bool×St×Dn×Bool),cm f S a=some a'∧cm f S b=some b'∧rok a'∧rok b'∧ck U b' (a'.names.drop 0) (a'.kids.drop 0) S D false=some P∧g - 1<g ∧
 (∀ ag,P.1=true→P.2.2.2=ag→(ag=true→dR f U (g - 1) P.2.1 a' b' P.2.2.1=some R)∧(ag=false→R=(true,P.2.1,a',b')))∧(P.1=false→R=(false,P.2.1,a',b')):=by
 cases g with
 | zero=>simp [dR] at h
 | succ g =>
  rw [dR] at h
  split at h <;> try (cases h;done)
  rename_i a' ha
  split at h <;> try (cases h;done)
  rename_i b' hb
  split at h <;> try (cases h;done)
  rename_i hr
  split at h <;> try (cases h;done)
  · rename_i S1 D1 hp
    exact ⟨a',b',_,ha,hb,hr.1,hr.2,hp,by omega,fun ag _ e=>⟨fun _=>h,fun e2=>(by rw [e2] at e;cases e)⟩,fun h=>(by cases h)⟩
  · rename_i S1 D1 hp
    cases h
    exact ⟨a',b',_,ha,hb,hr.1,hr.2,hp,by omega,fun ag _ e=>⟨fun e2=>(by rw [e2] at e;cases e),fun _=>rfl⟩,fun h=>(by cases h)⟩
  · rename_i S1 D1 ag1 hp
    cases h
    exact ⟨a',b',_,ha,hb,hr.1,hr.2,hp,by omega,fun ag h=>(by cases h),fun _=>rfl⟩
theorem tq {U:UF} {b a:Ty} {S:St} {D:Dn} {ag:Bool} {k:Nat} (hk:k<a.names.length) (hl:a.names.length=a.kids.length):ck U b (a.names.drop k) (a.kids.drop k) S D ag =
 if aQ b.names (a.names.getD k [])<0∨isD D (a.names.getD k [])=true then ck U b (a.names.drop (k+1)) (a.kids.drop (k+1)) S D ag else (match U S (a.kids.getD k Ty.zero) (b.kids.getD (aQ b.names (a.names.getD k [])).toNat Ty.zero) with
 | some (true,S')=>ck U b (a.names.drop (k+1)) (a.kids.drop (k+1)) S' (aJ (a.names.getD k []) true D) true
 | some (false,S')=>some (false,S',aJ (a.names.getD k []) true D,true)
 | none=>none):=by
 rw [lX (l:=a.names) (d:=[]) hk,lX (l:=a.kids) (d:=Ty.zero) oq,ck]
 rfl
theorem si {U:UF} {b a:Ty} {S:St} {D:Dn} {ag:Bool} {k:Nat} {P:Bool×St×Dn×Bool} (h:ck U b (a.names.drop k) (a.kids.drop k) S D ag=some P) (hk:k<a.names.length) (hl:a.names.length=a.kids.length) (hc:aQ b.names (a.names.getD k [])<0∨isD D (a.names.getD k [])=true):ck U b (a.names.drop (k+1)) (a.kids.drop (k+1)) S D ag=some P:=by
 rw [tq hk hl,if_pos hc] at h;exact h
theorem sF {U:UF} {b a:Ty} {S:St} {D:Dn} {ag:Bool} {k:Nat} {P:Bool×St×Dn×Bool} (h:ck U b (a.names.drop k) (a.kids.drop k) S D ag=some P) (hk:k<a.names.length) (hl:a.names.length=a.kids.length) (hi:¬ aQ b.names (a.names.getD k [])<0) (hd:isD D (a.names.getD k [])=false) :
 ∃ okU SU,U S (a.kids.getD k Ty.zero) (b.kids.getD (aQ b.names (a.names.getD k [])).toNat Ty.zero)=some (okU,SU)∧(okU=true→ck U b (a.names.drop (k+1)) (a.kids.drop (k+1)) SU (aJ (a.names.getD k []) true D) true=some P)∧(¬ okU=true→P=(false,SU,aJ (a.names.getD k []) true D,true)):=by
 rw [tq hk hl,if_neg (by rintro (h|h);exact hi h;rw [hd] at h;cases h)] at h
 split at h <;> try (cases h;done)
 · rename_i S1 hu;exact ⟨_,_,hu,fun _=>h,fun h=>absurd rfl h⟩
 · rename_i S1 hu;cases h;exact ⟨_,_,hu,fun h=>(by cases h),fun _=>rfl⟩
theorem DH {U:UF} {b a:Ty} {S:St} {D:Dn} {ag:Bool} {k:Nat} {P:Bool×St×Dn×Bool} (h:ck U b (a.names.drop k) (a.kids.drop k) S D ag=some P) (hk:a.names.length≤k):P=(true,S,D,ag):=by
 rw [List.drop_of_length_le hk] at h
 unfold ck at h
 cases h;rfl
theorem IS {D:Dn} {s:List UInt8} (h:am s D=none):isD D s=false:=by unfold isD;rw [h]
theorem IY {D:Dn} {s:List UInt8} {b:Bool} (h:am s D=some b) (hb:¬ b=true):isD D s=false:=by unfold isD;rw [h];simpa using hb
theorem Je {D:Dn} {s:List UInt8} {b:Bool} (h:am s D=some b) (hb:b=true):isD D s=true:=by unfold isD;rw [h];exact hb
theorem Jc {f:Nat} {S S':St} {a b:Ty} {ok:Bool} (h:fu f S a b=some (ok,S')):(∀ n,(onT a b n).sz<100000000)∧(∀ n,(onT b a n).sz<100000000) ∧
 (a.n=b.n→decide ((onT a b b.n).names.length+(onT b a a.n).names.length=0)=ok∧S=S') ∧
 (¬ a.n=b.n→(0<(onT a b b.n).names.length∧b.n=0)∨(0<(onT b a a.n).names.length∧a.n=0)→false=ok∧S=S') ∧
 (¬ a.n=b.n→¬ ((0<(onT a b b.n).names.length∧b.n=0)∨(0<(onT b a a.n).names.length∧a.n=0)) →
  ((onT a b b.n).names.length=0∧¬ a.n=0→cg f S a.n (onT b a b.n)=some (ok,S')) ∧
  (¬ ((onT a b b.n).names.length=0∧¬ a.n=0)→((onT b a a.n).names.length=0→cg f S b.n (onT a b a.n)=some (ok,S')) ∧
   (¬ (onT b a a.n).names.length=0→(S.length<100000000∧¬ am a.n S=none∧¬ am b.n S=none)∧∃ ok1 S2,cg f (eF S a b) a.n (onT b a ((S.length+1:Nat):Int))=some (ok1,S2)∧(ok1=true→cg f S2 b.n (onT a b ((S.length+1:Nat):Int))=some (ok,S'))∧(¬ ok1=true→false=ok∧S2=S')))):=by
 unfold fu at h
 split at h <;> try (cases h;done)
 rename_i hg
 have sN0:∀ (l:Fd) (n n':Int),(recT l n).sz=(recT l n').sz:=fun l n n'=>by simp only [recT,Ty.sz]
 refine ⟨fun n=>(by unfold onT at hg ⊢;rw [sN0 _ n b.n];exact hg.1),fun n=>(by unfold onT at hg ⊢;rw [sN0 _ n a.n];exact hg.2),fun e=>?_,fun e hz=>?_,fun e hz=>⟨fun hl=>?_,fun hl=>⟨fun hr=>?_,fun hr=>?_⟩⟩⟩
 · rw [if_pos e] at h;cases h;exact ⟨rfl,rfl⟩
 · rw [if_neg e,if_pos hz] at h;cases h;exact ⟨rfl,rfl⟩
 · rw [if_neg e,if_neg hz,if_pos hl] at h;exact h
 · rw [if_neg e,if_neg hz,if_neg hl,if_pos hr] at h;exact h
 · rw [if_neg e,if_neg hz,if_neg hl,if_neg hr] at h
   split at h <;> try (cases h;done)
   rename_i hs
   refine ⟨⟨hs.1,fun e=>(by rw [e] at hs;exact absurd hs.2.1 dq),fun e=>(by rw [e] at hs;exact absurd hs.2.2 dq)⟩,?_⟩
   split at h <;> try (cases h;done)
   · rename_i S2 hb;exact ⟨_,_,hb,fun _=>h,fun h=>absurd rfl h⟩
   · rename_i S2 hb;cases h;exact ⟨_,_,hb,fun h=>(by cases h),fun _=>⟨rfl,rfl⟩⟩
theorem I8 {f:Nat} {S S':St} {a b:Ty} {ok:Bool} (h:fu f S a b=some (ok,S')):(∀ n,(recT (onL a b a.names.length) n).sz<100000000)∧(∀ n,(recT (onL b a b.names.length) n).sz<100000000) ∧
 (a.n=b.n→decide ((recT (onL a b a.names.length) b.n).names.length+(recT (onL b a b.names.length) a.n).names.length=0)=ok∧S=S') ∧
 (¬ a.n=b.n→(0<(recT (onL a b a.names.length) b.n).names.length∧b.n=0)∨(0<(recT (onL b a b.names.length) a.n).names.length∧a.n=0)→false=ok∧S=S') ∧
 (¬ a.n=b.n→¬ ((0<(recT (onL a b a.names.length) b.n).names.length∧b.n=0)∨(0<(recT (onL b a b.names.length) a.n).names.length∧a.n=0)) →
  ((recT (onL a b a.names.length) b.n).names.length=0∧¬ a.n=0→cg f S a.n (recT (onL b a b.names.length) b.n)=some (ok,S')) ∧
  (¬ ((recT (onL a b a.names.length) b.n).names.length=0∧¬ a.n=0)→((recT (onL b a b.names.length) a.n).names.length=0→cg f S b.n (recT (onL a b a.names.length) a.n)=some (ok,S')) ∧
   (¬ (recT (onL b a b.names.length) a.n).names.length=0→(S.length<100000000∧¬ am a.n S=none∧¬ am b.n S=none)∧∃ ok1 S2,cg f (eF S a b) a.n (recT (onL b a b.names.length) ((S.length+1:Nat):Int))=some (ok1,S2)∧(ok1=true→cg f S2 b.n (recT (onL a b a.names.length) ((S.length+1:Nat):Int))=some (ok,S'))∧(¬ ok1=true→false=ok∧S2=S')))):=Jc h
theorem Dt {S:St} {n:Int} {x:Vr} (h:am n S=some x):CF S n=x.lv:=by unfold CF;rw [h]
theorem xL (lv lx:Int) (ns:List (List UInt8)) (m:St) (hml:m.length<100000000):av cx 80 [.ptr 0 0,.agg [.bool true,.int .i64 (lx),.bool false,.int .i64 0,.str [],.int .i64 0,.full [],.full [],.imm (ns.map aa.str)]] [bS lv,mS m] (fun v h=>v=(.int .i64 ((((m.length+1):Nat)):Int))∧h=[bS lv,mS (aJ ((((m.length+1):Nat):Int)) ⟨true,lx,false,Ty.zero,ns⟩ m)]):=by
 refine i5 ?_
 have:=s7 ⟨true,lx,false,Ty.zero,ns⟩ lv m hml
 simpa [bo,cb,aS,aa.frz,aa.owns,Vr.v,Ty.zero] using this
theorem CV (a b:Ty) (ha:a.sz<100000000) (hb:b.sz<100000000):((ez (a.names++b.names)).map Prod.fst).Nodup∧(∀ p∈ez (a.names++b.names),p.1.length≤1000000000)∧(ez (a.names++b.names)).length≤1000000000:=by
 obtain ⟨h1,h2⟩:=mj (a.names++b.names) [] zq
 have hz1:=bK a
 have hz2:=bK b
 refine ⟨h1,fun p hp=>?_,?_⟩
 · have hm:=(h2 p.1).1 (List.mem_map_of_mem hp)
   simp only [List.map_nil,List.not_mem_nil,false_or,List.mem_append] at hm
   have key:∀ t:Ty,t.sz<100000000→p.1∈t.names→p.1.length≤1000000000:=fun t ht hm=>by
    obtain ⟨i,hi,e⟩:=List.getElem_of_mem hm
    have:=fi t i
    rw [List.getD_eq_getElem?_getD,List.getElem?_eq_getElem hi] at this
    have:(t.names[i]).length<t.sz:=this
    rw [← e];omega
   exact hm.elim (key a ha) (key b hb)
 · have:=tY (m:=a.names++b.names) h1 (fun s hs=>by
    have:=(h2 s).1 hs
    simpa using this)
   rw [List.length_map,List.length_append] at this
   have h3:(ez (a.names++b.names)).length≤a.names.length+b.names.length:=this
   omega
theorem B4 {a b:Ty} {h:ac} (m o:Nat) (ho:h[o]?=some (.box [.map m])) (hm:h[m]?=some (.map (ae aa.str aa.bool (ez (a.names++b.names))))) (hf:((ez (a.names++b.names)).map Prod.fst).Nodup∧(∀ p∈ez (a.names++b.names),p.1.length≤1000000000)∧(ez (a.names++b.names)).length≤1000000000) :
 av cx 113 [.fn (.func 138) [] [.ptr o 0]] h (fun v h'=>v=.imm ((iN a b).map .str)∧h'=h):=by
 have e:((ez (a.names++b.names)).map fun p=>(p.1,aa.bool p.2)).map (·.1)=(ez (a.names++b.names)).map Prod.fst:=by simp [Function.comp_def]
 have:=gV AV (h:=h) (m:=m) (o:=o) (kv:=(ez (a.names++b.names)).map fun p=>(p.1,aa.bool p.2)) ho (by rw [hm];simp [ae,mK,Function.comp_def]) (by rw [e];exact hf.1)
  (fun p hp=>by obtain ⟨q,hq,rfl⟩:=List.mem_map.1 hp;exact hf.2.1 q hq) (by rw [List.length_map];exact hf.2.2)
 rw [e] at this
 exact this
noncomputable def Jy:Code:=aE Tryz.f108
theorem cF {p:Prop} (h:p:=by simp [ai.belO,hpS,Ty.v,Vr.v]):p:=h
theorem DB {p:Prop} (h:p:=by simp [aa.frz,bo,aa.ren,bV,dB,ai.ren,bc,cb,aS,aa.owns,Ty.v,mh]):p:=h
theorem fB {p:Prop} (h:p:=by simp [aK]):p:=h
theorem Ie {p:Prop} (h:p:=by have e:=hUf aq;have e2:=hPf (by rw [e]);have e3:=hRf (by rw [e2]);rw [← e3.1];rfl):p:=h
theorem GQ (f:Nat) (p q:Ty) (lv:Int) (m m':St) (ok:Bool) (hp:p.sz<100000000) (hq:q.sz<100000000) (hb:gi f (bq f) m p q=some (ok,m'))
 (ihU:∀ (S:St) (x y:Ty) (okU:Bool) (SU:St),x.sz<100000000→y.sz<100000000→bq f S x y=some (okU,SU)→av cx 66 [.ptr 0 0,Ty.v x,Ty.v y] (hpS lv S) (fun v h=>v=.bool okU∧h=hpS lv SU)):av cx 108 [.ptr 0 0,Ty.v p,Ty.v q] (hpS lv m) (fun v h=>v=(.bool (ok))∧h=hpS lv m'):=by
 obtain ⟨RR,hRR,hRt,hRf⟩:=ze hb
 refine ap (cx:=cx) 177 2 [(ResultVar.tmp 6)] Tryz.func108 rfl rfl rfl rfl rfl zq ?_
 show wpA cx 177 2 (at_ Jy []) _ _ _
 refine qZ [(0,.ptr 0 0),(1,Ty.v p),(2,Ty.v q)] [bS lv,mS m] ?_ ?_
 refine qW 3 [(0,.ptr 0 0),(4,.ptr 2 0),(5,.ptr 3 0)] [bS lv,mS m,p.bx,q.bx] ?_ ?_
 refine qW 2 [(0,.ptr 0 0),(4,.ptr 2 0),(5,.ptr 3 0),(7,.map 4)] [bS lv,mS m,p.bx,q.bx,.map (ae aa.str aa.bool ([]:List (List UInt8×Bool)))] ?_ ?_
 refine ar ?_ ?_
 refine qU 1 [(0,.ptr 0 0),(4,.ptr 2 0),(5,.ptr 3 0),(7,.map 4),(8,.bool true)] ?_ ?_
 refine qB 0 ?_ ?_ ?_
 refine bR (σ:=(Nat×St×Ty×Ty×Dn×Bool)) (fun ⟨g,S,a,b,D,ag⟩=>[(0,.ptr 0 0),(4,.ptr 2 0),(5,.ptr 3 0),(7,.map 4),(8,.bool (ag))]) (fun ⟨g,S,a,b,D,ag⟩=>[bS lv,mS S,a.bx,b.bx,.map (ae aa.str aa.bool D)]) (fun ⟨g,S,a,b,D,ag⟩=>a.sz<100000000∧b.sz<100000000∧(ag=true→dR f (bq f) g S a b D=some RR)∧(ag=false→RR=(true,S,a,b)∧rok a∧rok b)) (fun ⟨g,S,a,b,D,ag⟩=>g) (f,m,p,q,([]:Dn),true) kq (by exact ⟨hp,hq,fun _=>hRR,fun h=>by cases h⟩) ⟨⟨kq,kq,kq,kq,kq,trivial⟩,by simp [aV,aa.bel],by simp,kq,by simp [ai.belO]⟩ ?_
 rintro ⟨g,S,a,b,D,ag⟩ ⟨has,hbs,hO,hE⟩
 refine qZ [(0,.ptr 0 0),(4,.ptr 2 0),(5,.ptr 3 0),(7,.map 4),(8,.bool (ag))] [bS lv,mS S,a.bx,b.bx,.map (ae aa.str aa.bool D)] ?_ ?_
 refine ar ?_ ?_
 refine qU 1 [(0,.ptr 0 0),(4,.ptr 2 0),(5,.ptr 3 0),(7,.map 4),(17,.bool (ag))] ?_ ?_
 by_cases hb1:(ag)=true
 refine qt (hb1) ?_ ?_
 refine qK ?_ ?_
 refine qz [(0,.ptr 0 0),(4,.ptr 2 0),(5,.ptr 3 0),(7,.map 4)] ?_ ?_
 obtain ⟨a1,b1,P,hha,hhb,hra,hrb,hP0,hg0,hPt,hPf⟩:=EV (hO aq)
 have hz1:=bK a1;have hz2:=bK b1;have hz3:=ct b1;have hz4:=ct a1;have hsa1:a1.sz<100000000:=hra.1;have hla1:=hra.2;have hsb1:b1.sz<100000000:=hrb.1;have hlb1:=hrb.2
 refine qz [(0,.ptr 0 0),(4,.ptr 2 0),(5,.ptr 3 0),(7,.map 4)] ?_ ?_
 refine qB 1 ?_ ?_ ?_
 refine ar ?_ ?_
 refine cK cxM kq aB (bv ?_)
 refine qu 2 ?_ ?_
 refine cV (args:=[.ptr 0 0,.agg [.int .i64 (a.kind),.str a.name,.int .i64 (a.n),.imm (a.names.map aa.str),.imm (a.kids.map Ty.enc)]]) (hs:=[bS lv,mS S]) (hs':=[.box [.int .i64 ((lv)),.map 1],mS S]) (aM:=[a.bx,b.bx,.map (ae aa.str aa.bool D)]) (L:=[0,1]) kq kq kq kq kq kq (qj f a a1 (lv) S oq hha) cF cF rfl cF cF kq rfl rfl ?_
 refine qu 2 ?_ ?_
 refine cV (args:=[.ptr 0 0,.agg [.int .i64 (b.kind),.str b.name,.int .i64 (b.n),.imm (b.names.map aa.str),.imm (b.kids.map Ty.enc)]]) (hs:=[.box [.int .i64 ((lv)),.map 1],mS S]) (hs':=[.box [.int .i64 (((lv))),.map 1],mS S]) (aM:=[a.bx,b.bx,.map (ae aa.str aa.bool D)]) (L:=[0,1]) kq kq kq kq kq kq (qj f b b1 ((lv)) S oq hhb) cF cF rfl cF cF kq rfl rfl ?_
 refine qu 2 ?_ ?_
 refine cn kq ⟨kq,?_⟩
 refine ab ?_
 refine qZ [(0,.ptr 0 0),(4,.ptr 2 0),(5,.ptr 3 0),(7,.map 4)] [.box [.int .i64 (((lv))),.map 1],mS S,a1.bx,b1.bx,.map (ae aa.str aa.bool D)] ?_ ?_
 refine qU 1 [(0,.ptr 0 0),(4,.ptr 2 0),(5,.ptr 3 0),(7,.map 4),(8,.bool false)] ?_ ?_
 refine qV 2 ?_ ?_
 refine qy (au (l:=a1.names) (enc:=aa.str) kq bi) ?_ ?_ ?_
 refine qR 1 [(0,.ptr 0 0),(4,.ptr 2 0),(5,.ptr 3 0),(7,.map 4),(8,.bool false),(25,.imm (a1.names.map aa.str)),(26,nI a1.names.length),(27,.int .i64 0)] [.box [.int .i64 (((lv))),.map 1],mS S,a1.bx,b1.bx,.map (ae aa.str aa.bool D)] ?_ ?_
 refine qB 2 ?_ ?_ ?_
 refine bR (σ:=(Nat×St×Dn×Bool)) (fun ⟨k,T,E,ah⟩=>[(0,.ptr 0 0),(4,.ptr 2 0),(5,.ptr 3 0),(7,.map 4),(8,.bool (ah)),(25,.imm (a1.names.map aa.str)),(26,.int .i64 ((a1.names.length:Nat):Int)),(27,.int .i64 ((k:Nat):Int))]) (fun ⟨k,T,E,ah⟩=>[bS lv,mS T,a1.bx,b1.bx,.map (ae aa.str aa.bool E)]) (fun ⟨k,T,E,ah⟩=>k≤a1.names.length∧ck (bq f) b1 (a1.names.drop k) (a1.kids.drop k) T E ah=some P) (fun ⟨k,T,E,ah⟩=>a1.names.length - k) (0,S,D,false) kq (by exact ⟨Nat.zero_le _,hP0⟩) ⟨⟨kq,kq,kq,kq,kq,kq,kq,kq,trivial⟩,by simp [aV,aa.bel],by simp,kq,by simp [ai.belO]⟩ ?_
 rintro ⟨k,T,E,ah⟩ ⟨hk,hP⟩
 have hix:=Ad b1.names (a1.names.getD k [])
 refine qZ [(0,.ptr 0 0),(4,.ptr 2 0),(5,.ptr 3 0),(7,.map 4),(8,.bool (ah)),(25,.imm (a1.names.map aa.str)),(26,nI a1.names.length),(27,nI k)] [bS lv,mS T,a1.bx,b1.bx,.map (ae aa.str aa.bool E)] ?_ ?_
 refine qU 1 [(0,.ptr 0 0),(4,.ptr 2 0),(5,.ptr 3 0),(7,.map 4),(8,.bool (ah)),(25,.imm (a1.names.map aa.str)),(26,nI a1.names.length),(27,nI k),(28,.bool (decide (((k:Nat):Int)<((a1.names.length:Nat):Int))))] ?_ ?_
 refine ar ?_ ?_
 by_cases hb2:((k:Nat):Int)<((a1.names.length:Nat):Int)
 refine qt (decide_eq_true hb2) ?_ ?_
 refine qK ?_ ?_
 refine qz [(0,.ptr 0 0),(4,.ptr 2 0),(5,.ptr 3 0),(7,.map 4),(8,.bool (ah)),(25,.imm (a1.names.map aa.str)),(26,nI a1.names.length),(27,nI k)] ?_ ?_
 refine ar ?_ ?_
 refine qB 3 ?_ ?_ ?_
 refine qV 1 ?_ ?_
 refine qy (ax (k:=.i64) (l:=a1.names) (enc:=aa.str) (i:=((k:Nat):Int)) [] kq bi ty9 (fun _=>rfl) oq oq) ?_ ?_ ?_
 refine qR 3 [(0,.ptr 0 0),(4,.ptr 2 0),(5,.ptr 3 0),(7,.map 4),(8,.bool (ah)),(9,nI k),(10,.str (a1.names.getD k [])),(25,.imm (a1.names.map aa.str)),(26,nI a1.names.length),(27,nI k)] [bS lv,mS T,a1.bx,b1.bx,.map (ae aa.str aa.bool E)] ?_ ?_
 refine qV 3 ?_ ?_
 refine bp (args:=[.imm (b1.names.map aa.str),.str (a1.names.getD k [])]) kq kq kq kq (iZ b1.names (a1.names.getD k []) oq) (by simp [Ty.v,bm,Occ.v]) (by simp [Ty.v]) (by simp [Ty.v,a7]) ?_
 refine qR 1 [(0,.ptr 0 0),(4,.ptr 2 0),(5,.ptr 3 0),(7,.map 4),(8,.bool (ah)),(9,nI k),(10,.str (a1.names.getD k [])),(11,.int .i64 (aQ b1.names (a1.names.getD k []))),(25,.imm (a1.names.map aa.str)),(26,nI a1.names.length),(27,nI k)] [bS lv,mS T,a1.bx,b1.bx,.map (ae aa.str aa.bool E)] ?_ ?_
 refine ar ?_ ?_
 refine qV 3 ?_ ?_
 by_cases hb3:(aQ b1.names (a1.names.getD k []))<0
 refine qm [37,38] (decide_eq_true hb3) ?_ ?_
 refine qR 4 [(0,.ptr 0 0),(4,.ptr 2 0),(5,.ptr 3 0),(7,.map 4),(8,.bool (ah)),(9,nI k),(10,.str (a1.names.getD k [])),(11,.int .i64 (aQ b1.names (a1.names.getD k []))),(25,.imm (a1.names.map aa.str)),(26,nI a1.names.length),(27,nI k),(39,.tup []),(40,.tup []),(41,.tup []),(42,.bool true)] [bS lv,mS T,a1.bx,b1.bx,.map (ae aa.str aa.bool E)] ?_ ?_
 refine cp kq kq ?_
 refine bC 3 kq kq ?_
 refine af ?_
 refine aA ?_
 refine ab ?_
 refine qz [(0,.ptr 0 0),(4,.ptr 2 0),(5,.ptr 3 0),(7,.map 4),(8,.bool (ah)),(25,.imm (a1.names.map aa.str)),(26,nI a1.names.length),(27,nI k),(39,.tup []),(40,.tup []),(41,.tup [])] ?_ ?_
 refine qo ?_ ?_
 refine qy (aN (a:=((k:Nat):Int)) (b:=1) kq oq oq) ?_ ?_ ?_
 refine qr 1 ?_ ?_
 refine qe ?_ ?_
 refine ab ⟨(k+1,T,E,(ah)),?_,?_,⟨⟨kq,kq,kq,kq,kq,kq,kq,kq,trivial⟩,by simp [aV,aa.bel],by simp,kq,by simp [ai.belO]⟩⟩
 · try dsimp only
   omega
 rotate_left
 iterate 8 kernel_rfl
 refine qm [37,38] (decide_eq_false hb3) ?_ ?_
 refine qr 2 ?_ ?_
 rcases hm4:am (a1.names.getD k []) E with _|x4
 refine qy (e8 (ok:=false) (o:=4) (ek:=aa.str) (ev:=aa.bool) (l:=E) (k:=(a1.names.getD k [])) pw hm4 kq x7 ty9 rfl ty4 kq) ?_ ?_ ?_
 refine qR 1 [(0,.ptr 0 0),(4,.ptr 2 0),(5,.ptr 3 0),(7,.map 4),(8,.bool (ah)),(9,nI k),(10,.str (a1.names.getD k [])),(11,.int .i64 (aQ b1.names (a1.names.getD k []))),(25,.imm (a1.names.map aa.str)),(26,nI a1.names.length),(27,nI k),(39,.map 4),(40,.str (a1.names.getD k [])),(41,.bool false),(42,.bool false)] [bS lv,mS T,a1.bx,b1.bx,.map (ae aa.str aa.bool E)] ?_ ?_
 refine dY kq kq ?_
 refine qK ?_ ?_
 refine qz [(0,.ptr 0 0),(4,.ptr 2 0),(5,.ptr 3 0),(7,.map 4),(9,nI k),(10,.str (a1.names.getD k [])),(11,.int .i64 (aQ b1.names (a1.names.getD k []))),(25,.imm (a1.names.map aa.str)),(26,nI a1.names.length),(27,nI k),(39,.map 4),(40,.str (a1.names.getD k [])),(41,.bool false)] ?_ ?_
 refine qV 2 ?_ ?_
 refine qY (dc (o:=4) (ek:=aa.str) (ev:=aa.bool) (l:=E) (k:=(a1.names.getD k [])) (x:=true) pw kq x7 ty9 rfl kq kq) ?_ ?_ ?_
 refine qR 1 [(0,.ptr 0 0),(4,.ptr 2 0),(5,.ptr 3 0),(7,.map 4),(8,.bool true),(9,nI k),(11,.int .i64 (aQ b1.names (a1.names.getD k []))),(25,.imm (a1.names.map aa.str)),(26,nI a1.names.length),(27,nI k),(39,.map 4),(40,.str (a1.names.getD k [])),(41,.bool false)] [bS lv,mS T,a1.bx,b1.bx,.map (ae aa.str aa.bool (aJ (a1.names.getD k []) true E))] ?_ ?_
 obtain ⟨okU,SU,hU,hUt,hUf⟩:=sF hP oq hra.2 oq (IS aq)
 refine qz [(0,.ptr 0 0),(4,.ptr 2 0),(5,.ptr 3 0),(7,.map 4),(8,.bool true),(9,nI k),(11,.int .i64 (aQ b1.names (a1.names.getD k []))),(25,.imm (a1.names.map aa.str)),(26,nI a1.names.length),(27,nI k),(39,.map 4),(40,.str (a1.names.getD k [])),(41,.bool false)] ?_ ?_
 refine ar ?_ ?_
 refine cK cxM kq aB (bv ?_)
 refine qu 4 ?_ ?_
 refine qd ((ax (k:=.i64) (l:=a1.kids) (enc:=Ty.enc) (i:=((k:Nat):Int)) Ty.zero kq bf bX bg oq oq).trans (congrArg (fun cs=>some (aa.pimm cs 0,_)) (aO (a1.kids.getD k Ty.zero)))) ?_ ?_ ?_ ?_
 refine qu 4 ?_ ?_
 refine qd ((ax (k:=.i64) (l:=b1.kids) (enc:=Ty.enc) (i:=(aQ b1.names (a1.names.getD k []))) Ty.zero kq bf bX bg oq oq).trans (congrArg (fun cs=>some (aa.pimm cs 0,_)) (aO (b1.kids.getD (((aQ b1.names (a1.names.getD k []))).toNat) Ty.zero)))) ?_ ?_ ?_ ?_
 refine qu 1 ?_ ?_
 refine cV (args:=[.ptr 0 0,.agg [.int .i64 ((a1.kids.getD k Ty.zero).kind),.str (a1.kids.getD k Ty.zero).name,.int .i64 ((a1.kids.getD k Ty.zero).n),.imm ((a1.kids.getD k Ty.zero).names.map aa.str),.imm ((a1.kids.getD k Ty.zero).kids.map Ty.enc)],.agg [.int .i64 ((b1.kids.getD (((aQ b1.names (a1.names.getD k []))).toNat) Ty.zero).kind),.str (b1.kids.getD (((aQ b1.names (a1.names.getD k []))).toNat) Ty.zero).name,.int .i64 ((b1.kids.getD (((aQ b1.names (a1.names.getD k []))).toNat) Ty.zero).n),.imm ((b1.kids.getD (((aQ b1.names (a1.names.getD k []))).toNat) Ty.zero).names.map aa.str),.imm ((b1.kids.getD (((aQ b1.names (a1.names.getD k []))).toNat) Ty.zero).kids.map Ty.enc)]]) (hs:=[bS lv,mS T]) (hs':=[.box [.int .i64 ((lv)),.map 1],mS SU]) (aM:=[a1.bx,b1.bx,.map (ae aa.str aa.bool (aJ (a1.names.getD k []) true E))]) (L:=[0,1]) kq kq kq kq kq kq (ihU T (a1.kids.getD k Ty.zero) (b1.kids.getD (((aQ b1.names (a1.names.getD k []))).toNat) Ty.zero) okU SU (Nat.lt_trans (b9 a1 _ oq) hsa1) (Nat.lt_trans (b9 b1 _ oq) hsb1) (hU)) cF cF rfl cF cF kq rfl rfl ?_
 refine qu 1 ?_ ?_
 refine cn kq ⟨kq,?_⟩
 refine ab ?_
 refine qZ [(0,.ptr 0 0),(4,.ptr 2 0),(5,.ptr 3 0),(7,.map 4),(8,.bool true),(25,.imm (a1.names.map aa.str)),(26,nI a1.names.length),(27,nI k),(39,.map 4),(40,.str (a1.names.getD k [])),(41,.bool false),(57,.bool (!(okU)))] [.box [.int .i64 ((lv)),.map 1],mS SU,a1.bx,b1.bx,.map (ae aa.str aa.bool (aJ (a1.names.getD k []) true E))] ?_ ?_
 by_cases hb5:(okU)=true
 refine qf (x:=(!(okU))) (congrArg not (hb5)) ?_ ?_
 refine qk ?_ ?_
 refine ak ?_
 refine ab ?_
 refine qz [(0,.ptr 0 0),(4,.ptr 2 0),(5,.ptr 3 0),(7,.map 4),(8,.bool true),(25,.imm (a1.names.map aa.str)),(26,nI a1.names.length),(27,nI k),(39,.map 4),(40,.str (a1.names.getD k [])),(41,.bool false)] ?_ ?_
 refine qo ?_ ?_
 refine qy (aN (a:=((k:Nat):Int)) (b:=1) kq oq oq) ?_ ?_ ?_
 refine qr 1 ?_ ?_
 refine qe ?_ ?_
 refine ab ⟨(k+1,SU,(aJ (a1.names.getD k []) true E),true),?_,?_,⟨⟨kq,kq,kq,kq,kq,kq,kq,kq,trivial⟩,by simp [aV,aa.bel],by simp,kq,by simp [ai.belO]⟩⟩
 · try dsimp only
   omega
 rotate_left
 iterate 8 kernel_rfl
 refine qt (x:=(!(okU))) (congrArg not (Bool.eq_false_iff.2 hb5)) ?_ ?_
 refine qU 1 [(6,.bool false)] ?_ ?_
 refine bb kq ?_
 apply iR
 apply aR
 apply aR
 apply iR
 apply iR
 apply aR
 apply iR
 apply aR
 refine aL (l:=[.bool false]) (.inr rfl) kq Ie fB fB ?_ ?_
 refine Eq.trans (b:=[.box [.int .i64 ((lv)),.map 1],mS SU]) kq ?_
 · have e:=hUf aq;have e2:=hPf (by rw [e]);have e3:=hRf (by rw [e2]);have e4:SU=m':=(by have:=e3.2;rw [e2,e] at this;exact this)
   rw [← e4];rfl
 · simp [ai.belO,hpS,Ty.v,Vr.v]
 iterate 24 kernel_rfl
 refine qy (cH (ok:=false) (o:=4) (ek:=aa.str) (ev:=aa.bool) (l:=E) (k:=(a1.names.getD k [])) (x:=x4) pw hm4 kq x7 ty9 rfl ty4 kq) ?_ ?_ ?_
 refine qR 1 [(0,.ptr 0 0),(4,.ptr 2 0),(5,.ptr 3 0),(7,.map 4),(8,.bool (ah)),(9,nI k),(10,.str (a1.names.getD k [])),(11,.int .i64 (aQ b1.names (a1.names.getD k []))),(25,.imm (a1.names.map aa.str)),(26,nI a1.names.length),(27,nI k),(39,.map 4),(40,.str (a1.names.getD k [])),(41,.bool (x4)),(42,.bool (x4))] [bS lv,mS T,a1.bx,b1.bx,.map (ae aa.str aa.bool E)] ?_ ?_
 by_cases hb6:(x4)=true
 refine qt (hb6) ?_ ?_
 refine bC 3 kq kq ?_
 refine af ?_
 refine aA ?_
 refine ab ?_
 refine qz [(0,.ptr 0 0),(4,.ptr 2 0),(5,.ptr 3 0),(7,.map 4),(8,.bool (ah)),(25,.imm (a1.names.map aa.str)),(26,nI a1.names.length),(27,nI k),(39,.map 4),(40,.str (a1.names.getD k [])),(41,.bool (x4))] ?_ ?_
 refine qo ?_ ?_
 refine qy (aN (a:=((k:Nat):Int)) (b:=1) kq oq oq) ?_ ?_ ?_
 refine qr 1 ?_ ?_
 refine qe ?_ ?_
 refine ab ⟨(k+1,T,E,(ah)),?_,?_,⟨⟨kq,kq,kq,kq,kq,kq,kq,kq,trivial⟩,by simp [aV,aa.bel],by simp,kq,by simp [ai.belO]⟩⟩
 · try dsimp only
   omega
 rotate_left
 iterate 7 kernel_rfl
 refine qf (Bool.eq_false_iff.2 hb6) ?_ ?_
 refine qK ?_ ?_
 refine qz [(0,.ptr 0 0),(4,.ptr 2 0),(5,.ptr 3 0),(7,.map 4),(9,nI k),(10,.str (a1.names.getD k [])),(11,.int .i64 (aQ b1.names (a1.names.getD k []))),(25,.imm (a1.names.map aa.str)),(26,nI a1.names.length),(27,nI k),(39,.map 4),(40,.str (a1.names.getD k [])),(41,.bool (x4))] ?_ ?_
 refine qV 2 ?_ ?_
 refine qY (dc (o:=4) (ek:=aa.str) (ev:=aa.bool) (l:=E) (k:=(a1.names.getD k [])) (x:=true) pw kq x7 ty9 rfl kq kq) ?_ ?_ ?_
 refine qR 1 [(0,.ptr 0 0),(4,.ptr 2 0),(5,.ptr 3 0),(7,.map 4),(8,.bool true),(9,nI k),(11,.int .i64 (aQ b1.names (a1.names.getD k []))),(25,.imm (a1.names.map aa.str)),(26,nI a1.names.length),(27,nI k),(39,.map 4),(40,.str (a1.names.getD k [])),(41,.bool (x4))] [bS lv,mS T,a1.bx,b1.bx,.map (ae aa.str aa.bool (aJ (a1.names.getD k []) true E))] ?_ ?_
 obtain ⟨okU,SU,hU,hUt,hUf⟩:=sF hP oq hra.2 oq (IY aq aq)
 refine qz [(0,.ptr 0 0),(4,.ptr 2 0),(5,.ptr 3 0),(7,.map 4),(8,.bool true),(9,nI k),(11,.int .i64 (aQ b1.names (a1.names.getD k []))),(25,.imm (a1.names.map aa.str)),(26,nI a1.names.length),(27,nI k),(39,.map 4),(40,.str (a1.names.getD k [])),(41,.bool (x4))] ?_ ?_
 refine ar ?_ ?_
 refine cK cxM kq aB (bv ?_)
 refine qu 4 ?_ ?_
 refine qd ((ax (k:=.i64) (l:=a1.kids) (enc:=Ty.enc) (i:=((k:Nat):Int)) Ty.zero kq bf bX bg oq oq).trans (congrArg (fun cs=>some (aa.pimm cs 0,_)) (aO (a1.kids.getD k Ty.zero)))) ?_ ?_ ?_ ?_
 refine qu 4 ?_ ?_
 refine qd ((ax (k:=.i64) (l:=b1.kids) (enc:=Ty.enc) (i:=(aQ b1.names (a1.names.getD k []))) Ty.zero kq bf bX bg oq oq).trans (congrArg (fun cs=>some (aa.pimm cs 0,_)) (aO (b1.kids.getD (((aQ b1.names (a1.names.getD k []))).toNat) Ty.zero)))) ?_ ?_ ?_ ?_
 refine qu 1 ?_ ?_
 refine cV (args:=[.ptr 0 0,.agg [.int .i64 ((a1.kids.getD k Ty.zero).kind),.str (a1.kids.getD k Ty.zero).name,.int .i64 ((a1.kids.getD k Ty.zero).n),.imm ((a1.kids.getD k Ty.zero).names.map aa.str),.imm ((a1.kids.getD k Ty.zero).kids.map Ty.enc)],.agg [.int .i64 ((b1.kids.getD (((aQ b1.names (a1.names.getD k []))).toNat) Ty.zero).kind),.str (b1.kids.getD (((aQ b1.names (a1.names.getD k []))).toNat) Ty.zero).name,.int .i64 ((b1.kids.getD (((aQ b1.names (a1.names.getD k []))).toNat) Ty.zero).n),.imm ((b1.kids.getD (((aQ b1.names (a1.names.getD k []))).toNat) Ty.zero).names.map aa.str),.imm ((b1.kids.getD (((aQ b1.names (a1.names.getD k []))).toNat) Ty.zero).kids.map Ty.enc)]]) (hs:=[bS lv,mS T]) (hs':=[.box [.int .i64 ((lv)),.map 1],mS SU]) (aM:=[a1.bx,b1.bx,.map (ae aa.str aa.bool (aJ (a1.names.getD k []) true E))]) (L:=[0,1]) kq kq kq kq kq kq (ihU T (a1.kids.getD k Ty.zero) (b1.kids.getD (((aQ b1.names (a1.names.getD k []))).toNat) Ty.zero) okU SU (Nat.lt_trans (b9 a1 _ oq) hsa1) (Nat.lt_trans (b9 b1 _ oq) hsb1) (hU)) cF cF rfl cF cF kq rfl rfl ?_
 refine qu 1 ?_ ?_
 refine cn kq ⟨kq,?_⟩
 refine ab ?_
 refine qZ [(0,.ptr 0 0),(4,.ptr 2 0),(5,.ptr 3 0),(7,.map 4),(8,.bool true),(25,.imm (a1.names.map aa.str)),(26,nI a1.names.length),(27,nI k),(39,.map 4),(40,.str (a1.names.getD k [])),(41,.bool (x4)),(57,.bool (!(okU)))] [.box [.int .i64 ((lv)),.map 1],mS SU,a1.bx,b1.bx,.map (ae aa.str aa.bool (aJ (a1.names.getD k []) true E))] ?_ ?_
 by_cases hb7:(okU)=true
 refine qf (x:=(!(okU))) (congrArg not (hb7)) ?_ ?_
 refine qk ?_ ?_
 refine ak ?_
 refine ab ?_
 refine qz [(0,.ptr 0 0),(4,.ptr 2 0),(5,.ptr 3 0),(7,.map 4),(8,.bool true),(25,.imm (a1.names.map aa.str)),(26,nI a1.names.length),(27,nI k),(39,.map 4),(40,.str (a1.names.getD k [])),(41,.bool (x4))] ?_ ?_
 refine qo ?_ ?_
 refine qy (aN (a:=((k:Nat):Int)) (b:=1) kq oq oq) ?_ ?_ ?_
 refine qr 1 ?_ ?_
 refine qe ?_ ?_
 refine ab ⟨(k+1,SU,(aJ (a1.names.getD k []) true E),true),?_,?_,⟨⟨kq,kq,kq,kq,kq,kq,kq,kq,trivial⟩,by simp [aV,aa.bel],by simp,kq,by simp [ai.belO]⟩⟩
 · try dsimp only
   omega
 rotate_left
 iterate 8 kernel_rfl
 refine qt (x:=(!(okU))) (congrArg not (Bool.eq_false_iff.2 hb7)) ?_ ?_
 refine qU 1 [(6,.bool false)] ?_ ?_
 refine bb kq ?_
 apply iR
 apply aR
 apply aR
 apply iR
 apply iR
 apply aR
 apply iR
 apply aR
 refine aL (l:=[.bool false]) (.inr rfl) kq Ie fB fB ?_ ?_
 refine Eq.trans (b:=[.box [.int .i64 ((lv)),.map 1],mS SU]) kq ?_
 · have e:=hUf aq;have e2:=hPf (by rw [e]);have e3:=hRf (by rw [e2]);have e4:SU=m':=(by have:=e3.2;rw [e2,e] at this;exact this)
   rw [← e4];rfl
 · simp [ai.belO,hpS,Ty.v,Vr.v]
 iterate 41 kernel_rfl
 refine qf (decide_eq_false hb2) ?_ ?_
 refine bC 2 kq kq ?_
 refine af ?_
 refine af ?_
 refine aA ?_
 refine ak ?_
 refine ab ⟨(g - 1,T,a1,b1,E,(ah)),?_,?_,⟨⟨kq,kq,kq,kq,kq,trivial⟩,by simp [aV,aa.bel],by simp,kq,by simp [ai.belO]⟩⟩
 · try dsimp only
   exact hg0
 · try dsimp only
   obtain rfl:=DH hP oq
   exact ⟨hra.1,hrb.1,(hPt _ rfl rfl).1,fun e=>⟨(hPt _ rfl rfl).2 e,hra,hrb⟩⟩
 iterate 22 kernel_rfl
 refine qf (Bool.eq_false_iff.2 hb1) ?_ ?_
 refine bC 0 kq kq ?_
 refine af ?_
 refine af ?_
 refine aA ?_
 refine ab ?_
 refine qz [(0,.ptr 0 0),(4,.ptr 2 0),(5,.ptr 3 0)] ?_ ?_
 obtain ⟨hRe,hra,hrb⟩:=hE (Bool.eq_false_iff.2 aq)
 have hfin:fu f S a b=some (ok,m'):=by have:=hRt (by rw [hRe]);rw [hRe] at this;exact this
 obtain ⟨hg1,hg2,f1,f2,f3⟩:=I8 hfin
 have hra2:=hra.2;have hrb2:=hrb.2;have hz5:=bK (recT (onL a b a.names.length) b.n);have hz6:=bK (recT (onL b a b.names.length) a.n);have hg5:=hg1 b.n;have hg6:=hg2 a.n
 refine qz [(0,.ptr 0 0),(4,.ptr 2 0),(5,.ptr 3 0)] ?_ ?_
 refine ar ?_ ?_
 refine cK cxM kq aB (bv ?_)
 refine qu 4 ?_ ?_
 refine cB (args:=[.agg [.int .i64 (a.kind),.str a.name,.int .i64 (a.n),.imm (a.names.map aa.str),.imm (a.kids.map Ty.enc)],.agg [.int .i64 (b.kind),.str b.name,.int .i64 (b.n),.imm (b.names.map aa.str),.imm (b.kids.map Ty.enc)],.int .i64 (b.n)]) kq kq kq kq kq (nf a b (b.n) oq oq oq) (by intro _;simp [Ty.v,bm,Occ.v]) (by simp [Ty.v]) (by simp [Ty.v,a7]) ?_
 refine qu 4 ?_ ?_
 refine cB (args:=[.agg [.int .i64 (b.kind),.str b.name,.int .i64 (b.n),.imm (b.names.map aa.str),.imm (b.kids.map Ty.enc)],.agg [.int .i64 (a.kind),.str a.name,.int .i64 (a.n),.imm (a.names.map aa.str),.imm (a.kids.map Ty.enc)],.int .i64 (a.n)]) kq kq kq kq kq (nf b a (a.n) oq oq oq) (by intro _;simp [Ty.v,bm,Occ.v]) (by simp [Ty.v]) (by simp [Ty.v,a7]) ?_
 refine qu 4 ?_ ?_
 refine cn kq ⟨kq,?_⟩
 refine ab ?_
 refine qZ [(0,.ptr 0 0),(4,.ptr 2 0),(5,.ptr 3 0),(12,.ptr 5 0),(13,.ptr 6 0)] [bS lv,mS S,a.bx,b.bx,.map (ae aa.str aa.bool D),(recT (onL a b a.names.length) (b.n)).bx,(recT (onL b a b.names.length) (a.n)).bx] ?_ ?_
 refine ar ?_ ?_
 refine qB 4 ?_ ?_ ?_
 refine qU 6 [(0,.ptr 0 0),(4,.ptr 2 0),(5,.ptr 3 0),(12,.ptr 5 0),(13,.ptr 6 0),(69,.bool ((a.n)==(b.n)))] ?_ ?_
 by_cases hb8:(a.n)=(b.n)
 refine qt (beq_iff_eq.2 hb8) ?_ ?_
 refine qV 2 ?_ ?_
 refine qy (au (l:=(recT (onL a b a.names.length) (b.n)).names) (enc:=aa.str) kq bi) ?_ ?_ ?_
 refine qr 2 ?_ ?_
 refine qy (au (l:=(recT (onL b a b.names.length) (a.n)).names) (enc:=aa.str) kq bi) ?_ ?_ ?_
 refine qy (aN (a:=(((recT (onL a b a.names.length) (b.n)).names.length:Nat):Int)) (b:=(((recT (onL b a b.names.length) (a.n)).names.length:Nat):Int)) kq oq oq) ?_ ?_ ?_
 refine qR 2 [(6,.bool (((((recT (onL a b a.names.length) (b.n)).names.length+(recT (onL b a b.names.length) (a.n)).names.length):Nat):Int)==0))] [bS lv,mS S,a.bx,b.bx,.map (ae aa.str aa.bool D),(recT (onL a b a.names.length) (b.n)).bx,(recT (onL b a b.names.length) (a.n)).bx] ?_ ?_
 refine bb kq ?_
 apply iR
 apply aR
 refine aL (l:=[.bool (((((recT (onL a b a.names.length) (b.n)).names.length+(recT (onL b a b.names.length) (a.n)).names.length):Nat):Int)==0)]) (.inr rfl) kq (by have e:=f1 aq;rw [← e.1];refine congrArg aa.bool ?_;rw [Bool.eq_iff_iff,beq_iff_eq,decide_eq_true_eq];omega) fB fB ?_ ?_
 refine Eq.trans (b:=[bS lv,mS S]) kq ?_
 · have e:=f1 aq
   rw [← e.2];rfl
 · simp [ai.belO,hpS,Ty.v,Vr.v]
 iterate 10 kernel_rfl
 refine qf (beq_eq_false_iff_ne.2 hb8) ?_ ?_
 refine qV 2 ?_ ?_
 refine qy (au (l:=(recT (onL a b a.names.length) (b.n)).names) (enc:=aa.str) kq bi) ?_ ?_ ?_
 refine qr 2 ?_ ?_
 by_cases hb9:(((recT (onL a b a.names.length) (b.n)).names.length:Nat):Int) > 0
 refine qm [87,88] (decide_eq_true hb9) ?_ ?_
 refine qr 5 ?_ ?_
 by_cases hb10:(b.n)=0
 refine qm [91,92,93] (beq_iff_eq.2 hb10) ?_ ?_
 refine qR 11 [(0,.ptr 0 0),(4,.ptr 2 0),(5,.ptr 3 0),(12,.ptr 5 0),(13,.ptr 6 0),(83,.bool true)] [bS lv,mS S,a.bx,b.bx,.map (ae aa.str aa.bool D),(recT (onL a b a.names.length) (b.n)).bx,(recT (onL b a b.names.length) (a.n)).bx] ?_ ?_
 refine cp kq kq ?_
 refine qU 1 [(6,.bool false)] ?_ ?_
 refine bb kq ?_
 apply iR
 apply aR
 refine aL (l:=[.bool false]) (.inr rfl) kq (by have e:=f2 aq oq;rw [← e.1];rfl) fB fB ?_ ?_
 refine Eq.trans (b:=[bS lv,mS S]) kq ?_
 · have e:=f2 aq oq
   rw [← e.2];rfl
 · simp [ai.belO,hpS,Ty.v,Vr.v]
 iterate 3 kernel_rfl
 refine qm [91,92,93] (beq_eq_false_iff_ne.2 hb10) ?_ ?_
 refine qr 2 ?_ ?_
 refine qy (au (l:=(recT (onL b a b.names.length) (a.n)).names) (enc:=aa.str) kq bi) ?_ ?_ ?_
 refine qr 2 ?_ ?_
 by_cases hb11:(((recT (onL b a b.names.length) (a.n)).names.length:Nat):Int) > 0
 refine qm [97,98] (decide_eq_true hb11) ?_ ?_
 refine qR 6 [(0,.ptr 0 0),(4,.ptr 2 0),(5,.ptr 3 0),(12,.ptr 5 0),(13,.ptr 6 0),(83,.bool ((a.n)==0))] [bS lv,mS S,a.bx,b.bx,.map (ae aa.str aa.bool D),(recT (onL a b a.names.length) (b.n)).bx,(recT (onL b a b.names.length) (a.n)).bx] ?_ ?_
 by_cases hb12:(a.n)=0
 refine qt (beq_iff_eq.2 hb12) ?_ ?_
 refine qU 1 [(6,.bool false)] ?_ ?_
 refine bb kq ?_
 apply iR
 apply aR
 refine aL (l:=[.bool false]) (.inr rfl) kq (by have e:=f2 aq oq;rw [← e.1];rfl) fB fB ?_ ?_
 refine Eq.trans (b:=[bS lv,mS S]) kq ?_
 · have e:=f2 aq oq
   rw [← e.2];rfl
 · simp [ai.belO,hpS,Ty.v,Vr.v]
 iterate 2 kernel_rfl
 refine qf (beq_eq_false_iff_ne.2 hb12) ?_ ?_
 refine qV 2 ?_ ?_
 refine qy (au (l:=(recT (onL a b a.names.length) (b.n)).names) (enc:=aa.str) kq bi) ?_ ?_ ?_
 refine qr 2 ?_ ?_
 by_cases hb13:(((recT (onL a b a.names.length) (b.n)).names.length:Nat):Int)=0
 · exfalso;omega
 refine qm [108,109] (beq_eq_false_iff_ne.2 hb13) ?_ ?_
 refine qR 5 [(0,.ptr 0 0),(4,.ptr 2 0),(5,.ptr 3 0),(12,.ptr 5 0),(13,.ptr 6 0),(104,.bool false)] [bS lv,mS S,a.bx,b.bx,.map (ae aa.str aa.bool D),(recT (onL a b a.names.length) (b.n)).bx,(recT (onL b a b.names.length) (a.n)).bx] ?_ ?_
 refine dY kq kq ?_
 refine qV 2 ?_ ?_
 refine qy (au (l:=(recT (onL b a b.names.length) (a.n)).names) (enc:=aa.str) kq bi) ?_ ?_ ?_
 refine qR 2 [(0,.ptr 0 0),(4,.ptr 2 0),(5,.ptr 3 0),(12,.ptr 5 0),(13,.ptr 6 0),(122,.bool ((((recT (onL b a b.names.length) (a.n)).names.length:Nat):Int)==0))] [bS lv,mS S,a.bx,b.bx,.map (ae aa.str aa.bool D),(recT (onL a b a.names.length) (b.n)).bx,(recT (onL b a b.names.length) (a.n)).bx] ?_ ?_
 by_cases hb14:(((recT (onL b a b.names.length) (a.n)).names.length:Nat):Int)=0
 · exfalso;omega
 refine qf (beq_eq_false_iff_ne.2 hb14) ?_ ?_
 refine qk ?_ ?_
 refine ak ?_
 refine ab ?_
 refine qz [(0,.ptr 0 0),(4,.ptr 2 0),(5,.ptr 3 0),(12,.ptr 5 0),(13,.ptr 6 0)] ?_ ?_
 obtain ⟨⟨hsl,hna,hnb⟩,ok1,S2,hb1,hb2,hb3⟩:=((f3 aq oq).2 oq).2 oq
 refine qz [(0,.ptr 0 0),(4,.ptr 2 0),(5,.ptr 3 0),(12,.ptr 5 0),(13,.ptr 6 0)] ?_ ?_
 refine qV 2 ?_ ?_
 refine m0 (args:=[.agg [.int .i64 (a.kind),.str a.name,.int .i64 (a.n),.imm (a.names.map aa.str),.imm (a.kids.map Ty.enc)],.agg [.int .i64 (b.kind),.str b.name,.int .i64 (b.n),.imm (b.names.map aa.str),.imm (b.kids.map Ty.enc)]]) (args':=[Ty.v a,Ty.v b]) (V':=.map 7) (F:=[bS lv,mS S,a.bx,b.bx,.map (ae aa.str aa.bool D),(recT (onL a b a.names.length) (b.n)).bx,(recT (onL b a b.names.length) (a.n)).bx]) (G':=[.map (ae aa.str aa.bool (ez (a.names++b.names)))]) kq kq kq kq (BM a b has hbs) [bS lv,mS S,a.bx,b.bx,.map (ae aa.str aa.bool D),(recT (onL a b a.names.length) (b.n)).bx,(recT (onL b a b.names.length) (a.n)).bx] kq DB DB DB DB DB ?_
 refine cM (args:=[.map 7]) (v:=.fn (.func 138) [] [.ptr 8 0]) (h':=[bS lv,mS S,a.bx,b.bx,.map (ae aa.str aa.bool D),(recT (onL a b a.names.length) (b.n)).bx,(recT (onL b a b.names.length) (a.n)).bx,.map (ae aa.str aa.bool (ez (a.names++b.names))),.box [.map 7]]) [bS lv,mS S,a.bx,b.bx,.map (ae aa.str aa.bool D),(recT (onL a b a.names.length) (b.n)).bx,(recT (onL b a b.names.length) (a.n)).bx,.map (ae aa.str aa.bool (ez (a.names++b.names)))] kq kq kq kq kq (ca [7] (BD (ez (a.names++b.names))) rfl dq zq (by simp [ai.belO]) (by simp [dB,ai.ren,bc,mh]) rfl (by simp [bV,aa.ren,bc]) (by simp [aa.ren,bV,bc]) (by simp [dv,cy,dB,ai.ren,bV,aa.ren,bc,mh])) ?_
 refine cM (args:=[.fn (.func 138) [] [.ptr 8 0]]) (v:=.imm ((iN a b).map aa.str)) (h':=[bS lv,mS S,a.bx,b.bx,.map (ae aa.str aa.bool D),(recT (onL a b a.names.length) (b.n)).bx,(recT (onL b a b.names.length) (a.n)).bx,.map (ae aa.str aa.bool (ez (a.names++b.names))),.box [.map 7]]) [bS lv,mS S,a.bx,b.bx,.map (ae aa.str aa.bool D),(recT (onL a b a.names.length) (b.n)).bx,(recT (onL b a b.names.length) (a.n)).bx,.map (ae aa.str aa.bool (ez (a.names++b.names))),.box [.map 7]] kq kq kq kq kq (B4 7 8 rfl rfl (CV a b has hbs)) ?_
 refine qR 1 [(0,.ptr 0 0),(4,.ptr 2 0),(5,.ptr 3 0),(12,.ptr 5 0),(13,.ptr 6 0),(14,.imm ((iN a b).map aa.str))] [bS lv,mS S,a.bx,b.bx,.map (ae aa.str aa.bool D),(recT (onL a b a.names.length) (b.n)).bx,(recT (onL b a b.names.length) (a.n)).bx,.map (ae aa.str aa.bool (ez (a.names++b.names))),.box [.map 7]] ?_ ?_
 refine ar ?_ ?_
 refine cK cxM kq aB (bv ?_)
 refine qu 7 ?_ ?_
 rcases hm15:am (a.n) S with _|x15
 · exact absurd hm15 (aq)
 refine qd (cH (ok:=false) (o:=1) (ek:=(aa.int .i64)) (ev:=Vr.v) (l:=S) (k:=(a.n)) (x:=x15) dH hm15 kq jo ty3 rfl mB kq) ?_ ?_ ?_ ?_
 refine qu 7 ?_ ?_
 rcases hm16:am (b.n) S with _|x16
 · exact absurd hm16 (aq)
 refine qd (cH (ok:=false) (o:=1) (ek:=(aa.int .i64)) (ev:=Vr.v) (l:=S) (k:=(b.n)) (x:=x16) dH hm16 kq jo ty3 rfl mB kq) ?_ ?_ ?_ ?_
 refine qu 1 ?_ ?_
 refine qd (DO (a:=(x15.lv)) (b:=(x16.lv)) (ats:=[3,3]) kq) ?_ ?_ ?_ ?_
 refine qu 2 ?_ ?_
 refine cV (args:=[.ptr 0 0,.agg [.bool true,.int .i64 (min (x15.lv) (x16.lv)),.bool false,.int .i64 0,.str [],.int .i64 0,.full [],.full [],.imm ((iN a b).map aa.str)]]) (hs:=[bS lv,mS S]) (hs':=[.box [.int .i64 ((lv)),.map 1],mS (aJ ((((S.length+1):Nat):Int)) ⟨true,(min (x15.lv) (x16.lv)),false,Ty.zero,(iN a b)⟩ S)]) (aM:=[a.bx,b.bx,.map (ae aa.str aa.bool D),(recT (onL a b a.names.length) (b.n)).bx,(recT (onL b a b.names.length) (a.n)).bx,.map (ae aa.str aa.bool (ez (a.names++b.names))),.box [.map 7]]) (L:=[0,1]) kq kq kq kq kq kq (xL (lv) (min (x15.lv) (x16.lv)) (iN a b) S oq) cF cF rfl cF cF kq rfl rfl ?_
 refine qu 1 ?_ ?_
 refine cn kq ⟨kq,?_⟩
 refine ab ?_
 refine qZ [(0,.ptr 0 0),(4,.ptr 2 0),(5,.ptr 3 0),(12,.ptr 5 0),(13,.ptr 6 0),(15,nI (S.length+1))] [.box [.int .i64 ((lv)),.map 1],mS (aJ ((((S.length+1):Nat):Int)) ⟨true,(min (x15.lv) (x16.lv)),false,Ty.zero,(iN a b)⟩ S),a.bx,b.bx,.map (ae aa.str aa.bool D),(recT (onL a b a.names.length) (b.n)).bx,(recT (onL b a b.names.length) (a.n)).bx,.map (ae aa.str aa.bool (ez (a.names++b.names))),.box [.map 7]] ?_ ?_
 have hnv:eF S a b=(aJ ((((S.length+1):Nat):Int)) ⟨true,(min (x15.lv) (x16.lv)),false,Ty.zero,(iN a b)⟩ S):=by unfold eF;rw [Dt (S:=S) (n:=a.n) aq,Dt (S:=S) (n:=b.n) aq]
 rw [hnv] at hb1
 refine qz [(0,.ptr 0 0),(4,.ptr 2 0),(5,.ptr 3 0),(12,.ptr 5 0),(13,.ptr 6 0),(15,nI (S.length+1))] ?_ ?_
 refine qW 6 [(0,.ptr 0 0),(4,.ptr 2 0),(5,.ptr 3 0),(12,.ptr 5 0),(13,.ptr 6 0)] [.box [.int .i64 ((lv)),.map 1],mS (aJ ((((S.length+1):Nat):Int)) ⟨true,(min (x15.lv) (x16.lv)),false,Ty.zero,(iN a b)⟩ S),a.bx,b.bx,.map (ae aa.str aa.bool D),.box [.int .i64 ((recT (onL a b a.names.length) (b.n)).kind),.str (recT (onL a b a.names.length) (b.n)).name,nI (S.length+1),.imm ((recT (onL a b a.names.length) (b.n)).names.map aa.str),.imm ((recT (onL a b a.names.length) (b.n)).kids.map Ty.enc)],.box [.int .i64 ((recT (onL b a b.names.length) (a.n)).kind),.str (recT (onL b a b.names.length) (a.n)).name,nI (S.length+1),.imm ((recT (onL b a b.names.length) (a.n)).names.map aa.str),.imm ((recT (onL b a b.names.length) (a.n)).kids.map Ty.enc)],.map (ae aa.str aa.bool (ez (a.names++b.names))),.box [.map 7]] ?_ ?_
 refine qV 4 ?_ ?_
 refine aT (args:=[.ptr 0 0,.int .i64 (a.n),.agg [.int .i64 ((recT (onL b a b.names.length) (a.n)).kind),.str (recT (onL b a b.names.length) (a.n)).name,.int .i64 (((S.length+1):Nat):Int),.imm ((recT (onL b a b.names.length) (a.n)).names.map aa.str),.imm ((recT (onL b a b.names.length) (a.n)).kids.map Ty.enc)]]) (hs:=[.box [.int .i64 ((lv)),.map 1],mS (aJ ((((S.length+1):Nat):Int)) ⟨true,(min (x15.lv) (x16.lv)),false,Ty.zero,(iN a b)⟩ S)]) (hs':=[.box [.int .i64 (((lv))),.map 1],mS S2]) (aM:=[a.bx,b.bx,.map (ae aa.str aa.bool D),.box [.int .i64 ((recT (onL a b a.names.length) (b.n)).kind),.str (recT (onL a b a.names.length) (b.n)).name,.int .i64 (((S.length+1):Nat):Int),.imm ((recT (onL a b a.names.length) (b.n)).names.map aa.str),.imm ((recT (onL a b a.names.length) (b.n)).kids.map Ty.enc)],.box [.int .i64 ((recT (onL b a b.names.length) (a.n)).kind),.str (recT (onL b a b.names.length) (a.n)).name,.int .i64 (((S.length+1):Nat):Int),.imm ((recT (onL b a b.names.length) (a.n)).names.map aa.str),.imm ((recT (onL b a b.names.length) (a.n)).kids.map Ty.enc)],.map (ae aa.str aa.bool (ez (a.names++b.names))),.box [.map 7]]) kq kq kq kq kq (i7 f (a.n) (Ty.mk ((recT (onL b a b.names.length) (a.n)).kind) ((recT (onL b a b.names.length) (a.n)).name) (((S.length+1):Nat):Int) ((recT (onL b a b.names.length) (a.n)).names) ((recT (onL b a b.names.length) (a.n)).kids)) ((lv)) (aJ ((((S.length+1):Nat):Int)) ⟨true,(min (x15.lv) (x16.lv)),false,Ty.zero,(iN a b)⟩ S) S2 ok1 (hg2 _) hb1) cF cF rfl cF cF kq ?_
 refine qr 1 ?_ ?_
 by_cases hb17:(ok1)=true
 refine qm [169,170] (hb17) ?_ ?_
 refine qr 4 ?_ ?_
 refine aT (args:=[.ptr 0 0,.int .i64 (b.n),.agg [.int .i64 ((recT (onL a b a.names.length) (b.n)).kind),.str (recT (onL a b a.names.length) (b.n)).name,.int .i64 (((S.length+1):Nat):Int),.imm ((recT (onL a b a.names.length) (b.n)).names.map aa.str),.imm ((recT (onL a b a.names.length) (b.n)).kids.map Ty.enc)]]) (hs:=[.box [.int .i64 (((lv))),.map 1],mS S2]) (hs':=[.box [.int .i64 ((((lv)))),.map 1],mS m']) (aM:=[a.bx,b.bx,.map (ae aa.str aa.bool D),.box [.int .i64 ((recT (onL a b a.names.length) (b.n)).kind),.str (recT (onL a b a.names.length) (b.n)).name,.int .i64 (((S.length+1):Nat):Int),.imm ((recT (onL a b a.names.length) (b.n)).names.map aa.str),.imm ((recT (onL a b a.names.length) (b.n)).kids.map Ty.enc)],.box [.int .i64 ((recT (onL b a b.names.length) (a.n)).kind),.str (recT (onL b a b.names.length) (a.n)).name,.int .i64 (((S.length+1):Nat):Int),.imm ((recT (onL b a b.names.length) (a.n)).names.map aa.str),.imm ((recT (onL b a b.names.length) (a.n)).kids.map Ty.enc)],.map (ae aa.str aa.bool (ez (a.names++b.names))),.box [.map 7]]) kq kq kq kq kq (i7 f (b.n) (Ty.mk ((recT (onL a b a.names.length) (b.n)).kind) ((recT (onL a b a.names.length) (b.n)).name) (((S.length+1):Nat):Int) ((recT (onL a b a.names.length) (b.n)).names) ((recT (onL a b a.names.length) (b.n)).kids)) (((lv))) S2 m' ok (hg1 _) (hb2 aq)) cF cF rfl cF cF kq ?_
 refine qR 2 [(6,.bool (ok))] [.box [.int .i64 ((((lv)))),.map 1],mS m',a.bx,b.bx,.map (ae aa.str aa.bool D),.box [.int .i64 ((recT (onL a b a.names.length) (b.n)).kind),.str (recT (onL a b a.names.length) (b.n)).name,nI (S.length+1),.imm ((recT (onL a b a.names.length) (b.n)).names.map aa.str),.imm ((recT (onL a b a.names.length) (b.n)).kids.map Ty.enc)],.box [.int .i64 ((recT (onL b a b.names.length) (a.n)).kind),.str (recT (onL b a b.names.length) (a.n)).name,nI (S.length+1),.imm ((recT (onL b a b.names.length) (a.n)).names.map aa.str),.imm ((recT (onL b a b.names.length) (a.n)).kids.map Ty.enc)],.map (ae aa.str aa.bool (ez (a.names++b.names))),.box [.map 7]] ?_ ?_
 refine bb kq ?_
 refine aL (l:=[.bool (ok)]) (.inr rfl) kq (by rfl) fB fB ?_ ?_
 refine Eq.trans (b:=[.box [.int .i64 ((((lv)))),.map 1],mS m']) kq ?_
 · rfl
 · simp [ai.belO,hpS,Ty.v,Vr.v]
 iterate 3 kernel_rfl
 refine qm [169,170] (Bool.eq_false_iff.2 hb17) ?_ ?_
 refine qR 7 [(6,.bool false)] [.box [.int .i64 (((lv))),.map 1],mS S2,a.bx,b.bx,.map (ae aa.str aa.bool D),.box [.int .i64 ((recT (onL a b a.names.length) (b.n)).kind),.str (recT (onL a b a.names.length) (b.n)).name,nI (S.length+1),.imm ((recT (onL a b a.names.length) (b.n)).names.map aa.str),.imm ((recT (onL a b a.names.length) (b.n)).kids.map Ty.enc)],.box [.int .i64 ((recT (onL b a b.names.length) (a.n)).kind),.str (recT (onL b a b.names.length) (a.n)).name,nI (S.length+1),.imm ((recT (onL b a b.names.length) (a.n)).names.map aa.str),.imm ((recT (onL b a b.names.length) (a.n)).kids.map Ty.enc)],.map (ae aa.str aa.bool (ez (a.names++b.names))),.box [.map 7]] ?_ ?_
 refine bb kq ?_
 refine aL (l:=[.bool false]) (.inr rfl) kq (by have e:=hb3 aq;rw [← e.1];rfl) fB fB ?_ ?_
 refine Eq.trans (b:=[.box [.int .i64 (((lv))),.map 1],mS S2]) kq ?_
 · have e:=hb3 aq
   rw [← e.2];rfl
 · simp [ai.belO,hpS,Ty.v,Vr.v]
 iterate 41 kernel_rfl
 refine qm [97,98] (decide_eq_false hb11) ?_ ?_
 refine qR 6 [(0,.ptr 0 0),(4,.ptr 2 0),(5,.ptr 3 0),(12,.ptr 5 0),(13,.ptr 6 0),(83,.bool false)] [bS lv,mS S,a.bx,b.bx,.map (ae aa.str aa.bool D),(recT (onL a b a.names.length) (b.n)).bx,(recT (onL b a b.names.length) (a.n)).bx] ?_ ?_
 refine dY kq kq ?_
 refine qV 2 ?_ ?_
 refine qy (au (l:=(recT (onL a b a.names.length) (b.n)).names) (enc:=aa.str) kq bi) ?_ ?_ ?_
 refine qr 2 ?_ ?_
 by_cases hb18:(((recT (onL a b a.names.length) (b.n)).names.length:Nat):Int)=0
 · exfalso;omega
 refine qm [108,109] (beq_eq_false_iff_ne.2 hb18) ?_ ?_
 refine qR 5 [(0,.ptr 0 0),(4,.ptr 2 0),(5,.ptr 3 0),(12,.ptr 5 0),(13,.ptr 6 0),(104,.bool false)] [bS lv,mS S,a.bx,b.bx,.map (ae aa.str aa.bool D),(recT (onL a b a.names.length) (b.n)).bx,(recT (onL b a b.names.length) (a.n)).bx] ?_ ?_
 refine dY kq kq ?_
 refine qV 2 ?_ ?_
 refine qy (au (l:=(recT (onL b a b.names.length) (a.n)).names) (enc:=aa.str) kq bi) ?_ ?_ ?_
 refine qR 2 [(0,.ptr 0 0),(4,.ptr 2 0),(5,.ptr 3 0),(12,.ptr 5 0),(13,.ptr 6 0),(122,.bool ((((recT (onL b a b.names.length) (a.n)).names.length:Nat):Int)==0))] [bS lv,mS S,a.bx,b.bx,.map (ae aa.str aa.bool D),(recT (onL a b a.names.length) (b.n)).bx,(recT (onL b a b.names.length) (a.n)).bx] ?_ ?_
 by_cases hb19:(((recT (onL b a b.names.length) (a.n)).names.length:Nat):Int)=0
 refine qt (beq_iff_eq.2 hb19) ?_ ?_
 refine qW 4 [(0,.ptr 0 0),(5,.ptr 3 0),(12,.ptr 5 0)] [bS lv,mS S,a.bx,b.bx,.map (ae aa.str aa.bool D),.box [.int .i64 ((recT (onL a b a.names.length) (b.n)).kind),.str (recT (onL a b a.names.length) (b.n)).name,.int .i64 (a.n),.imm ((recT (onL a b a.names.length) (b.n)).names.map aa.str),.imm ((recT (onL a b a.names.length) (b.n)).kids.map Ty.enc)],(recT (onL b a b.names.length) (a.n)).bx] ?_ ?_
 refine qV 4 ?_ ?_
 refine aT (args:=[.ptr 0 0,.int .i64 (b.n),.agg [.int .i64 ((recT (onL a b a.names.length) (b.n)).kind),.str (recT (onL a b a.names.length) (b.n)).name,.int .i64 (a.n),.imm ((recT (onL a b a.names.length) (b.n)).names.map aa.str),.imm ((recT (onL a b a.names.length) (b.n)).kids.map Ty.enc)]]) (hs:=[bS lv,mS S]) (hs':=[.box [.int .i64 ((lv)),.map 1],mS m']) (aM:=[a.bx,b.bx,.map (ae aa.str aa.bool D),.box [.int .i64 ((recT (onL a b a.names.length) (b.n)).kind),.str (recT (onL a b a.names.length) (b.n)).name,.int .i64 (a.n),.imm ((recT (onL a b a.names.length) (b.n)).names.map aa.str),.imm ((recT (onL a b a.names.length) (b.n)).kids.map Ty.enc)],(recT (onL b a b.names.length) (a.n)).bx]) kq kq kq kq kq (i7 f (b.n) (Ty.mk ((recT (onL a b a.names.length) (b.n)).kind) ((recT (onL a b a.names.length) (b.n)).name) (a.n) ((recT (onL a b a.names.length) (b.n)).names) ((recT (onL a b a.names.length) (b.n)).kids)) (lv) S m' ok (hg1 _) (((f3 aq oq).2 oq).1 oq)) cF cF rfl cF cF kq ?_
 refine qR 1 [(6,.bool (ok))] [.box [.int .i64 ((lv)),.map 1],mS m',a.bx,b.bx,.map (ae aa.str aa.bool D),.box [.int .i64 ((recT (onL a b a.names.length) (b.n)).kind),.str (recT (onL a b a.names.length) (b.n)).name,.int .i64 (a.n),.imm ((recT (onL a b a.names.length) (b.n)).names.map aa.str),.imm ((recT (onL a b a.names.length) (b.n)).kids.map Ty.enc)],(recT (onL b a b.names.length) (a.n)).bx] ?_ ?_
 refine bb kq ?_
 apply iR
 apply aR
 refine aL (l:=[.bool (ok)]) (.inr rfl) kq (by rfl) fB fB ?_ ?_
 refine Eq.trans (b:=[.box [.int .i64 ((lv)),.map 1],mS m']) kq ?_
 · rfl
 · simp [ai.belO,hpS,Ty.v,Vr.v]
 iterate 4 kernel_rfl
 · exfalso;omega
 iterate 19 kernel_rfl
 refine qm [87,88] (decide_eq_false hb9) ?_ ?_
 refine qr 7 ?_ ?_
 refine qy (au (l:=(recT (onL b a b.names.length) (a.n)).names) (enc:=aa.str) kq bi) ?_ ?_ ?_
 refine qr 2 ?_ ?_
 by_cases hb20:(((recT (onL b a b.names.length) (a.n)).names.length:Nat):Int) > 0
 refine qm [97,98] (decide_eq_true hb20) ?_ ?_
 refine qR 6 [(0,.ptr 0 0),(4,.ptr 2 0),(5,.ptr 3 0),(12,.ptr 5 0),(13,.ptr 6 0),(83,.bool ((a.n)==0))] [bS lv,mS S,a.bx,b.bx,.map (ae aa.str aa.bool D),(recT (onL a b a.names.length) (b.n)).bx,(recT (onL b a b.names.length) (a.n)).bx] ?_ ?_
 by_cases hb21:(a.n)=0
 refine qt (beq_iff_eq.2 hb21) ?_ ?_
 refine qU 1 [(6,.bool false)] ?_ ?_
 refine bb kq ?_
 apply iR
 apply aR
 refine aL (l:=[.bool false]) (.inr rfl) kq (by have e:=f2 aq oq;rw [← e.1];rfl) fB fB ?_ ?_
 refine Eq.trans (b:=[bS lv,mS S]) kq ?_
 · have e:=f2 aq oq
   rw [← e.2];rfl
 · simp [ai.belO,hpS,Ty.v,Vr.v]
 iterate 2 kernel_rfl
 refine qf (beq_eq_false_iff_ne.2 hb21) ?_ ?_
 refine qV 2 ?_ ?_
 refine qy (au (l:=(recT (onL a b a.names.length) (b.n)).names) (enc:=aa.str) kq bi) ?_ ?_ ?_
 refine qr 2 ?_ ?_
 by_cases hb22:(((recT (onL a b a.names.length) (b.n)).names.length:Nat):Int)=0
 refine qm [108,109] (beq_iff_eq.2 hb22) ?_ ?_
 refine qR 5 [(0,.ptr 0 0),(4,.ptr 2 0),(5,.ptr 3 0),(12,.ptr 5 0),(13,.ptr 6 0),(104,.bool ((a.n) != 0))] [bS lv,mS S,a.bx,b.bx,.map (ae aa.str aa.bool D),(recT (onL a b a.names.length) (b.n)).bx,(recT (onL b a b.names.length) (a.n)).bx] ?_ ?_
 refine qt (x:=((a.n) != 0)) (bne_iff_ne.2 hb21) ?_ ?_
 refine qW 4 [(0,.ptr 0 0),(4,.ptr 2 0),(13,.ptr 6 0)] [bS lv,mS S,a.bx,b.bx,.map (ae aa.str aa.bool D),(recT (onL a b a.names.length) (b.n)).bx,.box [.int .i64 ((recT (onL b a b.names.length) (a.n)).kind),.str (recT (onL b a b.names.length) (a.n)).name,.int .i64 (b.n),.imm ((recT (onL b a b.names.length) (a.n)).names.map aa.str),.imm ((recT (onL b a b.names.length) (a.n)).kids.map Ty.enc)]] ?_ ?_
 refine qV 4 ?_ ?_
 refine aT (args:=[.ptr 0 0,.int .i64 (a.n),.agg [.int .i64 ((recT (onL b a b.names.length) (a.n)).kind),.str (recT (onL b a b.names.length) (a.n)).name,.int .i64 (b.n),.imm ((recT (onL b a b.names.length) (a.n)).names.map aa.str),.imm ((recT (onL b a b.names.length) (a.n)).kids.map Ty.enc)]]) (hs:=[bS lv,mS S]) (hs':=[.box [.int .i64 ((lv)),.map 1],mS m']) (aM:=[a.bx,b.bx,.map (ae aa.str aa.bool D),(recT (onL a b a.names.length) (b.n)).bx,.box [.int .i64 ((recT (onL b a b.names.length) (a.n)).kind),.str (recT (onL b a b.names.length) (a.n)).name,.int .i64 (b.n),.imm ((recT (onL b a b.names.length) (a.n)).names.map aa.str),.imm ((recT (onL b a b.names.length) (a.n)).kids.map Ty.enc)]]) kq kq kq kq kq (i7 f (a.n) (Ty.mk ((recT (onL b a b.names.length) (a.n)).kind) ((recT (onL b a b.names.length) (a.n)).name) (b.n) ((recT (onL b a b.names.length) (a.n)).names) ((recT (onL b a b.names.length) (a.n)).kids)) (lv) S m' ok (hg2 _) ((f3 aq oq).1 oq)) cF cF rfl cF cF kq ?_
 refine qR 1 [(6,.bool (ok))] [.box [.int .i64 ((lv)),.map 1],mS m',a.bx,b.bx,.map (ae aa.str aa.bool D),(recT (onL a b a.names.length) (b.n)).bx,.box [.int .i64 ((recT (onL b a b.names.length) (a.n)).kind),.str (recT (onL b a b.names.length) (a.n)).name,.int .i64 (b.n),.imm ((recT (onL b a b.names.length) (a.n)).names.map aa.str),.imm ((recT (onL b a b.names.length) (a.n)).kids.map Ty.enc)]] ?_ ?_
 refine bb kq ?_
 apply iR
 apply aR
 refine aL (l:=[.bool (ok)]) (.inr rfl) kq (by rfl) fB fB ?_ ?_
 refine Eq.trans (b:=[.box [.int .i64 ((lv)),.map 1],mS m']) kq ?_
 · rfl
 · simp [ai.belO,hpS,Ty.v,Vr.v]
 iterate 6 kernel_rfl
 · exfalso;omega
 iterate 7 kernel_rfl
 refine qm [97,98] (decide_eq_false hb20) ?_ ?_
 refine qR 6 [(0,.ptr 0 0),(4,.ptr 2 0),(5,.ptr 3 0),(12,.ptr 5 0),(13,.ptr 6 0),(83,.bool false)] [bS lv,mS S,a.bx,b.bx,.map (ae aa.str aa.bool D),(recT (onL a b a.names.length) (b.n)).bx,(recT (onL b a b.names.length) (a.n)).bx] ?_ ?_
 refine dY kq kq ?_
 refine qV 2 ?_ ?_
 refine qy (au (l:=(recT (onL a b a.names.length) (b.n)).names) (enc:=aa.str) kq bi) ?_ ?_ ?_
 refine qr 2 ?_ ?_
 by_cases hb24:(((recT (onL a b a.names.length) (b.n)).names.length:Nat):Int)=0
 refine qm [108,109] (beq_iff_eq.2 hb24) ?_ ?_
 refine qR 5 [(0,.ptr 0 0),(4,.ptr 2 0),(5,.ptr 3 0),(12,.ptr 5 0),(13,.ptr 6 0),(104,.bool ((a.n) != 0))] [bS lv,mS S,a.bx,b.bx,.map (ae aa.str aa.bool D),(recT (onL a b a.names.length) (b.n)).bx,(recT (onL b a b.names.length) (a.n)).bx] ?_ ?_
 by_cases hb25:(a.n)=0
 refine qf (x:=((a.n) != 0)) (bne_eq_false_iff_eq.2 hb25) ?_ ?_
 refine qV 2 ?_ ?_
 refine qy (au (l:=(recT (onL b a b.names.length) (a.n)).names) (enc:=aa.str) kq bi) ?_ ?_ ?_
 refine qR 2 [(0,.ptr 0 0),(4,.ptr 2 0),(5,.ptr 3 0),(12,.ptr 5 0),(13,.ptr 6 0),(122,.bool ((((recT (onL b a b.names.length) (a.n)).names.length:Nat):Int)==0))] [bS lv,mS S,a.bx,b.bx,.map (ae aa.str aa.bool D),(recT (onL a b a.names.length) (b.n)).bx,(recT (onL b a b.names.length) (a.n)).bx] ?_ ?_
 by_cases hb26:(((recT (onL b a b.names.length) (a.n)).names.length:Nat):Int)=0
 refine qt (beq_iff_eq.2 hb26) ?_ ?_
 refine qW 4 [(0,.ptr 0 0),(5,.ptr 3 0),(12,.ptr 5 0)] [bS lv,mS S,a.bx,b.bx,.map (ae aa.str aa.bool D),.box [.int .i64 ((recT (onL a b a.names.length) (b.n)).kind),.str (recT (onL a b a.names.length) (b.n)).name,.int .i64 (a.n),.imm ((recT (onL a b a.names.length) (b.n)).names.map aa.str),.imm ((recT (onL a b a.names.length) (b.n)).kids.map Ty.enc)],(recT (onL b a b.names.length) (a.n)).bx] ?_ ?_
 refine qV 4 ?_ ?_
 refine aT (args:=[.ptr 0 0,.int .i64 (b.n),.agg [.int .i64 ((recT (onL a b a.names.length) (b.n)).kind),.str (recT (onL a b a.names.length) (b.n)).name,.int .i64 (a.n),.imm ((recT (onL a b a.names.length) (b.n)).names.map aa.str),.imm ((recT (onL a b a.names.length) (b.n)).kids.map Ty.enc)]]) (hs:=[bS lv,mS S]) (hs':=[.box [.int .i64 ((lv)),.map 1],mS m']) (aM:=[a.bx,b.bx,.map (ae aa.str aa.bool D),.box [.int .i64 ((recT (onL a b a.names.length) (b.n)).kind),.str (recT (onL a b a.names.length) (b.n)).name,.int .i64 (a.n),.imm ((recT (onL a b a.names.length) (b.n)).names.map aa.str),.imm ((recT (onL a b a.names.length) (b.n)).kids.map Ty.enc)],(recT (onL b a b.names.length) (a.n)).bx]) kq kq kq kq kq (i7 f (b.n) (Ty.mk ((recT (onL a b a.names.length) (b.n)).kind) ((recT (onL a b a.names.length) (b.n)).name) (a.n) ((recT (onL a b a.names.length) (b.n)).names) ((recT (onL a b a.names.length) (b.n)).kids)) (lv) S m' ok (hg1 _) (((f3 aq oq).2 oq).1 oq)) cF cF rfl cF cF kq ?_
 refine qR 1 [(6,.bool (ok))] [.box [.int .i64 ((lv)),.map 1],mS m',a.bx,b.bx,.map (ae aa.str aa.bool D),.box [.int .i64 ((recT (onL a b a.names.length) (b.n)).kind),.str (recT (onL a b a.names.length) (b.n)).name,.int .i64 (a.n),.imm ((recT (onL a b a.names.length) (b.n)).names.map aa.str),.imm ((recT (onL a b a.names.length) (b.n)).kids.map Ty.enc)],(recT (onL b a b.names.length) (a.n)).bx] ?_ ?_
 refine bb kq ?_
 apply iR
 apply aR
 refine aL (l:=[.bool (ok)]) (.inr rfl) kq (by rfl) fB fB ?_ ?_
 refine Eq.trans (b:=[.box [.int .i64 ((lv)),.map 1],mS m']) kq ?_
 · rfl
 · simp [ai.belO,hpS,Ty.v,Vr.v]
 iterate 4 kernel_rfl
 · exfalso;omega
 iterate 5 kernel_rfl
 refine qt (x:=((a.n) != 0)) (bne_iff_ne.2 hb25) ?_ ?_
 refine qW 4 [(0,.ptr 0 0),(4,.ptr 2 0),(13,.ptr 6 0)] [bS lv,mS S,a.bx,b.bx,.map (ae aa.str aa.bool D),(recT (onL a b a.names.length) (b.n)).bx,.box [.int .i64 ((recT (onL b a b.names.length) (a.n)).kind),.str (recT (onL b a b.names.length) (a.n)).name,.int .i64 (b.n),.imm ((recT (onL b a b.names.length) (a.n)).names.map aa.str),.imm ((recT (onL b a b.names.length) (a.n)).kids.map Ty.enc)]] ?_ ?_
 refine qV 4 ?_ ?_
 refine aT (args:=[.ptr 0 0,.int .i64 (a.n),.agg [.int .i64 ((recT (onL b a b.names.length) (a.n)).kind),.str (recT (onL b a b.names.length) (a.n)).name,.int .i64 (b.n),.imm ((recT (onL b a b.names.length) (a.n)).names.map aa.str),.imm ((recT (onL b a b.names.length) (a.n)).kids.map Ty.enc)]]) (hs:=[bS lv,mS S]) (hs':=[.box [.int .i64 ((lv)),.map 1],mS m']) (aM:=[a.bx,b.bx,.map (ae aa.str aa.bool D),(recT (onL a b a.names.length) (b.n)).bx,.box [.int .i64 ((recT (onL b a b.names.length) (a.n)).kind),.str (recT (onL b a b.names.length) (a.n)).name,.int .i64 (b.n),.imm ((recT (onL b a b.names.length) (a.n)).names.map aa.str),.imm ((recT (onL b a b.names.length) (a.n)).kids.map Ty.enc)]]) kq kq kq kq kq (i7 f (a.n) (Ty.mk ((recT (onL b a b.names.length) (a.n)).kind) ((recT (onL b a b.names.length) (a.n)).name) (b.n) ((recT (onL b a b.names.length) (a.n)).names) ((recT (onL b a b.names.length) (a.n)).kids)) (lv) S m' ok (hg2 _) ((f3 aq oq).1 oq)) cF cF rfl cF cF kq ?_
 refine qR 1 [(6,.bool (ok))] [.box [.int .i64 ((lv)),.map 1],mS m',a.bx,b.bx,.map (ae aa.str aa.bool D),(recT (onL a b a.names.length) (b.n)).bx,.box [.int .i64 ((recT (onL b a b.names.length) (a.n)).kind),.str (recT (onL b a b.names.length) (a.n)).name,.int .i64 (b.n),.imm ((recT (onL b a b.names.length) (a.n)).names.map aa.str),.imm ((recT (onL b a b.names.length) (a.n)).kids.map Ty.enc)]] ?_ ?_
 refine bb kq ?_
 apply iR
 apply aR
 refine aL (l:=[.bool (ok)]) (.inr rfl) kq (by rfl) fB fB ?_ ?_
 refine Eq.trans (b:=[.box [.int .i64 ((lv)),.map 1],mS m']) kq ?_
 · rfl
 · simp [ai.belO,hpS,Ty.v,Vr.v]
 iterate 6 kernel_rfl
 · exfalso;omega
 iterate 38 kernel_rfl
 all_goals
  try dsimp only
  refine ⟨by omega,?_⟩
  first|exact si hP oq hra.2 (.inl oq)|exact si hP oq hra.2 (.inr (Je aq aq))|exact hUt aq
theorem BX {f:Nat} {S S':St} {p q:Ty} {ok:Bool} (h:bq f S p q=some (ok,S')):∃ g a b,f=g+1∧cm g S p=some a∧cm g S q=some b∧a.sz<100000000∧b.sz<100000000 ∧
 (a.kind=6∧b.kind=6∧a.n=b.n→true=ok∧S=S')∧(¬ (a.kind=6∧b.kind=6∧a.n=b.n)→(a.kind=6→cg g S a.n b=some (ok,S'))∧(¬ a.kind=6→(b.kind=6→cg g S b.n a=some (ok,S'))∧(¬ b.kind=6 →
  (a.kind≠b.kind∨a.name≠b.name→false=ok∧S=S')∧(¬ (a.kind≠b.kind∨a.name≠b.name)→(a.kind=5→gi g (bq g) S a b=some (ok,S'))∧(¬ a.kind=5→(a.kind=4→(0<a.kids.length∧0<b.kids.length)∧bq g S (a.kids.getD 0 Ty.zero) (b.kids.getD 0 Ty.zero)=some (ok,S'))∧(¬ a.kind=4→true=ok∧S=S')))))):=by
 cases f with
 | zero=>simp [bq] at h
 | succ g =>
  rw [bq] at h
  split at h <;> try (cases h;done)
  rename_i a ha
  split at h <;> try (cases h;done)
  rename_i b hb
  split at h <;> try (cases h;done)
  rename_i hs
  refine ⟨g,a,b,rfl,ha,hb,hs.1,hs.2,fun h1=>?_,fun h1=>⟨fun h2=>?_,fun h2=>⟨fun h3=>?_,fun h3=>⟨fun h4=>?_,fun h4=>⟨fun h5=>?_,fun h5=>⟨fun h6=>?_,fun h6=>?_⟩⟩⟩⟩⟩⟩
  · rw [if_pos h1] at h;cases h;exact ⟨rfl,rfl⟩
  · rw [if_neg h1,if_pos h2] at h;exact h
  · rw [if_neg h1,if_neg h2,if_pos h3] at h;exact h
  · rw [if_neg h1,if_neg h2,if_neg h3,if_pos h4] at h;cases h;exact ⟨rfl,rfl⟩
  · rw [if_neg h1,if_neg h2,if_neg h3,if_neg h4,if_pos h5] at h;exact h
  · rw [if_neg h1,if_neg h2,if_neg h3,if_neg h4,if_neg h5,if_pos h6] at h
    split at h <;> try (cases h;done)
    rename_i hk;exact ⟨hk,h⟩
  · rw [if_neg h1,if_neg h2,if_neg h3,if_neg h4,if_neg h5,if_neg h6] at h;cases h;exact ⟨rfl,rfl⟩
theorem H4 {t:Ty} (h4:0<t.kids.length) (hs:t.sz<100000000):(t.kids.getD 0 Ty.zero).sz<100000000:=Nat.lt_trans (b9 t 0 h4) hs
theorem qJ {a b:Int} {x y:List UInt8} (h1:a=b) (h2:x=y):¬ (a≠b∨x≠y):=fun h=>h.elim (fun h=>h h1) (fun h=>h h2)
noncomputable def c66:Code:=aE Tryz.f66
theorem eL {p:Prop} (h:p:=by simp [ai.belO,hpS,Ty.v,Vr.v]):p:=h
theorem jn {p:Prop} (h:p:=by simp [aK]):p:=h
theorem Ib {p:Prop} (h:p:=by have hk4:=((((((u2 oq).2 oq).2 oq).2 (qJ aq aq)).2 oq).1 oq).1;omega):p:=h
theorem A9 (f:Nat) (p q:Ty) (lv:Int) (m m':St) (ok:Bool) (hp:p.sz<100000000) (hq:q.sz<100000000) (hb:bq f m p q=some (ok,m')):av cx 66 [.ptr 0 0,Ty.v p,Ty.v q] (hpS lv m) (fun v h=>v=(.bool (ok))∧h=hpS lv m'):=by
 induction f generalizing p q m m' ok with
 | zero=>simp [bq] at hb
 | succ f ih =>
 have ihU:∀ (S:St) (x y:Ty) (okU:Bool) (SU:St),x.sz<100000000→y.sz<100000000→bq f S x y=some (okU,SU)→av cx 66 [.ptr 0 0,Ty.v x,Ty.v y] (hpS lv S) (fun v h=>v=.bool okU∧h=hpS lv SU):=fun S x y okU SU h1 h2 h3=>ih x y S SU okU h1 h2 h3
 obtain ⟨g,a,b,e,hha,hhb,hsa,hsb,u1,u2⟩:=BX hb
 obtain rfl:f=g:=by omega
 have hz3:=ct a
 have hz4:=ct b
 refine ap (cx:=cx) 83 2 [(ResultVar.tmp 6)] Tryz.func66 rfl rfl rfl rfl rfl zq ?_
 show wpA cx 83 2 (at_ c66 []) _ _ _
 refine qZ [(0,.ptr 0 0),(1,Ty.v p),(2,Ty.v q)] [bS lv,mS m] ?_ ?_
 refine qW 3 [(0,.ptr 0 0),(4,.ptr 2 0),(5,.ptr 3 0)] [bS lv,mS m,p.bx,q.bx] ?_ ?_
 refine ar ?_ ?_
 refine cK cxM kq aB (bv ?_)
 refine qu 2 ?_ ?_
 refine cV (args:=[.ptr 0 0,.agg [.int .i64 (p.kind),.str p.name,.int .i64 (p.n),.imm (p.names.map aa.str),.imm (p.kids.map Ty.enc)]]) (hs:=[bS lv,mS m]) (hs':=[.box [.int .i64 ((lv)),.map 1],mS m]) (aM:=[p.bx,q.bx]) (L:=[0,1]) kq kq kq kq kq kq (qj f p a (lv) m hp hha) eL eL rfl eL eL kq rfl rfl ?_
 refine qu 2 ?_ ?_
 refine cV (args:=[.ptr 0 0,.agg [.int .i64 (q.kind),.str q.name,.int .i64 (q.n),.imm (q.names.map aa.str),.imm (q.kids.map Ty.enc)]]) (hs:=[.box [.int .i64 ((lv)),.map 1],mS m]) (hs':=[.box [.int .i64 (((lv))),.map 1],mS m]) (aM:=[p.bx,q.bx]) (L:=[0,1]) kq kq kq kq kq kq (qj f q b ((lv)) m hq hhb) eL eL rfl eL eL kq rfl rfl ?_
 refine qu 2 ?_ ?_
 refine cn kq ⟨kq,?_⟩
 refine ab ?_
 refine qZ [(0,.ptr 0 0),(4,.ptr 2 0),(5,.ptr 3 0)] [.box [.int .i64 (((lv))),.map 1],mS m,a.bx,b.bx] ?_ ?_
 refine ar ?_ ?_
 refine qB 0 ?_ ?_ ?_
 refine qV 4 ?_ ?_
 by_cases hb1:(a.kind)=6
 refine qm [16,17] (beq_iff_eq.2 hb1) ?_ ?_
 refine qr 5 ?_ ?_
 by_cases hb2:(b.kind)=6
 refine qm [20,21,22] (beq_iff_eq.2 hb2) ?_ ?_
 refine qR 7 [(0,.ptr 0 0),(4,.ptr 2 0),(5,.ptr 3 0),(13,.bool ((a.n)==(b.n)))] [.box [.int .i64 (((lv))),.map 1],mS m,a.bx,b.bx] ?_ ?_
 by_cases hb3:(a.n)=(b.n)
 refine qt (beq_iff_eq.2 hb3) ?_ ?_
 refine qU 1 [(6,.bool true)] ?_ ?_
 refine bb kq ?_
 apply iR
 apply aR
 refine aL (l:=[.bool true]) (.inr rfl) kq (by have e:=u1 oq;rw [← e.1];rfl) jn jn ?_ ?_
 refine Eq.trans (b:=[.box [.int .i64 (((lv))),.map 1],mS m]) kq ?_
 · have e:=u1 oq
   rw [← e.2];rfl
 rotate_left
 iterate 2 kernel_rfl
 refine qf (beq_eq_false_iff_ne.2 hb3) ?_ ?_
 refine qU 4 [(0,.ptr 0 0),(4,.ptr 2 0),(5,.ptr 3 0),(29,.bool ((a.kind)==6))] ?_ ?_
 refine qt (beq_iff_eq.2 hb1) ?_ ?_
 refine qV 4 ?_ ?_
 refine aT (args:=[.ptr 0 0,.int .i64 (a.n),.agg [.int .i64 (b.kind),.str b.name,.int .i64 (b.n),.imm (b.names.map aa.str),.imm (b.kids.map Ty.enc)]]) (hs:=[.box [.int .i64 (((lv))),.map 1],mS m]) (hs':=[.box [.int .i64 ((((lv)))),.map 1],mS m']) (aM:=[a.bx,b.bx]) kq kq kq kq kq (i7 f (a.n) b (((lv))) m m' ok hsb ((u2 oq).1 oq)) eL eL rfl eL eL kq ?_
 refine qR 1 [(6,.bool (ok))] [.box [.int .i64 ((((lv)))),.map 1],mS m',a.bx,b.bx] ?_ ?_
 refine bb kq ?_
 apply iR
 apply aR
 refine aL (l:=[.bool (ok)]) (.inr rfl) kq (by rfl) jn jn ?_ ?_
 refine Eq.trans (b:=[.box [.int .i64 ((((lv)))),.map 1],mS m']) kq ?_
 · rfl
 rotate_left
 iterate 7 kernel_rfl
 refine qm [20,21,22] (beq_eq_false_iff_ne.2 hb2) ?_ ?_
 refine qR 7 [(0,.ptr 0 0),(4,.ptr 2 0),(5,.ptr 3 0),(13,.bool false)] [.box [.int .i64 (((lv))),.map 1],mS m,a.bx,b.bx] ?_ ?_
 refine dY kq kq ?_
 refine qU 4 [(0,.ptr 0 0),(4,.ptr 2 0),(5,.ptr 3 0),(29,.bool ((a.kind)==6))] ?_ ?_
 refine qt (beq_iff_eq.2 hb1) ?_ ?_
 refine qV 4 ?_ ?_
 refine aT (args:=[.ptr 0 0,.int .i64 (a.n),.agg [.int .i64 (b.kind),.str b.name,.int .i64 (b.n),.imm (b.names.map aa.str),.imm (b.kids.map Ty.enc)]]) (hs:=[.box [.int .i64 (((lv))),.map 1],mS m]) (hs':=[.box [.int .i64 ((((lv)))),.map 1],mS m']) (aM:=[a.bx,b.bx]) kq kq kq kq kq (i7 f (a.n) b (((lv))) m m' ok hsb ((u2 oq).1 oq)) eL eL rfl eL eL kq ?_
 refine qR 1 [(6,.bool (ok))] [.box [.int .i64 ((((lv)))),.map 1],mS m',a.bx,b.bx] ?_ ?_
 refine bb kq ?_
 apply iR
 apply aR
 refine aL (l:=[.bool (ok)]) (.inr rfl) kq (by rfl) jn jn ?_ ?_
 refine Eq.trans (b:=[.box [.int .i64 ((((lv)))),.map 1],mS m']) kq ?_
 · rfl
 rotate_left
 iterate 8 kernel_rfl
 refine qm [16,17] (beq_eq_false_iff_ne.2 hb1) ?_ ?_
 refine qR 12 [(0,.ptr 0 0),(4,.ptr 2 0),(5,.ptr 3 0),(13,.bool false)] [.box [.int .i64 (((lv))),.map 1],mS m,a.bx,b.bx] ?_ ?_
 refine dY kq kq ?_
 refine qU 4 [(0,.ptr 0 0),(4,.ptr 2 0),(5,.ptr 3 0),(29,.bool ((a.kind)==6))] ?_ ?_
 refine qf (beq_eq_false_iff_ne.2 hb1) ?_ ?_
 refine qU 4 [(0,.ptr 0 0),(4,.ptr 2 0),(5,.ptr 3 0),(38,.bool ((b.kind)==6))] ?_ ?_
 by_cases hb7:(b.kind)=6
 refine qt (beq_iff_eq.2 hb7) ?_ ?_
 refine qV 4 ?_ ?_
 refine aT (args:=[.ptr 0 0,.int .i64 (b.n),.agg [.int .i64 (a.kind),.str a.name,.int .i64 (a.n),.imm (a.names.map aa.str),.imm (a.kids.map Ty.enc)]]) (hs:=[.box [.int .i64 (((lv))),.map 1],mS m]) (hs':=[.box [.int .i64 ((((lv)))),.map 1],mS m']) (aM:=[a.bx,b.bx]) kq kq kq kq kq (i7 f (b.n) a (((lv))) m m' ok hsa (((u2 oq).2 oq).1 oq)) eL eL rfl eL eL kq ?_
 refine qR 1 [(6,.bool (ok))] [.box [.int .i64 ((((lv)))),.map 1],mS m',a.bx,b.bx] ?_ ?_
 refine bb kq ?_
 apply iR
 apply aR
 refine aL (l:=[.bool (ok)]) (.inr rfl) kq (by rfl) jn jn ?_ ?_
 refine Eq.trans (b:=[.box [.int .i64 ((((lv)))),.map 1],mS m']) kq ?_
 · rfl
 rotate_left
 iterate 3 kernel_rfl
 refine qf (beq_eq_false_iff_ne.2 hb7) ?_ ?_
 refine qV 6 ?_ ?_
 by_cases hb8:(a.kind)=(b.kind)
 refine qm [52,53] (x:=((a.kind) != (b.kind))) (bne_eq_false_iff_eq.2 hb8) ?_ ?_
 refine qR 7 [(0,.ptr 0 0),(4,.ptr 2 0),(5,.ptr 3 0),(47,.bool (!(a.name==b.name)))] [.box [.int .i64 (((lv))),.map 1],mS m,a.bx,b.bx] ?_ ?_
 by_cases hb9:a.name=b.name
 refine qf (x:=(!(a.name==b.name))) (congrArg not (beq_iff_eq.2 hb9)) ?_ ?_
 refine qU 4 [(0,.ptr 0 0),(4,.ptr 2 0),(5,.ptr 3 0),(60,.bool ((a.kind)==5))] ?_ ?_
 by_cases hb10:(a.kind)=5
 refine qt (beq_iff_eq.2 hb10) ?_ ?_
 refine qV 3 ?_ ?_
 refine aT (args:=[.ptr 0 0,.agg [.int .i64 (a.kind),.str a.name,.int .i64 (a.n),.imm (a.names.map aa.str),.imm (a.kids.map Ty.enc)],.agg [.int .i64 (b.kind),.str b.name,.int .i64 (b.n),.imm (b.names.map aa.str),.imm (b.kids.map Ty.enc)]]) (hs:=[.box [.int .i64 (((lv))),.map 1],mS m]) (hs':=[.box [.int .i64 ((((lv)))),.map 1],mS m']) (aM:=[a.bx,b.bx]) kq kq kq kq kq (GQ f a b (((lv))) m m' ok hsa hsb (((((u2 oq).2 oq).2 oq).2 (qJ aq aq)).1 oq) ihU) eL eL rfl eL eL kq ?_
 refine qR 1 [(6,.bool (ok))] [.box [.int .i64 ((((lv)))),.map 1],mS m',a.bx,b.bx] ?_ ?_
 refine bb kq ?_
 apply iR
 apply aR
 refine aL (l:=[.bool (ok)]) (.inr rfl) kq (by rfl) jn jn ?_ ?_
 refine Eq.trans (b:=[.box [.int .i64 ((((lv)))),.map 1],mS m']) kq ?_
 · rfl
 rotate_left
 iterate 3 kernel_rfl
 refine qf (beq_eq_false_iff_ne.2 hb10) ?_ ?_
 refine qk ?_ ?_
 refine ak ?_
 refine ab ?_
 refine qz [(0,.ptr 0 0),(4,.ptr 2 0),(5,.ptr 3 0)] ?_ ?_
 refine ar ?_ ?_
 refine cK cxM kq aB (bv ?_)
 refine qu 4 ?_ ?_
 by_cases hb11:(a.kind)=4
 refine fK 70 (.bool ((a.kind) != 4)) (.bool false) (fI aB) kq (congrArg aa.bool (bne_eq_false_iff_eq.2 hb11)) ?_
 refine fK 71 (.bool ((a.kind) != 4)) (.bool false) (fI aB) kq (congrArg aa.bool (bne_eq_false_iff_eq.2 hb11)) ?_
 refine qu 3 ?_ ?_
 refine qd ((ax (k:=.i64) (l:=a.kids) (enc:=Ty.enc) (i:=0) Ty.zero kq bf bX bg oq Ib).trans (congrArg (fun cs=>some (aa.pimm cs 0,_)) (aO (a.kids.getD 0 Ty.zero)))) ?_ ?_ ?_ ?_
 refine qu 3 ?_ ?_
 refine qd ((ax (k:=.i64) (l:=b.kids) (enc:=Ty.enc) (i:=0) Ty.zero kq bf bX bg oq Ib).trans (congrArg (fun cs=>some (aa.pimm cs 0,_)) (aO (b.kids.getD 0 Ty.zero)))) ?_ ?_ ?_ ?_
 refine qu 1 ?_ ?_
 refine cV (args:=[.ptr 0 0,.agg [.int .i64 ((a.kids.getD 0 Ty.zero).kind),.str (a.kids.getD 0 Ty.zero).name,.int .i64 ((a.kids.getD 0 Ty.zero).n),.imm ((a.kids.getD 0 Ty.zero).names.map aa.str),.imm ((a.kids.getD 0 Ty.zero).kids.map Ty.enc)],.agg [.int .i64 ((b.kids.getD 0 Ty.zero).kind),.str (b.kids.getD 0 Ty.zero).name,.int .i64 ((b.kids.getD 0 Ty.zero).n),.imm ((b.kids.getD 0 Ty.zero).names.map aa.str),.imm ((b.kids.getD 0 Ty.zero).kids.map Ty.enc)]]) (hs:=[.box [.int .i64 (((lv))),.map 1],mS m]) (hs':=[.box [.int .i64 ((((lv)))),.map 1],mS m']) (aM:=[a.bx,b.bx]) (L:=[0,1]) kq kq kq kq kq kq (ihU m (a.kids.getD 0 Ty.zero) (b.kids.getD 0 Ty.zero) ok m' (H4 ((((((u2 oq).2 oq).2 oq).2 (qJ aq aq)).2 oq).1 oq).1.1 hsa) (H4 ((((((u2 oq).2 oq).2 oq).2 (qJ aq aq)).2 oq).1 oq).1.2 hsb) ((((((u2 oq).2 oq).2 oq).2 (qJ aq aq)).2 oq).1 oq).2) eL eL rfl eL eL kq rfl rfl ?_
 refine qu 2 ?_ ?_
 refine cn kq ⟨kq,?_⟩
 refine ab ?_
 refine qZ [(6,.bool (ok))] [.box [.int .i64 ((((lv)))),.map 1],mS m',a.bx,b.bx] ?_ ?_
 refine bb kq ?_
 refine aL (l:=[.bool (ok)]) (.inr rfl) kq (by rfl) jn jn ?_ ?_
 refine Eq.trans (b:=[.box [.int .i64 ((((lv)))),.map 1],mS m']) kq ?_
 · rfl
 rotate_left
 iterate 11 kernel_rfl
 refine fK 70 (.bool ((a.kind) != 4)) (.bool true) (fI aB) kq (congrArg aa.bool (bne_iff_ne.2 hb11)) ?_
 refine fK 71 (.bool ((a.kind) != 4)) (.bool true) (fI aB) kq (congrArg aa.bool (bne_iff_ne.2 hb11)) ?_
 refine qu 12 ?_ ?_
 refine cn kq ⟨kq,?_⟩
 refine ab ?_
 refine qZ [(6,.bool true)] [.box [.int .i64 (((lv))),.map 1],mS m,a.bx,b.bx] ?_ ?_
 refine bb kq ?_
 refine aL (l:=[.bool true]) (.inr rfl) kq (by have e:=(((((u2 oq).2 oq).2 oq).2 (qJ aq aq)).2 oq).2 oq;rw [← e.1];rfl) jn jn ?_ ?_
 refine Eq.trans (b:=[.box [.int .i64 (((lv))),.map 1],mS m]) kq ?_
 · have e:=(((((u2 oq).2 oq).2 oq).2 (qJ aq aq)).2 oq).2 oq
   rw [← e.2];rfl
 rotate_left
 iterate 9 kernel_rfl
 refine qt (x:=(!(a.name==b.name))) (congrArg not (beq_eq_false_iff_ne.2 hb9)) ?_ ?_
 refine qU 1 [(6,.bool false)] ?_ ?_
 refine bb kq ?_
 apply iR
 apply aR
 refine aL (l:=[.bool false]) (.inr rfl) kq (by have e:=(((u2 oq).2 oq).2 oq).1 (.inr aq);rw [← e.1];rfl) jn jn ?_ ?_
 refine Eq.trans (b:=[.box [.int .i64 (((lv))),.map 1],mS m]) kq ?_
 · have e:=(((u2 oq).2 oq).2 oq).1 (.inr aq)
   rw [← e.2];rfl
 rotate_left
 iterate 4 kernel_rfl
 refine qm [52,53] (x:=((a.kind) != (b.kind))) (bne_iff_ne.2 hb8) ?_ ?_
 refine qR 7 [(0,.ptr 0 0),(4,.ptr 2 0),(5,.ptr 3 0),(47,.bool true)] [.box [.int .i64 (((lv))),.map 1],mS m,a.bx,b.bx] ?_ ?_
 refine cp kq kq ?_
 refine qU 1 [(6,.bool false)] ?_ ?_
 refine bb kq ?_
 apply iR
 apply aR
 refine aL (l:=[.bool false]) (.inr rfl) kq (by have e:=(((u2 oq).2 oq).2 oq).1 (.inl aq);rw [← e.1];rfl) jn jn ?_ ?_
 refine Eq.trans (b:=[.box [.int .i64 (((lv))),.map 1],mS m]) kq ?_
 · have e:=(((u2 oq).2 oq).2 oq).1 (.inl aq)
   rw [← e.2];rfl
 rotate_left
 iterate 21 kernel_rfl
 all_goals
  simp [ai.belO,hpS,Ty.v,Vr.v]
theorem oL {p:Prop} (h:p:=by simp [ai.belO,hpS,Ty.v,Vr.v]):p:=h
theorem EY {p:Prop} (h:p:=by intro _;simp [Ty.v,bm,Occ.v]):p:=h
theorem zo {p:Prop} (h:p:=by simp [aK]):p:=h
theorem Fc {p:Prop} (h:p:=by simp [Ty.v,a7]):p:=h
theorem pU (f:Nat) (p q:Ty) (lv:Int) (m m':St) (hp:p.sz<100000000) (hq:q.sz<100000000) (hm:dP m) (hhp:cD m p=true) (hhq:cD m q=true) (hb:bq f m p q=some (true,m')):av cx 23 [.ptr 0 0,Ty.v p,Ty.v q] (hpS lv m) (fun v h=>v=(.int .i64 0)∧h=hpS lv m'):=by
 refine ap (cx:=cx) 34 2 [(ResultVar.tmp 6)] Tryz.func23 rfl rfl rfl rfl rfl zq ?_
 show wpA cx 34 2 (at_ c23 []) _ _ _
 refine qZ [(0,.ptr 0 0),(1,Ty.v p),(2,Ty.v q)] [bS lv,mS m] ?_ ?_
 refine qW 3 [(0,.ptr 0 0),(4,.ptr 2 0),(5,.ptr 3 0)] [bS lv,mS m,p.bx,q.bx] ?_ ?_
 refine ar ?_ ?_
 refine qV 2 ?_ ?_
 refine aT (args:=[.ptr 0 0,.agg [.int .i64 (p.kind),.str p.name,.int .i64 (p.n),.imm (p.names.map aa.str),.imm (p.kids.map Ty.enc)]]) (hs:=[bS lv,mS m]) (hs':=[.box [.int .i64 ((lv)),.map 1],mS m]) (aM:=[p.bx,q.bx]) kq kq kq kq kq (tJ p (lv) m oq oq) oL oL rfl oL oL kq ?_
 refine qr 2 ?_ ?_
 by_cases hb1:(cD m p)=true
 refine qm [11,12] (x:=(!(cD m p))) (congrArg not (hb1)) ?_ ?_
 refine qr 2 ?_ ?_
 refine aT (args:=[.ptr 0 0,.agg [.int .i64 (q.kind),.str q.name,.int .i64 (q.n),.imm (q.names.map aa.str),.imm (q.kids.map Ty.enc)]]) (hs:=[.box [.int .i64 ((lv)),.map 1],mS m]) (hs':=[.box [.int .i64 (((lv))),.map 1],mS m]) (aM:=[p.bx,q.bx]) kq kq kq kq kq (tJ q ((lv)) m oq oq) oL oL rfl oL oL kq ?_
 refine qR 2 [(0,.ptr 0 0),(4,.ptr 2 0),(5,.ptr 3 0),(17,.bool (!(cD m q)))] [.box [.int .i64 (((lv))),.map 1],mS m,p.bx,q.bx] ?_ ?_
 by_cases hb2:(cD m q)=true
 refine qf (x:=(!(cD m q))) (congrArg not (hb2)) ?_ ?_
 refine qK ?_ ?_
 refine qz [(0,.ptr 0 0),(4,.ptr 2 0),(5,.ptr 3 0)] ?_ ?_
 refine qV 4 ?_ ?_
 refine cM (args:=[.map 1]) (v:=.map 4) (h':=[.box [.int .i64 (((lv))),.map 1],mS m,p.bx,q.bx,mS m]) [.box [.int .i64 (((lv))),.map 1],mS m,p.bx,q.bx] kq kq kq kq kq (mclone65 rfl) ?_
 refine qR 1 [(0,.ptr 0 0),(4,.ptr 2 0),(5,.ptr 3 0),(7,.map 4)] [.box [.int .i64 (((lv))),.map 1],mS m,p.bx,q.bx,mS m] ?_ ?_
 refine ar ?_ ?_
 refine ar ?_ ?_
 refine cK cxM kq aB (bv ?_)
 refine qu 2 ?_ ?_
 refine cB (args:=[.agg [.int .i64 (p.kind),.str p.name,.int .i64 (p.n),.imm (p.names.map aa.str),.imm (p.kids.map Ty.enc)]]) kq kq kq kq kq (ga p oq) EY (by simp [Ty.v]) Fc ?_
 refine qu 1 ?_ ?_
 refine cB (args:=[.agg [.int .i64 (q.kind),.str q.name,.int .i64 (q.n),.imm (q.names.map aa.str),.imm (q.kids.map Ty.enc)]]) kq kq kq kq kq (ga q oq) EY (by simp [Ty.v]) Fc ?_
 refine cV (args:=[.ptr 0 0,Ty.v p,Ty.v q]) (hs:=[.box [.int .i64 (((lv))),.map 1],mS m]) (hs':=[.box [.int .i64 ((((lv)))),.map 1],mS m']) (aM:=[p.bx,q.bx,mS m]) (L:=[0,1]) kq kq kq kq kq kq (A9 f p q (((lv))) m m' true oq oq hb) oL oL rfl oL oL kq rfl rfl ?_
 refine qu 1 ?_ ?_
 refine cn kq ⟨kq,?_⟩
 refine ab ?_
 refine qZ [(0,.ptr 0 0),(7,.map 4),(29,.bool false)] [.box [.int .i64 ((((lv)))),.map 1],mS m',p.bx,q.bx,mS m] ?_ ?_
 refine dY kq kq ?_
 refine qK ?_ ?_
 refine qz [] ?_ ?_
 refine qU 1 [(6,.int .i64 0)] ?_ ?_
 refine bb kq ?_
 refine aL (l:=[.int .i64 0]) (.inr rfl) kq (by rfl) zo zo ?_ ?_
 refine Eq.trans (b:=[.box [.int .i64 ((((lv)))),.map 1],mS m']) kq ?_
 · rfl
 · simp [ai.belO,hpS,Ty.v,Vr.v]
 iterate 14 kernel_rfl
 · exfalso;exact hb2 hhq
 iterate 3 kernel_rfl
 · exfalso;exact hb1 hhp
 iterate 5 kernel_rfl
theorem F5 {p:Prop} (h:p:=by simp [-List.map_append,-List.map_take,-List.map_drop,-List.append_assoc,aa.refs,cY,ai.refs,ai.isIter,kZ,Abs.renT,ee,lh,ai.ren,aa.ren,bV,List.idxOf_cons,xd,xI]):p:=h
theorem oE {p:Prop} (h:p:=by simp [ai.belO,hpV,Ty.v]):p:=h
theorem pQ (f:Nat) (p q:Ty) (lv:Int) (m m':St) (hp:p.sz<100000000) (hq:q.sz<100000000) (hm:dP m) (hhp:cD m p=true) (hhq:cD m q=true) (hb:bq f m p q=some (false,m')):av cx 23 [.ptr 0 0,Ty.v p,Ty.v q] [bS lv,mS m] (fun v h=>v=.int .i64 9∧h=[.box [.int .i64 (lv),.map 2],mS m',mS m]):=by
 refine dF (cx:=cx) 34 2 [(ResultVar.tmp 6)] Tryz.func23 rfl rfl rfl rfl rfl zq ?_
 show wpA cx 34 2 (at_ c23 []) _ _ _
 refine qZ [(0,.ptr 0 0),(1,Ty.v p),(2,Ty.v q)] [bS lv,mS m] ?_ ?_
 refine qW 3 [(0,.ptr 0 0),(4,.ptr 2 0),(5,.ptr 3 0)] [bS lv,mS m,p.bx,q.bx] ?_ ?_
 refine ar ?_ ?_
 refine qV 2 ?_ ?_
 refine aT (args:=[.ptr 0 0,.agg [.int .i64 (p.kind),.str p.name,.int .i64 (p.n),.imm (p.names.map aa.str),.imm (p.kids.map Ty.enc)]]) (hs:=[bS lv,mS m]) (hs':=[.box [.int .i64 ((lv)),.map 1],mS m]) (aM:=[p.bx,q.bx]) kq kq kq kq kq (tJ p (lv) m oq oq) oE oE rfl oE oE kq ?_
 refine qr 2 ?_ ?_
 by_cases hb1:(cD m p)=true
 refine qm [11,12] (x:=(!(cD m p))) (congrArg not (hb1)) ?_ ?_
 refine qr 2 ?_ ?_
 refine aT (args:=[.ptr 0 0,.agg [.int .i64 (q.kind),.str q.name,.int .i64 (q.n),.imm (q.names.map aa.str),.imm (q.kids.map Ty.enc)]]) (hs:=[.box [.int .i64 ((lv)),.map 1],mS m]) (hs':=[.box [.int .i64 (((lv))),.map 1],mS m]) (aM:=[p.bx,q.bx]) kq kq kq kq kq (tJ q ((lv)) m oq oq) oE oE rfl oE oE kq ?_
 refine qR 2 [(0,.ptr 0 0),(4,.ptr 2 0),(5,.ptr 3 0),(17,.bool (!(cD m q)))] [.box [.int .i64 (((lv))),.map 1],mS m,p.bx,q.bx] ?_ ?_
 by_cases hb2:(cD m q)=true
 refine qf (x:=(!(cD m q))) (congrArg not (hb2)) ?_ ?_
 refine qK ?_ ?_
 refine qz [(0,.ptr 0 0),(4,.ptr 2 0),(5,.ptr 3 0)] ?_ ?_
 refine qV 4 ?_ ?_
 refine cM (args:=[.map 1]) (v:=.map 4) (h':=[.box [.int .i64 (((lv))),.map 1],mS m,p.bx,q.bx,mS m]) [.box [.int .i64 (((lv))),.map 1],mS m,p.bx,q.bx] kq kq kq kq kq (mclone65 rfl) ?_
 refine qR 1 [(0,.ptr 0 0),(4,.ptr 2 0),(5,.ptr 3 0),(7,.map 4)] [.box [.int .i64 (((lv))),.map 1],mS m,p.bx,q.bx,mS m] ?_ ?_
 refine ar ?_ ?_
 refine ar ?_ ?_
 refine cK cxM kq aB (bv ?_)
 refine qu 2 ?_ ?_
 refine cB (args:=[.agg [.int .i64 (p.kind),.str p.name,.int .i64 (p.n),.imm (p.names.map aa.str),.imm (p.kids.map Ty.enc)]]) kq kq kq kq kq (ga p oq) EY (by simp [Ty.v]) Fc ?_
 refine qu 1 ?_ ?_
 refine cB (args:=[.agg [.int .i64 (q.kind),.str q.name,.int .i64 (q.n),.imm (q.names.map aa.str),.imm (q.kids.map Ty.enc)]]) kq kq kq kq kq (ga q oq) EY (by simp [Ty.v]) Fc ?_
 refine cV (args:=[.ptr 0 0,Ty.v p,Ty.v q]) (hs:=[.box [.int .i64 (((lv))),.map 1],mS m]) (hs':=[.box [.int .i64 ((((lv)))),.map 1],mS m']) (aM:=[p.bx,q.bx,mS m]) (L:=[0,1]) kq kq kq kq kq kq (A9 f p q (((lv))) m m' false oq oq hb) oE oE rfl oE oE kq rfl rfl ?_
 refine qu 1 ?_ ?_
 refine cn kq ⟨kq,?_⟩
 refine ab ?_
 refine qZ [(0,.ptr 0 0),(7,.map 4),(29,.bool true)] [.box [.int .i64 ((((lv)))),.map 1],mS m',p.bx,q.bx,mS m] ?_ ?_
 refine cp kq kq ?_
 refine qW 5 [] [.box [.int .i64 ((((lv)))),.map 4],mS m',p.bx,q.bx,mS m] ?_ ?_
 refine qU 1 [(6,.int .i64 9)] ?_ ?_
 refine GA [0,1,4] [(6,.int .i64 9)] [.box [.int .i64 ((((lv)))),.map 2],mS m',mS m] dq dq F5 F5 F5 F5 ?_
 refine qZ [(6,.int .i64 9)] [.box [.int .i64 ((((lv)))),.map 2],mS m',mS m] ?_ ?_
 refine bb kq ?_
 apply aR
 refine dV (l:=[.int .i64 9]) 3 [.box [.int .i64 ((((lv)))),.map 2],mS m',mS m] (.inr rfl) kq dq kq zo (by simp [ai.belO]) ?_
 · exact ⟨rfl,rfl⟩
 iterate 14 kernel_rfl
 · exfalso;exact hb2 hhq
 iterate 3 kernel_rfl
 · exfalso;exact hb1 hhp
 iterate 5 kernel_rfl
theorem vo {p:Prop} (h:p:=by simp [ai.belO,hpS,Ty.v]):p:=h
theorem bW (f:Nat) (p r:Ty) (lv:Int) (m:St) (hp:p.sz<100000000) (hm:dP m) (hhp:cD m p=true) (hr:dl f m p=some r):av cx 24 [.ptr 0 0,Ty.v p] (hpS lv m) (fun v h=>v=(Ty.v r)∧h=hpS lv m):=by
 refine ap (cx:=cx) 14 2 [(ResultVar.cell 4 25)] Tryz.func24 rfl rfl rfl rfl rfl zq ?_
 show wpA cx 14 2 (at_ c24 []) _ _ _
 refine qZ [(0,.ptr 0 0),(1,Ty.v p)] [bS lv,mS m] ?_ ?_
 refine qW 2 [(0,.ptr 0 0),(3,.ptr 2 0),(4,.ptr 3 0)] [bS lv,mS m,p.bx,.box zC] ?_ ?_
 refine ar ?_ ?_
 refine qV 2 ?_ ?_
 refine aT (args:=[.ptr 0 0,.agg [.int .i64 (p.kind),.str p.name,.int .i64 (p.n),.imm (p.names.map aa.str),.imm (p.kids.map Ty.enc)]]) (hs:=[bS lv,mS m]) (hs':=[.box [.int .i64 ((lv)),.map 1],mS m]) (aM:=[p.bx,.box zC]) kq kq kq kq kq (tJ p (lv) m oq oq) vo vo rfl vo vo kq ?_
 refine qR 1 [(0,.ptr 0 0),(3,.ptr 2 0),(4,.ptr 3 0),(8,.bool (!(cD m p)))] [.box [.int .i64 ((lv)),.map 1],mS m,p.bx,.box zC] ?_ ?_
 by_cases hb1:(cD m p)=true
 refine qf (x:=(!(cD m p))) (congrArg not (hb1)) ?_ ?_
 refine qK ?_ ?_
 refine qz [(0,.ptr 0 0),(3,.ptr 2 0),(4,.ptr 3 0)] ?_ ?_
 refine qV 2 ?_ ?_
 refine aT (args:=[.ptr 0 0,.agg [.int .i64 (p.kind),.str p.name,.int .i64 (p.n),.imm (p.names.map aa.str),.imm (p.kids.map Ty.enc)]]) (hs:=[.box [.int .i64 ((lv)),.map 1],mS m]) (hs':=[.box [.int .i64 (((lv))),.map 1],mS m]) (aM:=[p.bx,.box zC]) kq kq kq kq kq (tD f p r ((lv)) m oq hr) vo vo rfl vo vo kq ?_
 refine qR 1 [(4,.ptr 3 0)] [.box [.int .i64 (((lv))),.map 1],mS m,p.bx,r.bx] ?_ ?_
 refine bb kq ?_
 refine aL (l:=[.agg [.int .i64 (r.kind),.str r.name,.int .i64 (r.n),.imm (r.names.map aa.str),.imm (r.kids.map Ty.enc)]]) (.inr rfl) kq (by simp [aK,Ty.v,aa.frz,bo]) zo zo ?_ ?_
 refine Eq.trans (b:=[.box [.int .i64 (((lv))),.map 1],mS m]) kq ?_
 · rfl
 · simp [ai.belO,hpS,Ty.v]
 iterate 5 kernel_rfl
 · exfalso;exact hb1 hhp
 iterate 5 kernel_rfl
theorem Cj (l:Fd) :av cx 114 [.map 0] [.map (ae aa.str Ty.v l)] (fun v h=>v=.fn (.func 127) [] [.ptr 1 0]∧h=[.map (ae aa.str Ty.v l),.box [.map 0]]):=by
 refine dF (cx:=cx) 4 1 [(ResultVar.tmp 2)] Tryz.func114 rfl rfl rfl rfl rfl zq ?_
 show wpA cx 4 1 (at_ I9 []) _ _ _
 refine qZ [(0,.map 0)] [.map (ae aa.str Ty.v l)] ?_ ?_
 refine qW 2 [(1,.ptr 1 0)] [.map (ae aa.str Ty.v l),.box [.map 0]] ?_ ?_
 refine qU 2 [(2,.fn (.func 127) [] [.ptr 1 0])] ?_ ?_
 refine bb kq ?_
 refine dV (l:=[.fn (.func 127) [] [.ptr 1 0]]) 2 [.map (ae aa.str Ty.v l),.box [.map 0]] (.inr rfl) kq dq kq (by simp [aK,-List.map_append,-List.map_take,-List.map_drop,-List.append_assoc]) (by simp [ai.belO,-List.map_append,-List.map_take,-List.map_drop,-List.append_assoc]) ?_
 · exact ⟨rfl,rfl⟩
 iterate 3 kernel_rfl
theorem yY {l:Fd} {h:ac} (m o:Nat) (ho:h[o]?=some (.box [.map m])) (hm:h[m]?=some (.map (ae aa.str Ty.v l))) (hl:tT l) :
 av cx 113 [.fn (.func 127) [] [.ptr o 0]] h (fun v h'=>v=.imm ((aC (l.map Prod.fst)).map .str)∧h'=h):=by
 have e:(l.map fun p=>(p.1,p.2.v)).map (·.1)=l.map Prod.fst:=by simp [Function.comp_def]
 have:=gV vh (h:=h) (m:=m) (o:=o) (kv:=l.map fun p=>(p.1,p.2.v)) ho (by rw [hm];simp [ae,mK,Function.comp_def]) (by rw [e];exact hl.1)
  (fun p hp=>by obtain ⟨q,hq,rfl⟩:=List.mem_map.1 hp;exact hl.2.1 q hq) (by rw [List.length_map];have:=hl.2.2;omega)
 rw [e] at this
 exact this
theorem DS (l:List (List UInt8)) (hl:l.length<1000000000):ay cx 84 [.imm (l.map .str)] (.imm (l.map .str)):=jE (y7 l hl) (by rintro _ _ ⟨rfl,rfl⟩;simp [aa.frz]) zq
theorem Ja {p:Prop} (h:p:=by simp only [List.length_append,List.length_cons,List.length_nil];omega):p:=h
theorem zj (l:Fd) (n:Int) (hl:tT l):av cx 83 [.map 0,.int .i64 (n)] [.map (ae aa.str Ty.v l)] (fun v h=>v=(Ty.v (recT l n))∧h=[.map (ae aa.str Ty.v l)]):=by
 have hsl:=zi hl
 refine ap (cx:=cx) 30 1 [(ResultVar.cell 4 25)] Tryz.func83 rfl rfl rfl rfl rfl zq ?_
 show wpA cx 30 1 (at_ c83 []) _ _ _
 refine qZ [(0,.map 0),(1,.int .i64 (n))] [.map (ae aa.str Ty.v l)] ?_ ?_
 refine qW 1 [(0,.map 0),(1,.int .i64 (n)),(4,.ptr 1 0)] [.map (ae aa.str Ty.v l),.box zC] ?_ ?_
 refine qV 2 ?_ ?_
 refine cM (args:=[.map 0]) (v:=.fn (.func 127) [] [.ptr 2 0]) (h':=[.map (ae aa.str Ty.v l),.box zC,.box [.map 0]]) [.map (ae aa.str Ty.v l),.box zC] kq kq kq kq kq (ca [0] (Cj l) rfl dq zq (by simp [ai.belO]) (by simp [dB,ai.ren,bc,gG]) rfl (by simp [bV,aa.ren,bc]) (by simp [aa.ren,bV,bc]) (by simp [dv,cy,dB,ai.ren,bV,aa.ren,bc,gG])) ?_
 refine cM (args:=[.fn (.func 127) [] [.ptr 2 0]]) (v:=.imm ((aC (l.map Prod.fst)).map aa.str)) (h':=[.map (ae aa.str Ty.v l),.box zC,.box [.map 0]]) [.map (ae aa.str Ty.v l),.box zC,.box [.map 0]] kq kq kq kq kq (yY 0 2 rfl rfl hl) ?_
 refine qR 3 [(0,.map 0),(4,.ptr 1 0),(5,.ptr 3 0)] [.map (ae aa.str Ty.v l),.box zC,.box [.map 0],.box [.int .i64 5,.str [],.int .i64 (n),.imm ((aC (l.map Prod.fst)).map aa.str),.full []]] ?_ ?_
 refine mo 3 4 5 (cs:=[.int .i64 5,.str [],.int .i64 (n),.imm ((aC (l.map Prod.fst)).map aa.str),.full []]) [.int .i64 5,.str [],.int .i64 (n),.imm ((aC (l.map Prod.fst)).map aa.str),.own 4 0 0] dq kq kq kq ?_
 refine qZ [(0,.map 0),(4,.ptr 1 0),(5,.ptr 3 0)] [.map (ae aa.str Ty.v l),.box zC,.box [.map 0],.box [.int .i64 5,.str [],.int .i64 (n),.imm ((aC (l.map Prod.fst)).map aa.str),.own 4 0 0],.arr 5 (([]:List (Ty)).map Ty.enc) 0] ?_ ?_
 refine ar ?_ ?_
 refine qV 2 ?_ ?_
 refine qy (au (l:=(aC (l.map Prod.fst))) (enc:=aa.str) kq bi) ?_ ?_ ?_
 refine qR 1 [(0,.map 0),(4,.ptr 1 0),(5,.ptr 3 0),(14,.imm ((aC (l.map Prod.fst)).map aa.str)),(15,nI ((aC (l.map Prod.fst)).length)),(16,.int .i64 0)] [.map (ae aa.str Ty.v l),.box zC,.box [.map 0],.box [.int .i64 5,.str [],.int .i64 (n),.imm ((aC (l.map Prod.fst)).map aa.str),.own 4 0 0],.arr 5 (([]:List (Ty)).map Ty.enc) 0] ?_ ?_
 refine qB 0 ?_ ?_ ?_
 refine bR (σ:=Nat) (fun k=>[(0,.map 0),(4,.ptr 1 0),(5,.ptr 3 0),(14,.imm ((aC (l.map Prod.fst)).map aa.str)),(15,.int .i64 (((aC (l.map Prod.fst)).length:Nat):Int)),(16,.int .i64 ((k:Nat):Int))]) (fun k=>[.map (ae aa.str Ty.v l),.box zC,.box [.map 0],.box [.int .i64 5,.str [],.int .i64 (n),.imm ((aC (l.map Prod.fst)).map aa.str),.own 4 0 (b5 l k).length],.arr 5 ((b5 l k).map Ty.enc) 0]) (fun k=>k≤(aC (l.map Prod.fst)).length) (fun k=>(aC (l.map Prod.fst)).length - k) 0 kq (by exact Nat.zero_le _) ⟨⟨kq,kq,kq,kq,kq,kq,trivial⟩,by simp [aV,aa.bel],by simp,kq,by simp [ai.belO,bM,Ty.enc_v]⟩ ?_
 rintro k hk
 have hrl:=wH l k hk
 refine qW 1 [(0,.map 0),(4,.ptr 1 0),(5,.ptr 3 0),(14,.imm ((aC (l.map Prod.fst)).map aa.str)),(15,nI ((aC (l.map Prod.fst)).length)),(16,nI k),(17,.bool (decide (((k:Nat):Int)<(((aC (l.map Prod.fst)).length:Nat):Int))))] [.map (ae aa.str Ty.v l),.box zC,.box [.map 0],.box [.int .i64 5,.str [],.int .i64 (n),.imm ((aC (l.map Prod.fst)).map aa.str),.own 4 0 (b5 l k).length],.arr 5 ((b5 l k).map Ty.enc) 0] ?_ ?_
 refine ar ?_ ?_
 by_cases hb1:((k:Nat):Int)<(((aC (l.map Prod.fst)).length:Nat):Int)
 refine qt (decide_eq_true hb1) ?_ ?_
 refine qK ?_ ?_
 refine qz [(0,.map 0),(4,.ptr 1 0),(5,.ptr 3 0),(14,.imm ((aC (l.map Prod.fst)).map aa.str)),(15,nI ((aC (l.map Prod.fst)).length)),(16,nI k)] ?_ ?_
 refine ar ?_ ?_
 refine qB 1 ?_ ?_ ?_
 refine qO ?_ ?_
 refine qy (ax (k:=.i64) (l:=(aC (l.map Prod.fst))) (enc:=aa.str) (i:=((k:Nat):Int)) [] kq bi ty9 (fun _=>rfl) oq oq) ?_ ?_ ?_
 refine qR 2 [(0,.map 0),(4,.ptr 1 0),(5,.ptr 3 0),(7,.str ((aC (l.map Prod.fst)).getD k [])),(14,.imm ((aC (l.map Prod.fst)).map aa.str)),(15,nI ((aC (l.map Prod.fst)).length)),(16,nI k)] [.map (ae aa.str Ty.v l),.box zC,.box [.map 0],.box [.int .i64 5,.str [],.int .i64 (n),.imm ((aC (l.map Prod.fst)).map aa.str),.own 4 0 (b5 l k).length],.arr 5 ((b5 l k).map Ty.enc) 0] ?_ ?_
 refine qo ?_ ?_
 refine qr 4 ?_ ?_
 rcases hm2:am ((aC (l.map Prod.fst)).getD k []) l with _|x2
 · exact absurd hm2 (te oq)
 refine qy (cH (ok:=false) (o:=0) (ek:=aa.str) (ev:=Ty.v) (l:=l) (k:=((aC (l.map Prod.fst)).getD k [])) (x:=x2) pw hm2 kq sw ty9 rfl bX kq) ?_ ?_ ?_
 refine qr 1 ?_ ?_
 refine qY (bh (o:=4) (len:=((b5 l k).length)) (l:=(b5 l k)) (xs:=[x2]) (enc:=Ty.enc) (sz:=5) (fr:=0) (x:=(.full [Ty.v x2])) kq bf bX bf rfl kq rfl rfl (Eq.trans (b:=some [Ty.v x2]) kq (by simp [Ty.enc_v])) ⟨by decide,by kernel_rfl⟩ gQ Ja Ja) ?_ ?_ ?_
 refine qr 2 ?_ ?_
 refine qe ?_ ?_
 refine ak ?_
 refine ab ?_
 refine qZ [(0,.map 0),(4,.ptr 1 0),(5,.ptr 3 0),(14,.imm ((aC (l.map Prod.fst)).map aa.str)),(15,nI ((aC (l.map Prod.fst)).length)),(16,nI k)] [.map (ae aa.str Ty.v l),.box zC,.box [.map 0],.box [.int .i64 5,.str [],.int .i64 (n),.imm ((aC (l.map Prod.fst)).map aa.str),.own 4 0 ((b5 l k)++[x2]).length],.arr 5 (((b5 l k)++[x2]).map Ty.enc) 0] ?_ ?_
 refine qo ?_ ?_
 refine qy (aN (a:=((k:Nat):Int)) (b:=1) kq oq oq) ?_ ?_ ?_
 refine qr 1 ?_ ?_
 refine qe ?_ ?_
 refine ab ⟨k+1,?_,?_,⟨⟨kq,kq,kq,kq,kq,kq,trivial⟩,by simp [aV,aa.bel],by simp,(Eq.trans (b:=[.map (ae aa.str Ty.v l),.box zC,.box [.map 0],.box [.int .i64 5,.str [],.int .i64 (n),.imm ((aC (l.map Prod.fst)).map aa.str),.own 4 0 ((b5 l k)++[x2]).length],.arr 5 (((b5 l k)++[x2]).map Ty.enc) 0]) kq (by rw [sE oq aq])),by simp [ai.belO,bM,Ty.enc_v]⟩⟩
 · omega
 · omega
 iterate 25 kernel_rfl
 refine qf (decide_eq_false hb1) ?_ ?_
 refine bC 0 kq kq ?_
 refine af ?_
 refine af ?_
 refine aA ?_
 refine ab ?_
 refine qz [(4,.ptr 1 0),(5,.ptr 3 0)] ?_ ?_
 refine sD 3 4 4 (cs:=[.int .i64 5,.str [],.int .i64 (n),.imm ((aC (l.map Prod.fst)).map aa.str),.own 4 0 (b5 l k).length]) (es:=((b5 l k).map Ty.enc)) (off:=0) (len:=((b5 l k).length)) (sz:=5) (fr:=0) [.int .i64 5,.str [],.int .i64 (n),.imm ((aC (l.map Prod.fst)).map aa.str),.imm ((b5 l k).map Ty.enc)] ((b5 l k).map Ty.enc) dq kq kq kq zq kq kq ?_
 refine qZ [(4,.ptr 1 0),(5,.ptr 3 0)] [.map (ae aa.str Ty.v l),.box zC,.box [.map 0],.box [.int .i64 5,.str [],.int .i64 (n),.imm ((aC (l.map Prod.fst)).map aa.str),.imm ((b5 l k).map Ty.enc)],.arr 5 ((b5 l k).map Ty.enc) ((b5 l k).map Ty.enc).length] ?_ ?_
 refine qW 2 [(4,.ptr 1 0)] [.map (ae aa.str Ty.v l),.box [.int .i64 5,.str [],.int .i64 (n),.imm ((aC (l.map Prod.fst)).map aa.str),.imm ((b5 l k).map Ty.enc)],.box [.map 0],.box [.int .i64 5,.str [],.int .i64 (n),.imm ((aC (l.map Prod.fst)).map aa.str),.imm ((b5 l k).map Ty.enc)],.arr 5 ((b5 l k).map Ty.enc) ((b5 l k).map Ty.enc).length] ?_ ?_
 refine bb kq ?_
 refine aL (l:=[.agg [.int .i64 5,.str [],.int .i64 (n),.imm ((aC (l.map Prod.fst)).map aa.str),.imm ((b5 l k).map Ty.enc)]]) (.inr rfl) kq (by have hkk:k=(aC (l.map Prod.fst)).length:=oq;subst hkk;simp [Ty.v,aa.frz,bo,aK,recT]) zo zo ?_ ?_
 refine Eq.trans (b:=[.map (ae aa.str Ty.v l)]) kq ?_
 · rfl
 · simp [ai.belO,hpV,Ty.v]
 iterate 18 kernel_rfl
def dX (ns:List (List UInt8)) (ks:List Ty):Ty:=.mk 5 [] 0 ns ks
def lr (lv:Int) (m:St) (ns:List (List UInt8)):St:=aJ ((((m.length+1):Nat):Int)) ⟨true,lv,false,Ty.zero,ns⟩ m
def E3 (lv:Int) (m:St):St:=aJ ((((m.length+1):Nat):Int)) ⟨false,lv,false,Ty.zero,[]⟩ m
structure HZ (m:St) (ns:List (List UInt8)) (ks:List Ty):Prop where
 len:ns.length=ks.length
 low:∀ i,i<ns.length→cu 2 (ns.getD i [])=true
 has:∀ i,i<ns.length→cD m (ks.getD i Ty.zero)=true
 nd:ns.Nodup
theorem E1 {ns:List (List UInt8)} {ks:List Ty} {k:Nat} (hl:ns.length=ks.length) (hn:ns.Nodup) (hk:k<ns.length):am (ns.getD k []) (bU [] (dX ns ks) k)=none:=by
 cases hm:am (ns.getD k []) (bU [] (dX ns ks) k) with
 | none=>rfl
 | some x =>
  exfalso
  have key:∀ (z l:Fd) (q:List UInt8×Ty),q∈z.foldl (fun l p=>aJ p.1 p.2 l) l→q∈z∨q∈l:=fun z l q=>nz z l
  rcases key _ _ _ (hY hm) with h|h
  · obtain ⟨i,hi,e⟩:=List.getElem_of_mem h
    rw [List.length_take,List.length_zip] at hi
    rw [List.getElem_take,List.getElem_zip] at e
    have e1:=(Prod.mk.inj e).1
    have hi':i<ns.length:=by have h1:(dX ns ks).names=ns:=rfl;have h2:(dX ns ks).kids=ks:=rfl;rw [h1,h2] at hi;omega
    rw [List.getD_eq_getElem?_getD,List.getElem?_eq_getElem hk] at e1
    have:=(List.getElem_inj hn).1 (show ns[i]=ns[k] from e1)
    omega
  · simp at h
theorem wc {l:Fd} {t:Ty} (h:fdI l):∀ k,(bU l t k).length≤l.length+k
 | 0=>by unfold bU;simp
 | k+1=>by
  have ih:=wc (t:=t) h k
  by_cases hk:k<(t.names.zip t.kids).length
  · have e:bU l t (k+1)=aJ (t.names.zip t.kids)[k].1 (t.names.zip t.kids)[k].2 (bU l t k):=by
     unfold bU
     rw [List.take_succ_eq_append_getElem hk,List.foldl_append];rfl
    rw [e]
    have h2:=fV (t.names.zip t.kids)[k].1 (t.names.zip t.kids)[k].2 (bU l t k)
    have h3:=congrArg List.length h2
    rw [List.length_map] at h3
    rw [h3]
    split <;> simp <;> omega
  · have e:bU l t (k+1)=bU l t k:=by unfold bU;rw [List.take_of_length_le oq,List.take_of_length_le oq]
    rw [e];omega
theorem Gb {ns:List (List UInt8)} {ks:List Ty} (hl:ns.length=ks.length) (hn:ns.length<100000000) (hb:∀ i,(ns.getD i []).length<100000000):tT (dz [] (dX ns ks)):=by
 refine ⟨dp _ zq,fun p hp=>?_,?_⟩
 · rcases eJ hp with h|h
   · obtain ⟨i,hi,e⟩:=List.getElem_of_mem h.1
     have:=hb i
     rw [List.getD_eq_getElem?_getD,List.getElem?_eq_getElem (show i<ns.length from hi)] at this
     rw [← e]
     exact Nat.le_trans (Nat.le_of_lt this) dq
   · simp at h
 · have:=wc (t:=dX ns ks) z7 ns.length
   rw [iJ (show (dX ns ks).names.length≤ns.length from Nat.le_refl _)] at this
   simp only [List.length_nil] at this
   omega
def bY (ns:List (List UInt8)) (ks:List Ty) (n:Int):Ty:=recT (dz [] (dX ns ks)) n
theorem xZ {p:Prop} (h:p:=by simp [ai.belO,Ty.v,hpS]):p:=h
theorem tf (ns:List (List UInt8)) (ks:List Ty) (lv:Int) (m:St) (hn:ns.length<100000000) (hnl:∀ i,(ns.getD i []).length<100000000) (hks:∀ i,(ks.getD i Ty.zero).sz<100000000) (hm:dP m) (hml:m.length<100000000) (hI:HZ m ns ks):av cx 36 [.ptr 0 0,.imm (ns.map aa.str),.imm (ks.map Ty.enc)] (hpS lv m) (fun v h=>v=(.tup [Ty.v (bY ns ks (((m.length+1:Nat)):Int)),.int .i64 0])∧h=hpS lv (lr lv m (bY ns ks 0).names)):=by
 have hfd:=Gb hI.len hn hnl
 have hfl:(bY ns ks 0).names.length<100000000:=zi hfd
 have hil:=hI.len
 refine ap (cx:=cx) 76 2 [(ResultVar.cell 6 25),(ResultVar.tmp 7)] Tryz.func36 rfl rfl rfl rfl rfl zq ?_
 show wpA cx 76 2 (at_ c36 []) _ _ _
 refine qZ [(0,.ptr 0 0),(1,.imm (ns.map aa.str)),(2,.imm (ks.map Ty.enc))] [bS lv,mS m] ?_ ?_
 refine qW 2 [(0,.ptr 0 0),(1,.imm (ns.map aa.str)),(2,.imm (ks.map Ty.enc)),(6,.ptr 2 0)] [bS lv,mS m,.box zC] ?_ ?_
 refine ar ?_ ?_
 refine qV 1 ?_ ?_
 refine qy (au (l:=ns) (enc:=aa.str) kq bi) ?_ ?_ ?_
 refine qr 1 ?_ ?_
 refine qy (au (l:=ks) (enc:=Ty.enc) kq bf) ?_ ?_ ?_
 refine qR 1 [(0,.ptr 0 0),(1,.imm (ns.map aa.str)),(2,.imm (ks.map Ty.enc)),(6,.ptr 2 0),(19,.bool (((ns.length:Nat):Int) != ((ks.length:Nat):Int)))] [bS lv,mS m,.box zC] ?_ ?_
 by_cases hb1:((ns.length:Nat):Int)=((ks.length:Nat):Int)
 refine qf (x:=(((ns.length:Nat):Int) != ((ks.length:Nat):Int))) (bne_eq_false_iff_eq.2 hb1) ?_ ?_
 refine qK ?_ ?_
 refine qz [(0,.ptr 0 0),(1,.imm (ns.map aa.str)),(2,.imm (ks.map Ty.enc)),(6,.ptr 2 0)] ?_ ?_
 refine qW 2 [(0,.ptr 0 0),(1,.imm (ns.map aa.str)),(2,.imm (ks.map Ty.enc)),(6,.ptr 2 0),(8,.map 3)] [bS lv,mS m,.box zC,.map (ae aa.str Ty.v ([]:List (List UInt8×Ty)))] ?_ ?_
 refine qU 1 [(0,.ptr 0 0),(1,.imm (ns.map aa.str)),(2,.imm (ks.map Ty.enc)),(6,.ptr 2 0),(8,.map 3),(9,.bool false)] ?_ ?_
 refine ar ?_ ?_
 refine qV 1 ?_ ?_
 refine qy (au (l:=ns) (enc:=aa.str) kq bi) ?_ ?_ ?_
 refine qR 1 [(0,.ptr 0 0),(2,.imm (ks.map Ty.enc)),(6,.ptr 2 0),(8,.map 3),(9,.bool false),(22,.imm (ns.map aa.str)),(23,nI ns.length),(24,.int .i64 0)] [bS lv,mS m,.box zC,.map (ae aa.str Ty.v ([]:List (List UInt8×Ty)))] ?_ ?_
 refine qB 0 ?_ ?_ ?_
 refine bR (σ:=Nat) (fun k=>[(0,.ptr 0 0),(2,.imm (ks.map Ty.enc)),(6,.ptr 2 0),(8,.map 3),(9,.bool false),(22,.imm (ns.map aa.str)),(23,.int .i64 ((ns.length:Nat):Int)),(24,.int .i64 ((k:Nat):Int))]) (fun k=>[bS lv,mS m,.box zC,.map (ae aa.str Ty.v (bU [] (dX ns ks) k))]) (fun k=>k≤ns.length) (fun k=>ns.length - k) 0 kq (by exact Nat.zero_le _) ⟨⟨kq,kq,kq,kq,kq,kq,kq,kq,trivial⟩,by simp [aV,aa.bel],by simp,(Eq.trans (b:=[bS lv,mS m,.box zC,.map (ae aa.str Ty.v ([]:List (List UInt8×Ty)))]) kq (by rfl)),by simp [ai.belO]⟩ ?_
 rintro k hk
 refine qW 1 [(0,.ptr 0 0),(2,.imm (ks.map Ty.enc)),(6,.ptr 2 0),(8,.map 3),(9,.bool false),(22,.imm (ns.map aa.str)),(23,nI ns.length),(24,nI k),(25,.bool (decide (((k:Nat):Int)<((ns.length:Nat):Int))))] [bS lv,mS m,.box zC,.map (ae aa.str Ty.v (bU [] (dX ns ks) k))] ?_ ?_
 refine ar ?_ ?_
 by_cases hb2:((k:Nat):Int)<((ns.length:Nat):Int)
 refine qt (decide_eq_true hb2) ?_ ?_
 refine qK ?_ ?_
 refine qz [(0,.ptr 0 0),(2,.imm (ks.map Ty.enc)),(6,.ptr 2 0),(8,.map 3),(9,.bool false),(22,.imm (ns.map aa.str)),(23,nI ns.length),(24,nI k)] ?_ ?_
 refine ar ?_ ?_
 refine qB 1 ?_ ?_ ?_
 refine qV 1 ?_ ?_
 refine qy (ax (k:=.i64) (l:=ns) (enc:=aa.str) (i:=((k:Nat):Int)) [] kq bi ty9 (fun _=>rfl) oq oq) ?_ ?_ ?_
 refine qR 3 [(0,.ptr 0 0),(2,.imm (ks.map Ty.enc)),(6,.ptr 2 0),(8,.map 3),(9,.bool false),(10,nI k),(11,.str (ns.getD k [])),(22,.imm (ns.map aa.str)),(23,nI ns.length),(24,nI k)] [bS lv,mS m,.box zC,.map (ae aa.str Ty.v (bU [] (dX ns ks) k))] ?_ ?_
 refine ar ?_ ?_
 refine qV 1 ?_ ?_
 refine qc [.str (ns.getD k [])] (jr (ns.getD k []) (by have:=hnl k;omega)) ?_ ?_
 refine qr 2 ?_ ?_
 by_cases hb3:(cu 2 (ns.getD k []))=true
 refine qm [31,32] (x:=(!(cu 2 (ns.getD k [])))) (congrArg not (hb3)) ?_ ?_
 refine qr 3 ?_ ?_
 refine qy ((ax (k:=.i64) (l:=ks) (enc:=Ty.enc) (i:=((k:Nat):Int)) Ty.zero kq bf bX bg oq oq).trans (congrArg (fun cs=>some (aa.pimm cs 0,_)) (aO (ks.getD k Ty.zero)))) ?_ ?_ ?_
 refine qr 1 ?_ ?_
 refine aT (args:=[.ptr 0 0,.agg [.int .i64 ((ks.getD k Ty.zero).kind),.str (ks.getD k Ty.zero).name,.int .i64 ((ks.getD k Ty.zero).n),.imm ((ks.getD k Ty.zero).names.map aa.str),.imm ((ks.getD k Ty.zero).kids.map Ty.enc)]]) (hs:=[bS lv,mS m]) (hs':=[.box [.int .i64 ((lv)),.map 1],mS m]) (aM:=[.box zC,.map (ae aa.str Ty.v (bU [] (dX ns ks) k))]) kq kq kq kq kq (tJ (ks.getD k Ty.zero) (lv) m (hks _) oq) xZ xZ rfl xZ xZ kq ?_
 refine qR 2 [(0,.ptr 0 0),(2,.imm (ks.map Ty.enc)),(6,.ptr 2 0),(8,.map 3),(9,.bool false),(10,nI k),(11,.str (ns.getD k [])),(22,.imm (ns.map aa.str)),(23,nI ns.length),(24,nI k),(33,.ptr 0 0),(34,.imm (ks.map Ty.enc)),(35,nI k),(36,.pimm [.int .i64 ((ks.getD k Ty.zero).kind),.str (ks.getD k Ty.zero).name,.int .i64 ((ks.getD k Ty.zero).n),.imm ((ks.getD k Ty.zero).names.map aa.str),.imm ((ks.getD k Ty.zero).kids.map Ty.enc)] 0),(37,.agg [.int .i64 ((ks.getD k Ty.zero).kind),.str (ks.getD k Ty.zero).name,.int .i64 ((ks.getD k Ty.zero).n),.imm ((ks.getD k Ty.zero).names.map aa.str),.imm ((ks.getD k Ty.zero).kids.map Ty.enc)]),(38,.bool (cD m (ks.getD k Ty.zero))),(39,.bool (!(cD m (ks.getD k Ty.zero)))),(40,.bool (!(cD m (ks.getD k Ty.zero))))] [.box [.int .i64 ((lv)),.map 1],mS m,.box zC,.map (ae aa.str Ty.v (bU [] (dX ns ks) k))] ?_ ?_
 by_cases hb4:(cD m (ks.getD k Ty.zero))=true
 refine qf (x:=(!(cD m (ks.getD k Ty.zero)))) (congrArg not (hb4)) ?_ ?_
 refine qK ?_ ?_
 refine qz [(0,.ptr 0 0),(2,.imm (ks.map Ty.enc)),(6,.ptr 2 0),(8,.map 3),(9,.bool false),(10,nI k),(11,.str (ns.getD k [])),(22,.imm (ns.map aa.str)),(23,nI ns.length),(24,nI k),(33,.ptr 0 0),(34,.imm (ks.map Ty.enc)),(35,nI k),(36,.pimm [.int .i64 ((ks.getD k Ty.zero).kind),.str (ks.getD k Ty.zero).name,.int .i64 ((ks.getD k Ty.zero).n),.imm ((ks.getD k Ty.zero).names.map aa.str),.imm ((ks.getD k Ty.zero).kids.map Ty.enc)] 0),(37,.agg [.int .i64 ((ks.getD k Ty.zero).kind),.str (ks.getD k Ty.zero).name,.int .i64 ((ks.getD k Ty.zero).n),.imm ((ks.getD k Ty.zero).names.map aa.str),.imm ((ks.getD k Ty.zero).kids.map Ty.enc)]),(38,.bool (cD m (ks.getD k Ty.zero))),(39,.bool (!(cD m (ks.getD k Ty.zero))))] ?_ ?_
 refine qV 2 ?_ ?_
 rcases hm5:am (ns.getD k []) (bU [] (dX ns ks) k) with _|x5
 refine qy (e8 (ok:=true) (o:=3) (ek:=aa.str) (ev:=Ty.v) (l:=(bU [] (dX ns ks) k)) (k:=(ns.getD k [])) pw hm5 kq sw ty9 rfl bX kq) ?_ ?_ ?_
 refine qR 6 [(0,.ptr 0 0),(2,.imm (ks.map Ty.enc)),(6,.ptr 2 0),(8,.map 3),(9,.bool false),(10,nI k),(11,.str (ns.getD k [])),(13,.bool false),(22,.imm (ns.map aa.str)),(23,nI ns.length),(24,nI k),(33,.ptr 0 0),(34,.imm (ks.map Ty.enc)),(35,nI k),(36,.pimm [.int .i64 ((ks.getD k Ty.zero).kind),.str (ks.getD k Ty.zero).name,.int .i64 ((ks.getD k Ty.zero).n),.imm ((ks.getD k Ty.zero).names.map aa.str),.imm ((ks.getD k Ty.zero).kids.map Ty.enc)] 0),(37,.agg [.int .i64 ((ks.getD k Ty.zero).kind),.str (ks.getD k Ty.zero).name,.int .i64 ((ks.getD k Ty.zero).n),.imm ((ks.getD k Ty.zero).names.map aa.str),.imm ((ks.getD k Ty.zero).kids.map Ty.enc)]),(38,.bool (cD m (ks.getD k Ty.zero))),(39,.bool (!(cD m (ks.getD k Ty.zero))))] [.box [.int .i64 ((lv)),.map 1],mS m,.box zC,.map (ae aa.str Ty.v (bU [] (dX ns ks) k)),.box zC] ?_ ?_
 refine qU 5 [(0,.ptr 0 0),(2,.imm (ks.map Ty.enc)),(6,.ptr 2 0),(8,.map 3),(9,.bool false),(10,nI k),(11,.str (ns.getD k [])),(22,.imm (ns.map aa.str)),(23,nI ns.length),(24,nI k),(33,.ptr 0 0),(34,.imm (ks.map Ty.enc)),(35,nI k),(36,.pimm [.int .i64 ((ks.getD k Ty.zero).kind),.str (ks.getD k Ty.zero).name,.int .i64 ((ks.getD k Ty.zero).n),.imm ((ks.getD k Ty.zero).names.map aa.str),.imm ((ks.getD k Ty.zero).kids.map Ty.enc)] 0),(37,.agg [.int .i64 ((ks.getD k Ty.zero).kind),.str (ks.getD k Ty.zero).name,.int .i64 ((ks.getD k Ty.zero).n),.imm ((ks.getD k Ty.zero).names.map aa.str),.imm ((ks.getD k Ty.zero).kids.map Ty.enc)]),(38,.bool (cD m (ks.getD k Ty.zero))),(39,.bool (!(cD m (ks.getD k Ty.zero)))),(50,.bool false)] ?_ ?_
 refine qo ?_ ?_
 refine qr 4 ?_ ?_
 refine qy ((ax (k:=.i64) (l:=ks) (enc:=Ty.enc) (i:=((k:Nat):Int)) Ty.zero kq bf bX bg oq oq).trans (congrArg (fun cs=>some (aa.pimm cs 0,_)) (aO (ks.getD k Ty.zero)))) ?_ ?_ ?_
 refine qr 1 ?_ ?_
 refine bp (args:=[.agg [.int .i64 ((ks.getD k Ty.zero).kind),.str (ks.getD k Ty.zero).name,.int .i64 ((ks.getD k Ty.zero).n),.imm ((ks.getD k Ty.zero).names.map aa.str),.imm ((ks.getD k Ty.zero).kids.map Ty.enc)]]) kq kq kq kq (ga (ks.getD k Ty.zero) (hks _)) (by simp [Ty.v,bm,Occ.v]) (by simp [Ty.v]) (by simp [Ty.v,a7]) ?_
 refine qY (dc (o:=3) (ek:=aa.str) (ev:=Ty.v) (l:=(bU [] (dX ns ks) k)) (k:=(ns.getD k [])) (x:=(ks.getD k Ty.zero)) pw kq sw ty9 rfl kq kq) ?_ ?_ ?_
 refine qe ?_ ?_
 refine ak ?_
 refine ab ?_
 refine qZ [(0,.ptr 0 0),(2,.imm (ks.map Ty.enc)),(6,.ptr 2 0),(8,.map 3),(9,.bool false),(22,.imm (ns.map aa.str)),(23,nI ns.length),(24,nI k),(33,.ptr 0 0),(34,.imm (ks.map Ty.enc)),(35,nI k),(36,.pimm [.int .i64 ((ks.getD k Ty.zero).kind),.str (ks.getD k Ty.zero).name,.int .i64 ((ks.getD k Ty.zero).n),.imm ((ks.getD k Ty.zero).names.map aa.str),.imm ((ks.getD k Ty.zero).kids.map Ty.enc)] 0),(37,.agg [.int .i64 ((ks.getD k Ty.zero).kind),.str (ks.getD k Ty.zero).name,.int .i64 ((ks.getD k Ty.zero).n),.imm ((ks.getD k Ty.zero).names.map aa.str),.imm ((ks.getD k Ty.zero).kids.map Ty.enc)]),(38,.bool (cD m (ks.getD k Ty.zero))),(39,.bool (!(cD m (ks.getD k Ty.zero)))),(50,.bool false)] [.box [.int .i64 ((lv)),.map 1],mS m,.box zC,.map (ae aa.str Ty.v (aJ (ns.getD k []) (ks.getD k Ty.zero) (bU [] (dX ns ks) k))),.box zC] ?_ ?_
 refine qo ?_ ?_
 refine qy (aN (a:=((k:Nat):Int)) (b:=1) kq oq oq) ?_ ?_ ?_
 refine qr 1 ?_ ?_
 refine qe ?_ ?_
 refine ab ⟨k+1,?_,?_,⟨⟨kq,kq,kq,kq,kq,kq,kq,kq,trivial⟩,by simp [aV,aa.bel],by simp,(Eq.trans (b:=[.box [.int .i64 ((lv)),.map 1],mS m,.box zC,.map (ae aa.str Ty.v (aJ (ns.getD k []) (ks.getD k Ty.zero) (bU [] (dX ns ks) k)))]) kq (by rw [← ti (l:=[]) (t:=dX ns ks) (k:=k) (show k<ns.length by omega) hI.len];rfl)),by simp [ai.belO]⟩⟩
 · omega
 · omega
 iterate 18 kernel_rfl
 · exact absurd ((hm5).symm.trans (E1 hI.len hI.nd oq)) zq
 iterate 4 kernel_rfl
 · exfalso;exact hb4 (hI.has k oq)
 iterate 6 kernel_rfl
 · exfalso;exact hb3 (hI.low k oq)
 iterate 14 kernel_rfl
 refine qf (decide_eq_false hb2) ?_ ?_
 refine bC 0 kq kq ?_
 refine af ?_
 refine af ?_
 refine aA ?_
 refine ab ?_
 refine qz [(0,.ptr 0 0),(6,.ptr 2 0),(8,.map 3),(9,.bool false)] ?_ ?_
 refine ar ?_ ?_
 refine qU 1 [(0,.ptr 0 0),(6,.ptr 2 0),(8,.map 3),(60,.bool false)] ?_ ?_
 refine dY kq kq ?_
 refine qK ?_ ?_
 refine qz [(0,.ptr 0 0),(6,.ptr 2 0),(8,.map 3)] ?_ ?_
 refine qV 1 ?_ ?_
 refine cM (args:=[.map 3,.int .i64 0]) (v:=Ty.v (bY ns ks 0)) (h':=[bS lv,mS m,.box zC,.map (ae aa.str Ty.v (bU [] (dX ns ks) k))]) [bS lv,mS m,.box zC,.map (ae aa.str Ty.v (bU [] (dX ns ks) k))] kq kq kq kq kq (ca [3] (zj (dz [] (dX ns ks)) 0 hfd) rfl dq zq (by simp [ai.belO]) (by rw [← iJ (l:=[]) (t:=dX ns ks) (k:=k) (show ns.length≤k by omega)];simp [dB,ai.ren,bc,gG]) rfl (by simp [bV,aa.ren,bc]) (by simp [Ty.v,aa.ren,bV,bY]) (by rw [← iJ (l:=[]) (t:=dX ns ks) (k:=k) (show ns.length≤k by omega)];simp [dv,cy,dB,ai.ren,bV,aa.ren,bc,gG])) ?_
 refine qR 2 [(0,.ptr 0 0),(6,.ptr 2 0),(14,.ptr 4 0)] [bS lv,mS m,.box zC,.map (ae aa.str Ty.v (bU [] (dX ns ks) k)),(bY ns ks 0).bx] ?_ ?_
 refine ar ?_ ?_
 refine cK cxM kq aB (bv ?_)
 refine qu 7 ?_ ?_
 refine cB (args:=[.imm ((bY ns ks 0).names.map aa.str)]) kq kq kq kq kq (DS ((bY ns ks 0).names) oq) (by intro _;simp [Ty.v,bm,Occ.v]) (by simp [Ty.v]) (by simp [Ty.v,a7]) ?_
 refine qu 1 ?_ ?_
 refine cV (args:=[.ptr 0 0,.agg [.bool true,.int .i64 (lv),.bool false,.int .i64 0,.str [],.int .i64 0,.full [],.full [],.imm (((bY ns ks 0).names).map aa.str)]]) (hs:=[bS lv,mS m]) (hs':=[.box [.int .i64 ((lv)),.map 1],mS (lr (lv) m ((bY ns ks 0).names))]) (aM:=[.box zC,.map (ae aa.str Ty.v (bU [] (dX ns ks) k)),(bY ns ks 0).bx]) (L:=[0,1]) kq kq kq kq kq kq (xL (lv) (lv) ((bY ns ks 0).names) m oq) xZ xZ rfl xZ xZ kq rfl rfl ?_
 refine qu 2 ?_ ?_
 refine cn kq ⟨kq,?_⟩
 refine ab ?_
 refine qZ [(6,.ptr 2 0),(14,.ptr 4 0)] [.box [.int .i64 ((lv)),.map 1],mS (lr (lv) m ((bY ns ks 0).names)),.box zC,.map (ae aa.str Ty.v (bU [] (dX ns ks) k)),.box [.int .i64 ((bY ns ks 0).kind),.str (bY ns ks 0).name,nI (m.length+1),.imm ((bY ns ks 0).names.map aa.str),.imm ((bY ns ks 0).kids.map Ty.enc)]] ?_ ?_
 refine qW 3 [(6,.ptr 2 0),(7,.int .i64 0)] [.box [.int .i64 ((lv)),.map 1],mS (lr (lv) m ((bY ns ks 0).names)),.box [.int .i64 ((bY ns ks 0).kind),.str (bY ns ks 0).name,nI (m.length+1),.imm ((bY ns ks 0).names.map aa.str),.imm ((bY ns ks 0).kids.map Ty.enc)],.map (ae aa.str Ty.v (bU [] (dX ns ks) k)),.box [.int .i64 ((bY ns ks 0).kind),.str (bY ns ks 0).name,nI (m.length+1),.imm ((bY ns ks 0).names.map aa.str),.imm ((bY ns ks 0).kids.map Ty.enc)]] ?_ ?_
 refine bb kq ?_
 refine aL (l:=[.agg [.int .i64 ((bY ns ks 0).kind),.str (bY ns ks 0).name,.int .i64 (((m.length+1):Nat):Int),.imm ((bY ns ks 0).names.map aa.str),.imm ((bY ns ks 0).kids.map Ty.enc)],.int .i64 0]) (.inr rfl) kq (by simp [aK,Ty.v,aa.frz,bo,bY,recT]) (by simp [aK]) (by simp [aK]) ?_ ?_
 refine Eq.trans (b:=[.box [.int .i64 ((lv)),.map 1],mS (lr (lv) m ((bY ns ks 0).names))]) kq ?_
 · rfl
 · simp [ai.belO,Ty.v,hpS]
 iterate 28 kernel_rfl
 · exfalso;have:=hI.len;omega
 iterate 10 kernel_rfl
structure Dr (m:St) (ns:List (List UInt8)) (ks:List Ty):Prop where
 n:ns.length<100000000
 nl:∀ i,(ns.getD i []).length<100000000
 kz:∀ i,(ks.getD i Ty.zero).sz<100000000
 sm:dP m
 ml:m.length<100000000
 ok:HZ m ns ks
abbrev BF:=St→Ty→Nat→Option (Ty×St)
def eo (B:BF) (l:List Int) (t:Ty) (p:Int) (q:Nat):Nat→St→Option (List (List UInt8)×List Ty×St)
 | 0,S=>some ([],[],S)
 | k+1,S=>match eo B l t p q k S with
  | some (ns,ks,T)=>if p > 3∨ao l (q+5+k) 2=0 then (match B T (t.kids.getD k Ty.zero) (q+2+2 * k) with
   | some (r,T')=>some (ns++[t.names.getD k []],ks++[r],T')
   | none=>none) else some (ns,ks,T)
  | none=>none
open Classical in
noncomputable def dh (l:List Int) (lv:Int):Nat→BF
 | 0,_,_,_=>none
 | n+1,S,t,q =>
  if ao l q 6=0 then (if S.length<100000000 then some (.mk 6 [] ((S.length+1:Nat):Int) [] [],E3 lv S) else none)
  else if t.kind=4∧t.kids.length=1 then (match dh l lv n S (t.kids.getD 0 Ty.zero) (q+1) with
   | some (r,S')=>some (lsT r,S')
   | none=>none)
  else if ¬ t.kind=5 then some (t,S)
  else if ¬ t.names.length=t.kids.length then none
  else match eo (dh l lv n) l t (ao l q 6) q t.names.length S with
   | some (ns,ks,S')=>if ao l q 6 > 4 then some (.mk 5 [] 0 ns ks,S') else if Dr S' ns ks then some (bY ns ks ((S'.length+1:Nat):Int),lr lv S' (bY ns ks 0).names) else none
   | none=>none
theorem yv {l:List Int} {lv:Int} {n q:Nat} {S S':St} {t r:Ty} (h:dh l lv n S t q=some (r,S')):∃ k,n=k+1∧(ao l q 6=0→S.length<100000000∧Ty.mk 6 [] ((S.length+1:Nat):Int) [] []=r∧E3 lv S=S') ∧
 (¬ ao l q 6=0→(t.kind=4∧t.kids.length=1→∃ r0,dh l lv k S (t.kids.getD 0 Ty.zero) (q+1)=some (r0,S')∧lsT r0=r)∧(¬ (t.kind=4∧t.kids.length=1)→(¬ t.kind=5→t=r∧S=S') ∧
  (t.kind=5→t.names.length=t.kids.length∧∃ ns ks T,eo (dh l lv k) l t (ao l q 6) q t.names.length S=some (ns,ks,T)∧(ao l q 6 > 4→Ty.mk 5 [] 0 ns ks=r∧T=S')∧(¬ ao l q 6 > 4→Dr T ns ks∧bY ns ks ((T.length+1:Nat):Int)=r∧lr lv T (bY ns ks 0).names=S')))):=by
 cases n with
 | zero=>simp [dh] at h
 | succ k =>
  rw [dh] at h
  refine ⟨k,rfl,fun h0=>?_,fun h0=>⟨fun h1=>?_,fun h1=>⟨fun h2=>?_,fun h2=>?_⟩⟩⟩
  · rw [if_pos h0] at h
    split at h <;> cases h
    rename_i hs;exact ⟨hs,rfl,rfl⟩
  · rw [if_neg h0,if_pos h1] at h
    split at h <;> cases h
    rename_i r0 S0 hb;exact ⟨_,hb,rfl⟩
  · rw [if_neg h0,if_neg h1,if_pos h2] at h;cases h;exact ⟨rfl,rfl⟩
  · rw [if_neg h0,if_neg h1,if_neg (fun hc=>hc h2)] at h
    by_cases hl:t.names.length=t.kids.length
    · rw [if_neg (fun hc=>hc hl)] at h
      split at h <;> try (cases h;done)
      rename_i ns ks T hk
      refine ⟨hl,ns,ks,T,hk,fun h4=>?_,fun h4=>?_⟩
      · rw [if_pos h4] at h;cases h;exact ⟨rfl,rfl⟩
      · rw [if_neg h4] at h
        split at h <;> cases h
        rename_i hg;exact ⟨hg,rfl,rfl⟩
    · rw [if_pos hl] at h;cases h
theorem xP {B:BF} {l:List Int} {t:Ty} {p:Int} {q:Nat} {S:St}:∀ (j k:Nat),(eo B l t p q (k+j) S).isSome=true→(eo B l t p q k S).isSome=true
 | 0,k,h=>h
 | j+1,k,h=>by
  refine xP j k ?_
  rw [← Nat.add_assoc,eo] at h
  split at h
  · rename_i e;rw [e];rfl
  · cases h
theorem kB {B:BF} {l:List Int} {t:Ty} {p:Int} {q k:Nat} {S T:St} {ns:List (List UInt8)} {ks:List Ty} {R:List (List UInt8)×List Ty×St} (hR:eo B l t p q t.names.length S=some R) (h:eo B l t p q k S=some (ns,ks,T)) (hk:k<t.names.length) (hc:p > 3∨ao l (q+5+k) 2=0) :
 ∃ r T',B T (t.kids.getD k Ty.zero) (q+2+2 * k)=some (r,T')∧eo B l t p q (k+1) S=some (ns++[t.names.getD k []],ks++[r],T'):=by
 have hs:=xP (B:=B) (l:=l) (t:=t) (p:=p) (q:=q) (S:=S) (t.names.length - (k+1)) (k+1) (by rw [show k+1+(t.names.length - (k+1))=t.names.length by omega,hR];rfl)
 rw [eo,h] at hs ⊢
 simp only [if_pos hc] at hs ⊢
 split at hs
 · rename_i r T' hb;exact ⟨r,T',hb,rfl⟩
 · cases hs
theorem DZ {B:BF} {l:List Int} {t:Ty} {p:Int} {q k:Nat} {S T:St} {ns:List (List UInt8)} {ks:List Ty} (h:eo B l t p q k S=some (ns,ks,T)) (hc:¬ (p > 3∨ao l (q+5+k) 2=0)):eo B l t p q (k+1) S=some (ns,ks,T):=by
 rw [eo,h];simp only [if_neg hc]
theorem nt {B:BF} {l:List Int} {t:Ty} {p:Int} {q:Nat} {S:St}:∀ {k:Nat} {ns:List (List UInt8)} {ks:List Ty} {T:St},eo B l t p q k S=some (ns,ks,T)→ns.length≤k∧ks.length≤k
 | 0,ns,ks,T,h=>by cases h;simp
 | k+1,ns,ks,T,h=>by
  rw [eo] at h
  split at h <;> try (cases h;done)
  rename_i hb
  have ih:=nt hb
  split at h
  · split at h <;> cases h
    simp only [List.length_append,List.length_cons,List.length_nil];omega
  · cases h;omega
theorem o9 {t:Ty} {k:Nat} (hk:k<t.names.length) (hkk:k<t.kids.length):(t.kids.getD k Ty.zero).sz+t.names.length+2≤t.sz:=by
 have e:=gP t
 have h1:=uG t.names
 have h2:=lI t.kids k hkk
 omega
noncomputable def c22:Code:=aE Tryz.f22
theorem kJ {p:Prop} (h:p:=by simp only [List.length_append,List.length_cons,List.length_nil];omega):p:=h
theorem dZ {p:Prop} (h:p:=by simp [ai.belO,hpS,Ty.v]):p:=h
theorem IZ {p:Prop} (h:p:=by obtain rfl:k=t.names.length:=oq;rw [hKF] at hK;cases hK;have e:=hF1 oq;rw [← e.1];simp [aK,Ty.v,aa.frz,bo,Ty.enc_v,lsT,Ty.kind,Ty.name,Ty.n,Ty.names,Ty.kids]):p:=h
theorem kK {p:Prop} (h:p:=by simp [aK]):p:=h
theorem IR {p:Prop} (h:p:=by obtain rfl:k=t.names.length:=oq;rw [hKF] at hK;cases hK;have e:=hF2 oq;rw [← e.2.1];simp [aK,aa.frz,bo,Ty.v]):p:=h
theorem IM {p:Prop} (h:p:=by have e:=((u2 oq).2 oq).1 aq;rw [← e.1];simp [aK,aa.frz,bo,Ty.v]):p:=h
theorem Gp {p:Prop} (h:p:=by simp [Ty.v,bm,Occ.v]):p:=h
theorem FI {p:Prop} (h:p:=by simp [Ty.v,a7]):p:=h
theorem jz (l:List Int) (n q:Nat) (t r:Ty) (lv:Int) (m m':St) (hl:jq l) (hs:t.sz<100000000) (hq:q+3 * t.sz<1000000000) (hb:dh l lv n m t q=some (r,m')):av cx 22 [.ptr 0 0,Ty.v t,.imm (l.map (aa.int .i64)),.int .i64 ((q:Nat):Int)] (hpS lv m) (fun v h=>v=(Ty.v r)∧h=hpS lv m'):=by
 induction n generalizing m m' t q r with
 | zero=>simp [dh] at hb
 | succ n ih =>
 have ihB:∀ (S T:St) (x:Ty) (z:Nat) (r:Ty),x.sz<100000000→z+3 * x.sz<1000000000→dh l lv n S x z=some (r,T)→av cx 22 [.ptr 0 0,Ty.v x,.imm (l.map (aa.int .i64)),.int .i64 ((z:Nat):Int)] (hpS lv S) (fun v h=>v=r.v∧h=hpS lv T):=fun S T x z r h1 h2 h3=>ih z x r S T h1 h2 h3
 obtain ⟨n0,en,u1,u2⟩:=yv hb
 obtain rfl:n=n0:=by omega
 have hr00:∃ r0,¬ ao l q 6=0→t.kind=4∧t.kids.length=1→dh l lv n m (t.kids.getD 0 Ty.zero) (q+1)=some (r0,m')∧lsT r0=r:=by
  by_cases hc:¬ ao l q 6=0∧t.kind=4∧t.kids.length=1
  · obtain ⟨r0,h0⟩:=(u2 hc.1).1 hc.2;exact ⟨r0,fun _ _=>h0⟩
  · exact ⟨Ty.zero,fun h1 h2=>absurd ⟨h1,h2⟩ hc⟩
 obtain ⟨r0,hr0⟩:=hr00
 have hz1:=bK t
 have hz2:=ct t
 have hz3:∀ k,k<t.kids.length→(t.kids.getD k Ty.zero).sz<t.sz:=fun k hk=>b9 t k hk
 have hz4:=hz3 0
 have hpk:=d5 l q 6 dq
 refine ap (cx:=cx) 100 2 [(ResultVar.cell 8 25)] Tryz.func22 rfl rfl rfl rfl rfl zq ?_
 show wpA cx 100 2 (at_ c22 []) _ _ _
 refine qZ [(0,.ptr 0 0),(1,Ty.v t),(2,.imm (l.map (aa.int .i64))),(3,nI q)] [bS lv,mS m] ?_ ?_
 refine qW 2 [(0,.ptr 0 0),(2,.imm (l.map (aa.int .i64))),(3,nI q),(5,.ptr 2 0),(8,.ptr 3 0)] [bS lv,mS m,t.bx,.box zC] ?_ ?_
 refine qV 2 ?_ ?_
 refine bp (args:=[.imm (l.map (aa.int .i64)),.int .i64 ((q:Nat):Int),.int .i64 6]) kq kq kq kq (iu l q 6 oq oq) Gp (by simp [Ty.v]) FI ?_
 have hv1:=d5 l q 6 dq
 refine qR 1 [(0,.ptr 0 0),(2,.imm (l.map (aa.int .i64))),(3,nI q),(5,.ptr 2 0),(8,.ptr 3 0),(9,.int .i64 (ao l q 6))] [bS lv,mS m,t.bx,.box zC] ?_ ?_
 refine ar ?_ ?_
 refine qU 2 [(0,.ptr 0 0),(2,.imm (l.map (aa.int .i64))),(3,nI q),(5,.ptr 2 0),(8,.ptr 3 0),(9,.int .i64 (ao l q 6)),(19,.bool ((ao l q 6)==0))] ?_ ?_
 by_cases hb2:(ao l q 6)=0
 refine qt (beq_iff_eq.2 hb2) ?_ ?_
 refine qV 1 ?_ ?_
 refine aT (args:=[.ptr 0 0]) (hs:=[bS lv,mS m]) (hs':=[.box [.int .i64 ((lv)),.map 1],mS (aJ ((((m.length+1):Nat):Int)) ⟨false,(lv),false,Ty.zero,[]⟩ m)]) (aM:=[t.bx,.box zC]) kq kq kq kq kq (C2 (lv) m (u1 oq).1) dZ dZ rfl dZ dZ kq ?_
 refine qR 1 [(8,.ptr 3 0)] [.box [.int .i64 ((lv)),.map 1],mS (aJ ((((m.length+1):Nat):Int)) ⟨false,(lv),false,Ty.zero,[]⟩ m),t.bx,.box [.int .i64 6,.str [],nI (m.length+1),.imm [],.imm []]] ?_ ?_
 refine bb kq ?_
 apply aR
 refine aL (l:=[.agg [.int .i64 6,.str [],.int .i64 (((m.length+1):Nat):Int),.imm [],.imm []]]) (.inr rfl) kq (by have e:=(u1 oq).2;rw [← e.1];simp [aK,aa.frz,bo,Ty.v]) kK kK ?_ ?_
 refine Eq.trans (b:=[.box [.int .i64 ((lv)),.map 1],mS (aJ ((((m.length+1):Nat):Int)) ⟨false,(lv),false,Ty.zero,[]⟩ m)]) kq ?_
 · have e:=(u1 oq).2
   rw [← e.2];rfl
 · simp [ai.belO,hpS,Ty.v]
 iterate 3 kernel_rfl
 refine qf (beq_eq_false_iff_ne.2 hb2) ?_ ?_
 refine qK ?_ ?_
 refine qz [(0,.ptr 0 0),(2,.imm (l.map (aa.int .i64))),(3,nI q),(5,.ptr 2 0),(8,.ptr 3 0),(9,.int .i64 (ao l q 6))] ?_ ?_
 refine ar ?_ ?_
 refine qV 4 ?_ ?_
 by_cases hb3:(t.kind)=4
 refine qm [24,25] (beq_iff_eq.2 hb3) ?_ ?_
 refine qr 2 ?_ ?_
 refine qy (au (l:=t.kids) (enc:=Ty.enc) kq bf) ?_ ?_ ?_
 refine qR 2 [(0,.ptr 0 0),(2,.imm (l.map (aa.int .i64))),(3,nI q),(5,.ptr 2 0),(8,.ptr 3 0),(9,.int .i64 (ao l q 6)),(30,.bool (((t.kids.length:Nat):Int)==1))] [bS lv,mS m,t.bx,.box zC] ?_ ?_
 by_cases hb4:((t.kids.length:Nat):Int)=1
 refine qt (beq_iff_eq.2 hb4) ?_ ?_
 refine qV 3 ?_ ?_
 refine qy ((ax (k:=.i64) (l:=t.kids) (enc:=Ty.enc) (i:=0) Ty.zero kq bf bX bg oq oq).trans (congrArg (fun cs=>some (aa.pimm cs 0,_)) (aO (t.kids.getD 0 Ty.zero)))) ?_ ?_ ?_
 refine qr 3 ?_ ?_
 refine qy (aN (a:=((q:Nat):Int)) (b:=1) kq oq oq) ?_ ?_ ?_
 refine aT (args:=[.ptr 0 0,.agg [.int .i64 ((t.kids.getD 0 Ty.zero).kind),.str (t.kids.getD 0 Ty.zero).name,.int .i64 ((t.kids.getD 0 Ty.zero).n),.imm ((t.kids.getD 0 Ty.zero).names.map aa.str),.imm ((t.kids.getD 0 Ty.zero).kids.map Ty.enc)],.imm (l.map (aa.int .i64)),.int .i64 (((q+1):Nat):Int)]) (hs:=[bS lv,mS m]) (hs':=[.box [.int .i64 ((lv)),.map 1],mS m']) (aM:=[t.bx,.box zC]) kq kq kq kq kq (ihB m m' (t.kids.getD 0 Ty.zero) (q+1) r0 oq oq (hr0 oq oq).1) dZ dZ rfl dZ dZ kq ?_
 refine bp (args:=[Ty.v r0]) kq kq kq kq (BE r0) Gp (by simp [Ty.v]) FI ?_
 refine qR 1 [(8,.ptr 3 0)] [.box [.int .i64 ((lv)),.map 1],mS m',t.bx,(lsT r0).bx] ?_ ?_
 refine bb kq ?_
 apply aR
 refine aL (l:=[.agg [.int .i64 ((lsT r0).kind),.str (lsT r0).name,.int .i64 ((lsT r0).n),.imm ((lsT r0).names.map aa.str),.imm ((lsT r0).kids.map Ty.enc)]]) (.inr rfl) kq (by rw [← (hr0 oq oq).2];simp [aK,aa.frz,bo,Ty.v]) kK kK ?_ ?_
 refine Eq.trans (b:=[.box [.int .i64 ((lv)),.map 1],mS m']) kq ?_
 · rfl
 · simp [ai.belO,hpS,Ty.v]
 iterate 8 kernel_rfl
 refine qf (beq_eq_false_iff_ne.2 hb4) ?_ ?_
 refine qK ?_ ?_
 refine qz [(0,.ptr 0 0),(2,.imm (l.map (aa.int .i64))),(3,nI q),(5,.ptr 2 0),(8,.ptr 3 0),(9,.int .i64 (ao l q 6))] ?_ ?_
 refine ar ?_ ?_
 refine qU 3 [(0,.ptr 0 0),(2,.imm (l.map (aa.int .i64))),(3,nI q),(5,.ptr 2 0),(8,.ptr 3 0),(9,.int .i64 (ao l q 6)),(43,.bool ((t.kind) != 5))] ?_ ?_
 by_cases hb5:(t.kind)=5
 refine qf (x:=((t.kind) != 5)) (bne_eq_false_iff_eq.2 hb5) ?_ ?_
 refine qK ?_ ?_
 refine qz [(0,.ptr 0 0),(2,.imm (l.map (aa.int .i64))),(3,nI q),(5,.ptr 2 0),(8,.ptr 3 0),(9,.int .i64 (ao l q 6))] ?_ ?_
 refine qU 1 [(0,.ptr 0 0),(2,.imm (l.map (aa.int .i64))),(3,nI q),(5,.ptr 2 0),(8,.ptr 3 0),(9,.int .i64 (ao l q 6)),(10,.full [])] ?_ ?_
 refine qU 1 [(0,.ptr 0 0),(2,.imm (l.map (aa.int .i64))),(3,nI q),(5,.ptr 2 0),(8,.ptr 3 0),(9,.int .i64 (ao l q 6)),(10,.full []),(11,.full [])] ?_ ?_
 refine ar ?_ ?_
 refine qU 1 [(0,.ptr 0 0),(2,.imm (l.map (aa.int .i64))),(3,nI q),(5,.ptr 2 0),(8,.ptr 3 0),(9,.int .i64 (ao l q 6)),(10,.full []),(11,.full []),(12,.int .i64 0)] ?_ ?_
 obtain ⟨hlen,nsF,ksF,SF,hKF,hF1,hF2⟩:=((u2 oq).2 oq).2 oq
 refine qz [(0,.ptr 0 0),(2,.imm (l.map (aa.int .i64))),(3,nI q),(5,.ptr 2 0),(8,.ptr 3 0),(9,.int .i64 (ao l q 6)),(10,.full []),(11,.full []),(12,.int .i64 0)] ?_ ?_
 refine qB 0 ?_ ?_ ?_
 refine pJ 10 1 dq kq ?_
 refine pJ 11 5 dq kq ?_
 refine qZ [(0,.ptr 0 0),(2,.imm (l.map (aa.int .i64))),(3,nI q),(5,.ptr 2 0),(8,.ptr 3 0),(9,.int .i64 (ao l q 6)),(10,.own 4 0 0),(11,.own 5 0 0),(12,.int .i64 0)] [bS lv,mS m,t.bx,.box zC,.arr 1 (([]:List (List UInt8)).map aa.str) 0,.arr 5 (([]:List (Ty)).map Ty.enc) 0] ?_ ?_
 refine bR (σ:=(Nat×List (List UInt8)×List Ty×St)) (fun ⟨k,ns,ks,S⟩=>[(0,.ptr 0 0),(2,.imm (l.map (aa.int .i64))),(3,.int .i64 ((q:Nat):Int)),(5,.ptr 2 0),(8,.ptr 3 0),(9,.int .i64 (ao l q 6)),(10,.own 4 0 ns.length),(11,.own 5 0 ks.length),(12,.int .i64 ((k:Nat):Int))]) (fun ⟨k,ns,ks,S⟩=>[bS lv,mS S,t.bx,.box zC,.arr 1 (ns.map aa.str) 0,.arr 5 (ks.map Ty.enc) 0]) (fun ⟨k,ns,ks,S⟩=>k≤t.names.length∧eo (dh l lv n) l t (ao l q 6) q k m=some (ns,ks,S)) (fun ⟨k,ns,ks,S⟩=>t.names.length - k) (0,([]:List (List UInt8)),([]:List Ty),m) kq (by exact ⟨Nat.zero_le _,rfl⟩) ⟨⟨kq,kq,kq,kq,kq,kq,kq,kq,kq,trivial⟩,by simp [aV,aa.bel],by simp,kq,by simp [ai.belO,bM,Ty.enc_v]⟩ ?_
 rintro ⟨k,ns,ks,S⟩ ⟨hk,hK⟩
 have hbl:=nt hK
 refine qZ [(0,.ptr 0 0),(2,.imm (l.map (aa.int .i64))),(3,nI q),(5,.ptr 2 0),(8,.ptr 3 0),(9,.int .i64 (ao l q 6)),(10,.own 4 0 ns.length),(11,.own 5 0 ks.length),(12,nI k)] [bS lv,mS S,t.bx,.box zC,.arr 1 (ns.map aa.str) 0,.arr 5 (ks.map Ty.enc) 0] ?_ ?_
 refine ar ?_ ?_
 refine qV 3 ?_ ?_
 refine qy (au (l:=t.names) (enc:=aa.str) kq bi) ?_ ?_ ?_
 refine qR 1 [(0,.ptr 0 0),(2,.imm (l.map (aa.int .i64))),(3,nI q),(5,.ptr 2 0),(8,.ptr 3 0),(9,.int .i64 (ao l q 6)),(10,.own 4 0 ns.length),(11,.own 5 0 ks.length),(12,nI k),(49,.bool (decide (((k:Nat):Int)<((t.names.length:Nat):Int))))] [bS lv,mS S,t.bx,.box zC,.arr 1 (ns.map aa.str) 0,.arr 5 (ks.map Ty.enc) 0] ?_ ?_
 by_cases hb6:((k:Nat):Int)<((t.names.length:Nat):Int)
 refine qt (decide_eq_true hb6) ?_ ?_
 refine qK ?_ ?_
 refine qz [(0,.ptr 0 0),(2,.imm (l.map (aa.int .i64))),(3,nI q),(5,.ptr 2 0),(8,.ptr 3 0),(9,.int .i64 (ao l q 6)),(10,.own 4 0 ns.length),(11,.own 5 0 ks.length),(12,nI k)] ?_ ?_
 refine ar ?_ ?_
 refine qB 1 ?_ ?_ ?_
 refine qV 3 ?_ ?_
 by_cases hb7:(ao l q 6) > 3
 refine qm [53,54] (decide_eq_true hb7) ?_ ?_
 refine qR 8 [(0,.ptr 0 0),(2,.imm (l.map (aa.int .i64))),(3,nI q),(5,.ptr 2 0),(8,.ptr 3 0),(9,.int .i64 (ao l q 6)),(10,.own 4 0 ns.length),(11,.own 5 0 ks.length),(12,nI k),(55,.tup []),(56,.tup []),(57,.tup []),(58,.tup []),(59,.tup []),(60,.tup []),(61,.tup []),(62,.bool true)] [bS lv,mS S,t.bx,.box zC,.arr 1 (ns.map aa.str) 0,.arr 5 (ks.map Ty.enc) 0] ?_ ?_
 refine cp kq kq ?_
 refine qV 4 ?_ ?_
 refine qy (ax (k:=.i64) (l:=t.names) (enc:=aa.str) (i:=((k:Nat):Int)) [] kq bi ty9 (fun _=>rfl) oq oq) ?_ ?_ ?_
 refine qr 2 ?_ ?_
 refine qY (bh (o:=4) (len:=ns.length) (l:=ns) (xs:=[(t.names.getD k [])]) (enc:=aa.str) (sz:=1) (fr:=0) (x:=(.full [.str (t.names.getD k [])])) kq bi ty9 bi rfl kq rfl rfl kq ⟨by decide,by kernel_rfl⟩ (fun _=>rfl) kJ kJ) ?_ ?_ ?_
 refine qR 1 [(0,.ptr 0 0),(2,.imm (l.map (aa.int .i64))),(3,nI q),(5,.ptr 2 0),(8,.ptr 3 0),(9,.int .i64 (ao l q 6)),(10,.own 4 0 (ns++[(t.names.getD k [])]).length),(11,.own 5 0 ks.length),(12,nI k),(55,.tup []),(56,.tup []),(57,.tup []),(58,.tup []),(59,.tup []),(60,.tup []),(61,.tup [])] [bS lv,mS S,t.bx,.box zC,.arr 1 ((ns++[(t.names.getD k [])]).map aa.str) 0,.arr 5 (ks.map Ty.enc) 0] ?_ ?_
 obtain ⟨rB,SB,hB,hB2⟩:=kB hKF hK oq oq
 have hstp:=o9 (t:=t) (k:=k) oq oq
 refine qz [(0,.ptr 0 0),(2,.imm (l.map (aa.int .i64))),(3,nI q),(5,.ptr 2 0),(8,.ptr 3 0),(9,.int .i64 (ao l q 6)),(10,.own 4 0 (ns++[(t.names.getD k [])]).length),(11,.own 5 0 ks.length),(12,nI k),(55,.tup []),(56,.tup []),(57,.tup []),(58,.tup []),(59,.tup []),(60,.tup []),(61,.tup [])] ?_ ?_
 refine qo ?_ ?_
 refine qr 5 ?_ ?_
 refine qy ((ax (k:=.i64) (l:=t.kids) (enc:=Ty.enc) (i:=((k:Nat):Int)) Ty.zero kq bf bX bg oq oq).trans (congrArg (fun cs=>some (aa.pimm cs 0,_)) (aO (t.kids.getD k Ty.zero)))) ?_ ?_ ?_
 refine qr 3 ?_ ?_
 refine qy (aN (a:=((q:Nat):Int)) (b:=2) kq oq oq) ?_ ?_ ?_
 refine qr 1 ?_ ?_
 refine qy (xQ (a:=2) (b:=((k:Nat):Int)) kq oq oq) ?_ ?_ ?_
 refine qy (aN (a:=(((q+2):Nat):Int)) (b:=(((2 * k):Nat):Int)) kq oq oq) ?_ ?_ ?_
 refine aT (args:=[.ptr 0 0,.agg [.int .i64 ((t.kids.getD k Ty.zero).kind),.str (t.kids.getD k Ty.zero).name,.int .i64 ((t.kids.getD k Ty.zero).n),.imm ((t.kids.getD k Ty.zero).names.map aa.str),.imm ((t.kids.getD k Ty.zero).kids.map Ty.enc)],.imm (l.map (aa.int .i64)),.int .i64 ((((q+2)+(2 * k)):Nat):Int)]) (hs:=[bS lv,mS S]) (hs':=[.box [.int .i64 ((lv)),.map 1],mS SB]) (aM:=[t.bx,.box zC,.arr 1 ((ns++[(t.names.getD k [])]).map aa.str) 0,.arr 5 (ks.map Ty.enc) 0]) kq kq kq kq kq (ihB S SB (t.kids.getD k Ty.zero) ((q+2)+(2 * k)) rB oq oq hB) dZ dZ rfl dZ dZ kq ?_
 refine qr 1 ?_ ?_
 refine qY (bh (o:=5) (len:=ks.length) (l:=ks) (xs:=[rB]) (enc:=Ty.enc) (sz:=5) (fr:=0) (x:=(.full [Ty.v rB])) kq bf bX bf rfl kq rfl rfl (Eq.trans (b:=some [Ty.v rB]) kq (by simp [Ty.enc_v])) ⟨by decide,by kernel_rfl⟩ gQ kJ kJ) ?_ ?_ ?_
 refine qr 1 ?_ ?_
 refine qe ?_ ?_
 refine ak ?_
 refine ab ?_
 refine qZ [(0,.ptr 0 0),(2,.imm (l.map (aa.int .i64))),(3,nI q),(5,.ptr 2 0),(8,.ptr 3 0),(9,.int .i64 (ao l q 6)),(10,.own 4 0 (ns++[(t.names.getD k [])]).length),(11,.own 5 0 (ks++[rB]).length),(12,nI k),(55,.tup []),(56,.tup []),(57,.tup []),(58,.tup []),(59,.tup []),(60,.tup []),(61,.tup [])] [.box [.int .i64 ((lv)),.map 1],mS SB,t.bx,.box zC,.arr 1 ((ns++[(t.names.getD k [])]).map aa.str) 0,.arr 5 ((ks++[rB]).map Ty.enc) 0] ?_ ?_
 refine qo ?_ ?_
 refine qr 1 ?_ ?_
 refine qy (aN (a:=((k:Nat):Int)) (b:=1) kq oq oq) ?_ ?_ ?_
 refine qr 1 ?_ ?_
 refine qe ?_ ?_
 refine ab ⟨(k+1,(ns++[(t.names.getD k [])]),(ks++[rB]),SB),?_,?_,⟨⟨kq,kq,kq,kq,kq,kq,kq,kq,kq,trivial⟩,by simp [aV,aa.bel],by simp,kq,by simp [ai.belO,bM,Ty.enc_v]⟩⟩
 · try dsimp only
   omega
 rotate_left
 iterate 34 kernel_rfl
 refine qm [53,54] (decide_eq_false hb7) ?_ ?_
 refine qr 2 ?_ ?_
 refine qy (aN (a:=((q:Nat):Int)) (b:=5) kq oq oq) ?_ ?_ ?_
 refine qr 1 ?_ ?_
 refine qy (aN (a:=(((q+5):Nat):Int)) (b:=((k:Nat):Int)) kq oq oq) ?_ ?_ ?_
 refine bp (args:=[.imm (l.map (aa.int .i64)),.int .i64 ((((q+5)+k):Nat):Int),.int .i64 2]) kq kq kq kq (iu l ((q+5)+k) 2 oq oq) Gp (by simp [Ty.v]) FI ?_
 have hv8:=d5 l ((q+5)+k) 2 dq
 refine qR 2 [(0,.ptr 0 0),(2,.imm (l.map (aa.int .i64))),(3,nI q),(5,.ptr 2 0),(8,.ptr 3 0),(9,.int .i64 (ao l q 6)),(10,.own 4 0 ns.length),(11,.own 5 0 ks.length),(12,nI k),(55,.imm (l.map (aa.int .i64))),(56,nI q),(57,nI (q+5)),(58,nI k),(59,nI (((q+5)+k))),(60,.int .i64 (ao l ((q+5)+k) 2)),(61,.bool ((ao l ((q+5)+k) 2)==0)),(62,.bool ((ao l ((q+5)+k) 2)==0))] [bS lv,mS S,t.bx,.box zC,.arr 1 (ns.map aa.str) 0,.arr 5 (ks.map Ty.enc) 0] ?_ ?_
 by_cases hb9:(ao l ((q+5)+k) 2)=0
 refine qt (beq_iff_eq.2 hb9) ?_ ?_
 refine qV 4 ?_ ?_
 refine qy (ax (k:=.i64) (l:=t.names) (enc:=aa.str) (i:=((k:Nat):Int)) [] kq bi ty9 (fun _=>rfl) oq oq) ?_ ?_ ?_
 refine qr 2 ?_ ?_
 refine qY (bh (o:=4) (len:=ns.length) (l:=ns) (xs:=[(t.names.getD k [])]) (enc:=aa.str) (sz:=1) (fr:=0) (x:=(.full [.str (t.names.getD k [])])) kq bi ty9 bi rfl kq rfl rfl kq ⟨by decide,by kernel_rfl⟩ (fun _=>rfl) kJ kJ) ?_ ?_ ?_
 refine qR 1 [(0,.ptr 0 0),(2,.imm (l.map (aa.int .i64))),(3,nI q),(5,.ptr 2 0),(8,.ptr 3 0),(9,.int .i64 (ao l q 6)),(10,.own 4 0 (ns++[(t.names.getD k [])]).length),(11,.own 5 0 ks.length),(12,nI k),(55,.imm (l.map (aa.int .i64))),(56,nI q),(57,nI (q+5)),(58,nI k),(59,nI (((q+5)+k))),(60,.int .i64 (ao l ((q+5)+k) 2)),(61,.bool ((ao l ((q+5)+k) 2)==0))] [bS lv,mS S,t.bx,.box zC,.arr 1 ((ns++[(t.names.getD k [])]).map aa.str) 0,.arr 5 (ks.map Ty.enc) 0] ?_ ?_
 obtain ⟨rB,SB,hB,hB2⟩:=kB hKF hK oq oq
 have hstp:=o9 (t:=t) (k:=k) oq oq
 refine qz [(0,.ptr 0 0),(2,.imm (l.map (aa.int .i64))),(3,nI q),(5,.ptr 2 0),(8,.ptr 3 0),(9,.int .i64 (ao l q 6)),(10,.own 4 0 (ns++[(t.names.getD k [])]).length),(11,.own 5 0 ks.length),(12,nI k),(55,.imm (l.map (aa.int .i64))),(56,nI q),(57,nI (q+5)),(58,nI k),(59,nI (((q+5)+k))),(60,.int .i64 (ao l ((q+5)+k) 2)),(61,.bool ((ao l ((q+5)+k) 2)==0))] ?_ ?_
 refine qo ?_ ?_
 refine qr 5 ?_ ?_
 refine qy ((ax (k:=.i64) (l:=t.kids) (enc:=Ty.enc) (i:=((k:Nat):Int)) Ty.zero kq bf bX bg oq oq).trans (congrArg (fun cs=>some (aa.pimm cs 0,_)) (aO (t.kids.getD k Ty.zero)))) ?_ ?_ ?_
 refine qr 3 ?_ ?_
 refine qy (aN (a:=((q:Nat):Int)) (b:=2) kq oq oq) ?_ ?_ ?_
 refine qr 1 ?_ ?_
 refine qy (xQ (a:=2) (b:=((k:Nat):Int)) kq oq oq) ?_ ?_ ?_
 refine qy (aN (a:=(((q+2):Nat):Int)) (b:=(((2 * k):Nat):Int)) kq oq oq) ?_ ?_ ?_
 refine aT (args:=[.ptr 0 0,.agg [.int .i64 ((t.kids.getD k Ty.zero).kind),.str (t.kids.getD k Ty.zero).name,.int .i64 ((t.kids.getD k Ty.zero).n),.imm ((t.kids.getD k Ty.zero).names.map aa.str),.imm ((t.kids.getD k Ty.zero).kids.map Ty.enc)],.imm (l.map (aa.int .i64)),.int .i64 ((((q+2)+(2 * k)):Nat):Int)]) (hs:=[bS lv,mS S]) (hs':=[.box [.int .i64 ((lv)),.map 1],mS SB]) (aM:=[t.bx,.box zC,.arr 1 ((ns++[(t.names.getD k [])]).map aa.str) 0,.arr 5 (ks.map Ty.enc) 0]) kq kq kq kq kq (ihB S SB (t.kids.getD k Ty.zero) ((q+2)+(2 * k)) rB oq oq hB) dZ dZ rfl dZ dZ kq ?_
 refine qr 1 ?_ ?_
 refine qY (bh (o:=5) (len:=ks.length) (l:=ks) (xs:=[rB]) (enc:=Ty.enc) (sz:=5) (fr:=0) (x:=(.full [Ty.v rB])) kq bf bX bf rfl kq rfl rfl (Eq.trans (b:=some [Ty.v rB]) kq (by simp [Ty.enc_v])) ⟨by decide,by kernel_rfl⟩ gQ kJ kJ) ?_ ?_ ?_
 refine qr 1 ?_ ?_
 refine qe ?_ ?_
 refine ak ?_
 refine ab ?_
 refine qZ [(0,.ptr 0 0),(2,.imm (l.map (aa.int .i64))),(3,nI q),(5,.ptr 2 0),(8,.ptr 3 0),(9,.int .i64 (ao l q 6)),(10,.own 4 0 (ns++[(t.names.getD k [])]).length),(11,.own 5 0 (ks++[rB]).length),(12,nI k),(55,.imm (l.map (aa.int .i64))),(56,nI q),(57,nI (q+5)),(58,nI k),(59,nI (((q+5)+k))),(60,.int .i64 (ao l ((q+5)+k) 2)),(61,.bool ((ao l ((q+5)+k) 2)==0))] [.box [.int .i64 ((lv)),.map 1],mS SB,t.bx,.box zC,.arr 1 ((ns++[(t.names.getD k [])]).map aa.str) 0,.arr 5 ((ks++[rB]).map Ty.enc) 0] ?_ ?_
 refine qo ?_ ?_
 refine qr 1 ?_ ?_
 refine qy (aN (a:=((k:Nat):Int)) (b:=1) kq oq oq) ?_ ?_ ?_
 refine qr 1 ?_ ?_
 refine qe ?_ ?_
 refine ab ⟨(k+1,(ns++[(t.names.getD k [])]),(ks++[rB]),SB),?_,?_,⟨⟨kq,kq,kq,kq,kq,kq,kq,kq,kq,trivial⟩,by simp [aV,aa.bel],by simp,kq,by simp [ai.belO,bM,Ty.enc_v]⟩⟩
 · try dsimp only
   omega
 rotate_left
 iterate 33 kernel_rfl
 refine qf (beq_eq_false_iff_ne.2 hb9) ?_ ?_
 refine qk ?_ ?_
 refine ak ?_
 refine ab ?_
 refine qz [(0,.ptr 0 0),(2,.imm (l.map (aa.int .i64))),(3,nI q),(5,.ptr 2 0),(8,.ptr 3 0),(9,.int .i64 (ao l q 6)),(10,.own 4 0 ns.length),(11,.own 5 0 ks.length),(12,nI k),(55,.imm (l.map (aa.int .i64))),(56,nI q),(57,nI (q+5)),(58,nI k),(59,nI (((q+5)+k))),(60,.int .i64 (ao l ((q+5)+k) 2)),(61,.bool ((ao l ((q+5)+k) 2)==0))] ?_ ?_
 refine qo ?_ ?_
 refine qr 1 ?_ ?_
 refine qy (aN (a:=((k:Nat):Int)) (b:=1) kq oq oq) ?_ ?_ ?_
 refine qr 1 ?_ ?_
 refine qe ?_ ?_
 refine ab ⟨(k+1,ns,ks,S),?_,?_,⟨⟨kq,kq,kq,kq,kq,kq,kq,kq,kq,trivial⟩,by simp [aV,aa.bel],by simp,kq,by simp [ai.belO,bM,Ty.enc_v]⟩⟩
 · try dsimp only
   omega
 rotate_left
 iterate 24 kernel_rfl
 refine qf (decide_eq_false hb6) ?_ ?_
 refine bC 0 kq kq ?_
 refine af ?_
 refine af ?_
 refine aA ?_
 refine ab ?_
 refine qz [(0,.ptr 0 0),(8,.ptr 3 0),(9,.int .i64 (ao l q 6)),(10,.own 4 0 ns.length),(11,.own 5 0 ks.length)] ?_ ?_
 refine Ap 10 4 (es:=(ns.map aa.str)) (off:=0) (len:=ns.length) (sz:=1) (fr:=0) (ns.map aa.str) kq kq zq kq ?_
 refine Ap 11 5 (es:=(ks.map Ty.enc)) (off:=0) (len:=ks.length) (sz:=5) (fr:=0) (ks.map Ty.enc) kq kq zq kq ?_
 refine qZ [(0,.ptr 0 0),(8,.ptr 3 0),(9,.int .i64 (ao l q 6)),(10,.imm (ns.map aa.str)),(11,.imm (ks.map Ty.enc))] [bS lv,mS S,t.bx,.box zC,.arr 1 (ns.map aa.str) (ns.map aa.str).length,.arr 5 (ks.map Ty.enc) (ks.map Ty.enc).length] ?_ ?_
 refine ar ?_ ?_
 refine qU 2 [(0,.ptr 0 0),(8,.ptr 3 0),(10,.imm (ns.map aa.str)),(11,.imm (ks.map Ty.enc)),(88,.bool (decide ((ao l q 6) > 4)))] ?_ ?_
 by_cases hb10:(ao l q 6) > 4
 refine qt (decide_eq_true hb10) ?_ ?_
 refine qW 4 [(8,.ptr 3 0)] [bS lv,mS S,t.bx,.box [.int .i64 5,.str [],.int .i64 0,.imm (ns.map aa.str),.imm (ks.map Ty.enc)],.arr 1 (ns.map aa.str) (ns.map aa.str).length,.arr 5 (ks.map Ty.enc) (ks.map Ty.enc).length] ?_ ?_
 refine bb kq ?_
 apply aR
 refine aL (l:=[.agg [.int .i64 5,.str [],.int .i64 0,.imm (ns.map aa.str),.imm (ks.map Ty.enc)]]) (.inr rfl) kq IZ kK kK ?_ ?_
 refine Eq.trans (b:=[bS lv,mS S]) kq ?_
 · obtain rfl:k=t.names.length:=oq
   rw [hKF] at hK
   cases hK
   have e:=hF1 oq
   rw [← e.2];rfl
 · simp [ai.belO,hpS,Ty.v]
 iterate 2 kernel_rfl
 refine qf (decide_eq_false hb10) ?_ ?_
 refine qK ?_ ?_
 refine qz [(0,.ptr 0 0),(8,.ptr 3 0),(10,.imm (ns.map aa.str)),(11,.imm (ks.map Ty.enc))] ?_ ?_
 have hg:Dr S ns ks:=by obtain rfl:k=t.names.length:=oq;rw [hKF] at hK;cases hK;exact (hF2 oq).1
 refine qz [(0,.ptr 0 0),(8,.ptr 3 0),(10,.imm (ns.map aa.str)),(11,.imm (ks.map Ty.enc))] ?_ ?_
 refine qV 3 ?_ ?_
 refine aT (args:=[.ptr 0 0,.imm (ns.map aa.str),.imm (ks.map Ty.enc)]) (hs:=[bS lv,mS S]) (hs':=[.box [.int .i64 ((lv)),.map 1],mS (lr (lv) S (bY ns ks 0).names)]) (aM:=[t.bx,.box zC,.arr 1 (ns.map aa.str) (ns.map aa.str).length,.arr 5 (ks.map Ty.enc) (ks.map Ty.enc).length]) kq kq kq kq kq (tf ns ks (lv) S hg.n hg.nl hg.kz hg.sm hg.ml hg.ok) dZ dZ rfl dZ dZ kq ?_
 refine qR 6 [(8,.ptr 3 0),(13,.ptr 6 0)] [.box [.int .i64 ((lv)),.map 1],mS (lr (lv) S (bY ns ks 0).names),t.bx,.box zC,.arr 1 (ns.map aa.str) (ns.map aa.str).length,.arr 5 (ks.map Ty.enc) (ks.map Ty.enc).length,(bY ns ks (((S.length+1:Nat)):Int)).bx] ?_ ?_
 refine qW 2 [(8,.ptr 3 0)] [.box [.int .i64 ((lv)),.map 1],mS (lr (lv) S (bY ns ks 0).names),t.bx,(bY ns ks (((S.length+1:Nat)):Int)).bx,.arr 1 (ns.map aa.str) (ns.map aa.str).length,.arr 5 (ks.map Ty.enc) (ks.map Ty.enc).length,(bY ns ks (((S.length+1:Nat)):Int)).bx] ?_ ?_
 refine bb kq ?_
 refine aL (l:=[.agg [.int .i64 ((bY ns ks (((S.length+1:Nat)):Int)).kind),.str (bY ns ks (((S.length+1:Nat)):Int)).name,.int .i64 ((bY ns ks (((S.length+1:Nat)):Int)).n),.imm ((bY ns ks (((S.length+1:Nat)):Int)).names.map aa.str),.imm ((bY ns ks (((S.length+1:Nat)):Int)).kids.map Ty.enc)]]) (.inr rfl) kq IR kK kK ?_ ?_
 refine Eq.trans (b:=[.box [.int .i64 ((lv)),.map 1],mS (lr (lv) S (bY ns ks 0).names)]) kq ?_
 · obtain rfl:k=t.names.length:=oq
   rw [hKF] at hK
   cases hK
   have e:=hF2 oq
   rw [← e.2.2];rfl
 · simp [ai.belO,hpS,Ty.v]
 iterate 29 kernel_rfl
 refine qt (x:=((t.kind) != 5)) (bne_iff_ne.2 hb5) ?_ ?_
 refine qW 2 [(8,.ptr 3 0)] [bS lv,mS m,t.bx,t.bx] ?_ ?_
 refine bb kq ?_
 apply aR
 refine aL (l:=[.agg [.int .i64 (t.kind),.str t.name,.int .i64 (t.n),.imm (t.names.map aa.str),.imm (t.kids.map Ty.enc)]]) (.inr rfl) kq IM kK kK ?_ ?_
 refine Eq.trans (b:=[bS lv,mS m]) kq ?_
 · have e:=((u2 oq).2 oq).1 aq
   rw [← e.2];rfl
 · simp [ai.belO,hpS,Ty.v]
 iterate 12 kernel_rfl
 refine qm [24,25] (beq_eq_false_iff_ne.2 hb3) ?_ ?_
 refine qR 5 [(0,.ptr 0 0),(2,.imm (l.map (aa.int .i64))),(3,nI q),(5,.ptr 2 0),(8,.ptr 3 0),(9,.int .i64 (ao l q 6)),(30,.bool false)] [bS lv,mS m,t.bx,.box zC] ?_ ?_
 refine dY kq kq ?_
 refine qK ?_ ?_
 refine qz [(0,.ptr 0 0),(2,.imm (l.map (aa.int .i64))),(3,nI q),(5,.ptr 2 0),(8,.ptr 3 0),(9,.int .i64 (ao l q 6))] ?_ ?_
 refine ar ?_ ?_
 refine qU 3 [(0,.ptr 0 0),(2,.imm (l.map (aa.int .i64))),(3,nI q),(5,.ptr 2 0),(8,.ptr 3 0),(9,.int .i64 (ao l q 6)),(43,.bool ((t.kind) != 5))] ?_ ?_
 by_cases hb11:(t.kind)=5
 refine qf (x:=((t.kind) != 5)) (bne_eq_false_iff_eq.2 hb11) ?_ ?_
 refine qK ?_ ?_
 refine qz [(0,.ptr 0 0),(2,.imm (l.map (aa.int .i64))),(3,nI q),(5,.ptr 2 0),(8,.ptr 3 0),(9,.int .i64 (ao l q 6))] ?_ ?_
 refine qU 1 [(0,.ptr 0 0),(2,.imm (l.map (aa.int .i64))),(3,nI q),(5,.ptr 2 0),(8,.ptr 3 0),(9,.int .i64 (ao l q 6)),(10,.full [])] ?_ ?_
 refine qU 1 [(0,.ptr 0 0),(2,.imm (l.map (aa.int .i64))),(3,nI q),(5,.ptr 2 0),(8,.ptr 3 0),(9,.int .i64 (ao l q 6)),(10,.full []),(11,.full [])] ?_ ?_
 refine ar ?_ ?_
 refine qU 1 [(0,.ptr 0 0),(2,.imm (l.map (aa.int .i64))),(3,nI q),(5,.ptr 2 0),(8,.ptr 3 0),(9,.int .i64 (ao l q 6)),(10,.full []),(11,.full []),(12,.int .i64 0)] ?_ ?_
 obtain ⟨hlen,nsF,ksF,SF,hKF,hF1,hF2⟩:=((u2 oq).2 oq).2 oq
 refine qz [(0,.ptr 0 0),(2,.imm (l.map (aa.int .i64))),(3,nI q),(5,.ptr 2 0),(8,.ptr 3 0),(9,.int .i64 (ao l q 6)),(10,.full []),(11,.full []),(12,.int .i64 0)] ?_ ?_
 refine qB 0 ?_ ?_ ?_
 refine pJ 10 1 dq kq ?_
 refine pJ 11 5 dq kq ?_
 refine qZ [(0,.ptr 0 0),(2,.imm (l.map (aa.int .i64))),(3,nI q),(5,.ptr 2 0),(8,.ptr 3 0),(9,.int .i64 (ao l q 6)),(10,.own 4 0 0),(11,.own 5 0 0),(12,.int .i64 0)] [bS lv,mS m,t.bx,.box zC,.arr 1 (([]:List (List UInt8)).map aa.str) 0,.arr 5 (([]:List (Ty)).map Ty.enc) 0] ?_ ?_
 refine bR (σ:=(Nat×List (List UInt8)×List Ty×St)) (fun ⟨k,ns,ks,S⟩=>[(0,.ptr 0 0),(2,.imm (l.map (aa.int .i64))),(3,.int .i64 ((q:Nat):Int)),(5,.ptr 2 0),(8,.ptr 3 0),(9,.int .i64 (ao l q 6)),(10,.own 4 0 ns.length),(11,.own 5 0 ks.length),(12,.int .i64 ((k:Nat):Int))]) (fun ⟨k,ns,ks,S⟩=>[bS lv,mS S,t.bx,.box zC,.arr 1 (ns.map aa.str) 0,.arr 5 (ks.map Ty.enc) 0]) (fun ⟨k,ns,ks,S⟩=>k≤t.names.length∧eo (dh l lv n) l t (ao l q 6) q k m=some (ns,ks,S)) (fun ⟨k,ns,ks,S⟩=>t.names.length - k) (0,([]:List (List UInt8)),([]:List Ty),m) kq (by exact ⟨Nat.zero_le _,rfl⟩) ⟨⟨kq,kq,kq,kq,kq,kq,kq,kq,kq,trivial⟩,by simp [aV,aa.bel],by simp,kq,by simp [ai.belO,bM,Ty.enc_v]⟩ ?_
 rintro ⟨k,ns,ks,S⟩ ⟨hk,hK⟩
 have hbl:=nt hK
 refine qZ [(0,.ptr 0 0),(2,.imm (l.map (aa.int .i64))),(3,nI q),(5,.ptr 2 0),(8,.ptr 3 0),(9,.int .i64 (ao l q 6)),(10,.own 4 0 ns.length),(11,.own 5 0 ks.length),(12,nI k)] [bS lv,mS S,t.bx,.box zC,.arr 1 (ns.map aa.str) 0,.arr 5 (ks.map Ty.enc) 0] ?_ ?_
 refine ar ?_ ?_
 refine qV 3 ?_ ?_
 refine qy (au (l:=t.names) (enc:=aa.str) kq bi) ?_ ?_ ?_
 refine qR 1 [(0,.ptr 0 0),(2,.imm (l.map (aa.int .i64))),(3,nI q),(5,.ptr 2 0),(8,.ptr 3 0),(9,.int .i64 (ao l q 6)),(10,.own 4 0 ns.length),(11,.own 5 0 ks.length),(12,nI k),(49,.bool (decide (((k:Nat):Int)<((t.names.length:Nat):Int))))] [bS lv,mS S,t.bx,.box zC,.arr 1 (ns.map aa.str) 0,.arr 5 (ks.map Ty.enc) 0] ?_ ?_
 by_cases hb12:((k:Nat):Int)<((t.names.length:Nat):Int)
 refine qt (decide_eq_true hb12) ?_ ?_
 refine qK ?_ ?_
 refine qz [(0,.ptr 0 0),(2,.imm (l.map (aa.int .i64))),(3,nI q),(5,.ptr 2 0),(8,.ptr 3 0),(9,.int .i64 (ao l q 6)),(10,.own 4 0 ns.length),(11,.own 5 0 ks.length),(12,nI k)] ?_ ?_
 refine ar ?_ ?_
 refine qB 1 ?_ ?_ ?_
 refine qV 3 ?_ ?_
 by_cases hb13:(ao l q 6) > 3
 refine qm [53,54] (decide_eq_true hb13) ?_ ?_
 refine qR 8 [(0,.ptr 0 0),(2,.imm (l.map (aa.int .i64))),(3,nI q),(5,.ptr 2 0),(8,.ptr 3 0),(9,.int .i64 (ao l q 6)),(10,.own 4 0 ns.length),(11,.own 5 0 ks.length),(12,nI k),(55,.tup []),(56,.tup []),(57,.tup []),(58,.tup []),(59,.tup []),(60,.tup []),(61,.tup []),(62,.bool true)] [bS lv,mS S,t.bx,.box zC,.arr 1 (ns.map aa.str) 0,.arr 5 (ks.map Ty.enc) 0] ?_ ?_
 refine cp kq kq ?_
 refine qV 4 ?_ ?_
 refine qy (ax (k:=.i64) (l:=t.names) (enc:=aa.str) (i:=((k:Nat):Int)) [] kq bi ty9 (fun _=>rfl) oq oq) ?_ ?_ ?_
 refine qr 2 ?_ ?_
 refine qY (bh (o:=4) (len:=ns.length) (l:=ns) (xs:=[(t.names.getD k [])]) (enc:=aa.str) (sz:=1) (fr:=0) (x:=(.full [.str (t.names.getD k [])])) kq bi ty9 bi rfl kq rfl rfl kq ⟨by decide,by kernel_rfl⟩ (fun _=>rfl) kJ kJ) ?_ ?_ ?_
 refine qR 1 [(0,.ptr 0 0),(2,.imm (l.map (aa.int .i64))),(3,nI q),(5,.ptr 2 0),(8,.ptr 3 0),(9,.int .i64 (ao l q 6)),(10,.own 4 0 (ns++[(t.names.getD k [])]).length),(11,.own 5 0 ks.length),(12,nI k),(55,.tup []),(56,.tup []),(57,.tup []),(58,.tup []),(59,.tup []),(60,.tup []),(61,.tup [])] [bS lv,mS S,t.bx,.box zC,.arr 1 ((ns++[(t.names.getD k [])]).map aa.str) 0,.arr 5 (ks.map Ty.enc) 0] ?_ ?_
 obtain ⟨rB,SB,hB,hB2⟩:=kB hKF hK oq oq
 have hstp:=o9 (t:=t) (k:=k) oq oq
 refine qz [(0,.ptr 0 0),(2,.imm (l.map (aa.int .i64))),(3,nI q),(5,.ptr 2 0),(8,.ptr 3 0),(9,.int .i64 (ao l q 6)),(10,.own 4 0 (ns++[(t.names.getD k [])]).length),(11,.own 5 0 ks.length),(12,nI k),(55,.tup []),(56,.tup []),(57,.tup []),(58,.tup []),(59,.tup []),(60,.tup []),(61,.tup [])] ?_ ?_
 refine qo ?_ ?_
 refine qr 5 ?_ ?_
 refine qy ((ax (k:=.i64) (l:=t.kids) (enc:=Ty.enc) (i:=((k:Nat):Int)) Ty.zero kq bf bX bg oq oq).trans (congrArg (fun cs=>some (aa.pimm cs 0,_)) (aO (t.kids.getD k Ty.zero)))) ?_ ?_ ?_
 refine qr 3 ?_ ?_
 refine qy (aN (a:=((q:Nat):Int)) (b:=2) kq oq oq) ?_ ?_ ?_
 refine qr 1 ?_ ?_
 refine qy (xQ (a:=2) (b:=((k:Nat):Int)) kq oq oq) ?_ ?_ ?_
 refine qy (aN (a:=(((q+2):Nat):Int)) (b:=(((2 * k):Nat):Int)) kq oq oq) ?_ ?_ ?_
 refine aT (args:=[.ptr 0 0,.agg [.int .i64 ((t.kids.getD k Ty.zero).kind),.str (t.kids.getD k Ty.zero).name,.int .i64 ((t.kids.getD k Ty.zero).n),.imm ((t.kids.getD k Ty.zero).names.map aa.str),.imm ((t.kids.getD k Ty.zero).kids.map Ty.enc)],.imm (l.map (aa.int .i64)),.int .i64 ((((q+2)+(2 * k)):Nat):Int)]) (hs:=[bS lv,mS S]) (hs':=[.box [.int .i64 ((lv)),.map 1],mS SB]) (aM:=[t.bx,.box zC,.arr 1 ((ns++[(t.names.getD k [])]).map aa.str) 0,.arr 5 (ks.map Ty.enc) 0]) kq kq kq kq kq (ihB S SB (t.kids.getD k Ty.zero) ((q+2)+(2 * k)) rB oq oq hB) dZ dZ rfl dZ dZ kq ?_
 refine qr 1 ?_ ?_
 refine qY (bh (o:=5) (len:=ks.length) (l:=ks) (xs:=[rB]) (enc:=Ty.enc) (sz:=5) (fr:=0) (x:=(.full [Ty.v rB])) kq bf bX bf rfl kq rfl rfl (Eq.trans (b:=some [Ty.v rB]) kq (by simp [Ty.enc_v])) ⟨by decide,by kernel_rfl⟩ gQ kJ kJ) ?_ ?_ ?_
 refine qr 1 ?_ ?_
 refine qe ?_ ?_
 refine ak ?_
 refine ab ?_
 refine qZ [(0,.ptr 0 0),(2,.imm (l.map (aa.int .i64))),(3,nI q),(5,.ptr 2 0),(8,.ptr 3 0),(9,.int .i64 (ao l q 6)),(10,.own 4 0 (ns++[(t.names.getD k [])]).length),(11,.own 5 0 (ks++[rB]).length),(12,nI k),(55,.tup []),(56,.tup []),(57,.tup []),(58,.tup []),(59,.tup []),(60,.tup []),(61,.tup [])] [.box [.int .i64 ((lv)),.map 1],mS SB,t.bx,.box zC,.arr 1 ((ns++[(t.names.getD k [])]).map aa.str) 0,.arr 5 ((ks++[rB]).map Ty.enc) 0] ?_ ?_
 refine qo ?_ ?_
 refine qr 1 ?_ ?_
 refine qy (aN (a:=((k:Nat):Int)) (b:=1) kq oq oq) ?_ ?_ ?_
 refine qr 1 ?_ ?_
 refine qe ?_ ?_
 refine ab ⟨(k+1,(ns++[(t.names.getD k [])]),(ks++[rB]),SB),?_,?_,⟨⟨kq,kq,kq,kq,kq,kq,kq,kq,kq,trivial⟩,by simp [aV,aa.bel],by simp,kq,by simp [ai.belO,bM,Ty.enc_v]⟩⟩
 · try dsimp only
   omega
 rotate_left
 iterate 34 kernel_rfl
 refine qm [53,54] (decide_eq_false hb13) ?_ ?_
 refine qr 2 ?_ ?_
 refine qy (aN (a:=((q:Nat):Int)) (b:=5) kq oq oq) ?_ ?_ ?_
 refine qr 1 ?_ ?_
 refine qy (aN (a:=(((q+5):Nat):Int)) (b:=((k:Nat):Int)) kq oq oq) ?_ ?_ ?_
 refine bp (args:=[.imm (l.map (aa.int .i64)),.int .i64 ((((q+5)+k):Nat):Int),.int .i64 2]) kq kq kq kq (iu l ((q+5)+k) 2 oq oq) Gp (by simp [Ty.v]) FI ?_
 have hv14:=d5 l ((q+5)+k) 2 dq
 refine qR 2 [(0,.ptr 0 0),(2,.imm (l.map (aa.int .i64))),(3,nI q),(5,.ptr 2 0),(8,.ptr 3 0),(9,.int .i64 (ao l q 6)),(10,.own 4 0 ns.length),(11,.own 5 0 ks.length),(12,nI k),(55,.imm (l.map (aa.int .i64))),(56,nI q),(57,nI (q+5)),(58,nI k),(59,nI (((q+5)+k))),(60,.int .i64 (ao l ((q+5)+k) 2)),(61,.bool ((ao l ((q+5)+k) 2)==0)),(62,.bool ((ao l ((q+5)+k) 2)==0))] [bS lv,mS S,t.bx,.box zC,.arr 1 (ns.map aa.str) 0,.arr 5 (ks.map Ty.enc) 0] ?_ ?_
 by_cases hb15:(ao l ((q+5)+k) 2)=0
 refine qt (beq_iff_eq.2 hb15) ?_ ?_
 refine qV 4 ?_ ?_
 refine qy (ax (k:=.i64) (l:=t.names) (enc:=aa.str) (i:=((k:Nat):Int)) [] kq bi ty9 (fun _=>rfl) oq oq) ?_ ?_ ?_
 refine qr 2 ?_ ?_
 refine qY (bh (o:=4) (len:=ns.length) (l:=ns) (xs:=[(t.names.getD k [])]) (enc:=aa.str) (sz:=1) (fr:=0) (x:=(.full [.str (t.names.getD k [])])) kq bi ty9 bi rfl kq rfl rfl kq ⟨by decide,by kernel_rfl⟩ (fun _=>rfl) kJ kJ) ?_ ?_ ?_
 refine qR 1 [(0,.ptr 0 0),(2,.imm (l.map (aa.int .i64))),(3,nI q),(5,.ptr 2 0),(8,.ptr 3 0),(9,.int .i64 (ao l q 6)),(10,.own 4 0 (ns++[(t.names.getD k [])]).length),(11,.own 5 0 ks.length),(12,nI k),(55,.imm (l.map (aa.int .i64))),(56,nI q),(57,nI (q+5)),(58,nI k),(59,nI (((q+5)+k))),(60,.int .i64 (ao l ((q+5)+k) 2)),(61,.bool ((ao l ((q+5)+k) 2)==0))] [bS lv,mS S,t.bx,.box zC,.arr 1 ((ns++[(t.names.getD k [])]).map aa.str) 0,.arr 5 (ks.map Ty.enc) 0] ?_ ?_
 obtain ⟨rB,SB,hB,hB2⟩:=kB hKF hK oq oq
 have hstp:=o9 (t:=t) (k:=k) oq oq
 refine qz [(0,.ptr 0 0),(2,.imm (l.map (aa.int .i64))),(3,nI q),(5,.ptr 2 0),(8,.ptr 3 0),(9,.int .i64 (ao l q 6)),(10,.own 4 0 (ns++[(t.names.getD k [])]).length),(11,.own 5 0 ks.length),(12,nI k),(55,.imm (l.map (aa.int .i64))),(56,nI q),(57,nI (q+5)),(58,nI k),(59,nI (((q+5)+k))),(60,.int .i64 (ao l ((q+5)+k) 2)),(61,.bool ((ao l ((q+5)+k) 2)==0))] ?_ ?_
 refine qo ?_ ?_
 refine qr 5 ?_ ?_
 refine qy ((ax (k:=.i64) (l:=t.kids) (enc:=Ty.enc) (i:=((k:Nat):Int)) Ty.zero kq bf bX bg oq oq).trans (congrArg (fun cs=>some (aa.pimm cs 0,_)) (aO (t.kids.getD k Ty.zero)))) ?_ ?_ ?_
 refine qr 3 ?_ ?_
 refine qy (aN (a:=((q:Nat):Int)) (b:=2) kq oq oq) ?_ ?_ ?_
 refine qr 1 ?_ ?_
 refine qy (xQ (a:=2) (b:=((k:Nat):Int)) kq oq oq) ?_ ?_ ?_
 refine qy (aN (a:=(((q+2):Nat):Int)) (b:=(((2 * k):Nat):Int)) kq oq oq) ?_ ?_ ?_
 refine aT (args:=[.ptr 0 0,.agg [.int .i64 ((t.kids.getD k Ty.zero).kind),.str (t.kids.getD k Ty.zero).name,.int .i64 ((t.kids.getD k Ty.zero).n),.imm ((t.kids.getD k Ty.zero).names.map aa.str),.imm ((t.kids.getD k Ty.zero).kids.map Ty.enc)],.imm (l.map (aa.int .i64)),.int .i64 ((((q+2)+(2 * k)):Nat):Int)]) (hs:=[bS lv,mS S]) (hs':=[.box [.int .i64 ((lv)),.map 1],mS SB]) (aM:=[t.bx,.box zC,.arr 1 ((ns++[(t.names.getD k [])]).map aa.str) 0,.arr 5 (ks.map Ty.enc) 0]) kq kq kq kq kq (ihB S SB (t.kids.getD k Ty.zero) ((q+2)+(2 * k)) rB oq oq hB) dZ dZ rfl dZ dZ kq ?_
 refine qr 1 ?_ ?_
 refine qY (bh (o:=5) (len:=ks.length) (l:=ks) (xs:=[rB]) (enc:=Ty.enc) (sz:=5) (fr:=0) (x:=(.full [Ty.v rB])) kq bf bX bf rfl kq rfl rfl (Eq.trans (b:=some [Ty.v rB]) kq (by simp [Ty.enc_v])) ⟨by decide,by kernel_rfl⟩ gQ kJ kJ) ?_ ?_ ?_
 refine qr 1 ?_ ?_
 refine qe ?_ ?_
 refine ak ?_
 refine ab ?_
 refine qZ [(0,.ptr 0 0),(2,.imm (l.map (aa.int .i64))),(3,nI q),(5,.ptr 2 0),(8,.ptr 3 0),(9,.int .i64 (ao l q 6)),(10,.own 4 0 (ns++[(t.names.getD k [])]).length),(11,.own 5 0 (ks++[rB]).length),(12,nI k),(55,.imm (l.map (aa.int .i64))),(56,nI q),(57,nI (q+5)),(58,nI k),(59,nI (((q+5)+k))),(60,.int .i64 (ao l ((q+5)+k) 2)),(61,.bool ((ao l ((q+5)+k) 2)==0))] [.box [.int .i64 ((lv)),.map 1],mS SB,t.bx,.box zC,.arr 1 ((ns++[(t.names.getD k [])]).map aa.str) 0,.arr 5 ((ks++[rB]).map Ty.enc) 0] ?_ ?_
 refine qo ?_ ?_
 refine qr 1 ?_ ?_
 refine qy (aN (a:=((k:Nat):Int)) (b:=1) kq oq oq) ?_ ?_ ?_
 refine qr 1 ?_ ?_
 refine qe ?_ ?_
 refine ab ⟨(k+1,(ns++[(t.names.getD k [])]),(ks++[rB]),SB),?_,?_,⟨⟨kq,kq,kq,kq,kq,kq,kq,kq,kq,trivial⟩,by simp [aV,aa.bel],by simp,kq,by simp [ai.belO,bM,Ty.enc_v]⟩⟩
 · try dsimp only
   omega
 rotate_left
 iterate 33 kernel_rfl
 refine qf (beq_eq_false_iff_ne.2 hb15) ?_ ?_
 refine qk ?_ ?_
 refine ak ?_
 refine ab ?_
 refine qz [(0,.ptr 0 0),(2,.imm (l.map (aa.int .i64))),(3,nI q),(5,.ptr 2 0),(8,.ptr 3 0),(9,.int .i64 (ao l q 6)),(10,.own 4 0 ns.length),(11,.own 5 0 ks.length),(12,nI k),(55,.imm (l.map (aa.int .i64))),(56,nI q),(57,nI (q+5)),(58,nI k),(59,nI (((q+5)+k))),(60,.int .i64 (ao l ((q+5)+k) 2)),(61,.bool ((ao l ((q+5)+k) 2)==0))] ?_ ?_
 refine qo ?_ ?_
 refine qr 1 ?_ ?_
 refine qy (aN (a:=((k:Nat):Int)) (b:=1) kq oq oq) ?_ ?_ ?_
 refine qr 1 ?_ ?_
 refine qe ?_ ?_
 refine ab ⟨(k+1,ns,ks,S),?_,?_,⟨⟨kq,kq,kq,kq,kq,kq,kq,kq,kq,trivial⟩,by simp [aV,aa.bel],by simp,kq,by simp [ai.belO,bM,Ty.enc_v]⟩⟩
 · try dsimp only
   omega
 rotate_left
 iterate 24 kernel_rfl
 refine qf (decide_eq_false hb12) ?_ ?_
 refine bC 0 kq kq ?_
 refine af ?_
 refine af ?_
 refine aA ?_
 refine ab ?_
 refine qz [(0,.ptr 0 0),(8,.ptr 3 0),(9,.int .i64 (ao l q 6)),(10,.own 4 0 ns.length),(11,.own 5 0 ks.length)] ?_ ?_
 refine Ap 10 4 (es:=(ns.map aa.str)) (off:=0) (len:=ns.length) (sz:=1) (fr:=0) (ns.map aa.str) kq kq zq kq ?_
 refine Ap 11 5 (es:=(ks.map Ty.enc)) (off:=0) (len:=ks.length) (sz:=5) (fr:=0) (ks.map Ty.enc) kq kq zq kq ?_
 refine qZ [(0,.ptr 0 0),(8,.ptr 3 0),(9,.int .i64 (ao l q 6)),(10,.imm (ns.map aa.str)),(11,.imm (ks.map Ty.enc))] [bS lv,mS S,t.bx,.box zC,.arr 1 (ns.map aa.str) (ns.map aa.str).length,.arr 5 (ks.map Ty.enc) (ks.map Ty.enc).length] ?_ ?_
 refine ar ?_ ?_
 refine qU 2 [(0,.ptr 0 0),(8,.ptr 3 0),(10,.imm (ns.map aa.str)),(11,.imm (ks.map Ty.enc)),(88,.bool (decide ((ao l q 6) > 4)))] ?_ ?_
 by_cases hb16:(ao l q 6) > 4
 refine qt (decide_eq_true hb16) ?_ ?_
 refine qW 4 [(8,.ptr 3 0)] [bS lv,mS S,t.bx,.box [.int .i64 5,.str [],.int .i64 0,.imm (ns.map aa.str),.imm (ks.map Ty.enc)],.arr 1 (ns.map aa.str) (ns.map aa.str).length,.arr 5 (ks.map Ty.enc) (ks.map Ty.enc).length] ?_ ?_
 refine bb kq ?_
 apply aR
 refine aL (l:=[.agg [.int .i64 5,.str [],.int .i64 0,.imm (ns.map aa.str),.imm (ks.map Ty.enc)]]) (.inr rfl) kq IZ kK kK ?_ ?_
 refine Eq.trans (b:=[bS lv,mS S]) kq ?_
 · obtain rfl:k=t.names.length:=oq
   rw [hKF] at hK
   cases hK
   have e:=hF1 oq
   rw [← e.2];rfl
 · simp [ai.belO,hpS,Ty.v]
 iterate 2 kernel_rfl
 refine qf (decide_eq_false hb16) ?_ ?_
 refine qK ?_ ?_
 refine qz [(0,.ptr 0 0),(8,.ptr 3 0),(10,.imm (ns.map aa.str)),(11,.imm (ks.map Ty.enc))] ?_ ?_
 have hg:Dr S ns ks:=by obtain rfl:k=t.names.length:=oq;rw [hKF] at hK;cases hK;exact (hF2 oq).1
 refine qz [(0,.ptr 0 0),(8,.ptr 3 0),(10,.imm (ns.map aa.str)),(11,.imm (ks.map Ty.enc))] ?_ ?_
 refine qV 3 ?_ ?_
 refine aT (args:=[.ptr 0 0,.imm (ns.map aa.str),.imm (ks.map Ty.enc)]) (hs:=[bS lv,mS S]) (hs':=[.box [.int .i64 ((lv)),.map 1],mS (lr (lv) S (bY ns ks 0).names)]) (aM:=[t.bx,.box zC,.arr 1 (ns.map aa.str) (ns.map aa.str).length,.arr 5 (ks.map Ty.enc) (ks.map Ty.enc).length]) kq kq kq kq kq (tf ns ks (lv) S hg.n hg.nl hg.kz hg.sm hg.ml hg.ok) dZ dZ rfl dZ dZ kq ?_
 refine qR 6 [(8,.ptr 3 0),(13,.ptr 6 0)] [.box [.int .i64 ((lv)),.map 1],mS (lr (lv) S (bY ns ks 0).names),t.bx,.box zC,.arr 1 (ns.map aa.str) (ns.map aa.str).length,.arr 5 (ks.map Ty.enc) (ks.map Ty.enc).length,(bY ns ks (((S.length+1:Nat)):Int)).bx] ?_ ?_
 refine qW 2 [(8,.ptr 3 0)] [.box [.int .i64 ((lv)),.map 1],mS (lr (lv) S (bY ns ks 0).names),t.bx,(bY ns ks (((S.length+1:Nat)):Int)).bx,.arr 1 (ns.map aa.str) (ns.map aa.str).length,.arr 5 (ks.map Ty.enc) (ks.map Ty.enc).length,(bY ns ks (((S.length+1:Nat)):Int)).bx] ?_ ?_
 refine bb kq ?_
 refine aL (l:=[.agg [.int .i64 ((bY ns ks (((S.length+1:Nat)):Int)).kind),.str (bY ns ks (((S.length+1:Nat)):Int)).name,.int .i64 ((bY ns ks (((S.length+1:Nat)):Int)).n),.imm ((bY ns ks (((S.length+1:Nat)):Int)).names.map aa.str),.imm ((bY ns ks (((S.length+1:Nat)):Int)).kids.map Ty.enc)]]) (.inr rfl) kq IR kK kK ?_ ?_
 refine Eq.trans (b:=[.box [.int .i64 ((lv)),.map 1],mS (lr (lv) S (bY ns ks 0).names)]) kq ?_
 · obtain rfl:k=t.names.length:=oq
   rw [hKF] at hK
   cases hK
   have e:=hF2 oq
   rw [← e.2.2];rfl
 · simp [ai.belO,hpS,Ty.v]
 iterate 29 kernel_rfl
 refine qt (x:=((t.kind) != 5)) (bne_iff_ne.2 hb11) ?_ ?_
 refine qW 2 [(8,.ptr 3 0)] [bS lv,mS m,t.bx,t.bx] ?_ ?_
 refine bb kq ?_
 apply aR
 refine aL (l:=[.agg [.int .i64 (t.kind),.str t.name,.int .i64 (t.n),.imm (t.names.map aa.str),.imm (t.kids.map Ty.enc)]]) (.inr rfl) kq IM kK kK ?_ ?_
 refine Eq.trans (b:=[bS lv,mS m]) kq ?_
 · have e:=((u2 oq).2 oq).1 aq
   rw [← e.2];rfl
 · simp [ai.belO,hpS,Ty.v]
 iterate 19 kernel_rfl
 all_goals
  try dsimp only
  refine ⟨by omega,?_⟩
  first|exact hB2|exact DZ hK oq
theorem gH (x:Ty) (hx:x.sz<100000000):ay cx 16 [x.v,x.v] (.bool true):=by
 have:=nH x x hx
 rwa [beq_refl] at this
theorem Ah {x t:Ty} (hx:x.sz<100000000) (ht:t.sz<100000000) (h:rl x t=true):ay cx 19 [x.v,t.v] (.bool true):=by
 have:=tO x t hx ht
 rwa [h] at this
noncomputable def c5:Code:=aE Tryz.f5
mutual
theorem xu (f:Int→Int):∀ t:Ty,(renT f t).sz=t.sz
 | .mk k x n l ks=>by rw [renT,Ty.sz,Ty.sz,tl f ks]
theorem tl (f:Int→Int):∀ l:List Ty,Ty.szL (eO f l)=Ty.szL l
 | []=>rfl
 | t::l=>by rw [eO,Ty.szL,Ty.szL,xu f t,tl f l]
end
theorem mt (l:List Ty):(bn l).length=l.length:=by simp [bn]
theorem FC {l:List Ty} (h:okT l) (i:Nat):((bn l).getD i Ty.zero).sz<100000000:=by
 by_cases hi:i<l.length
 · have:=h.2 i
   rw [List.getD_eq_getElem?_getD,List.getElem?_eq_getElem hi] at this
   rw [List.getD_eq_getElem?_getD,List.getElem?_eq_getElem (by rw [mt];exact hi)]
   simp only [bn,List.getElem_map,Option.getD_some] at this ⊢
   rw [xu];exact this
 · rw [List.getD_eq_getElem?_getD,List.getElem?_eq_none (by rw [mt];omega)]
   simp [Ty.zero,Ty.sz,szS,Ty.szL]
noncomputable def c25:Code:=aE Tryz.f25
theorem Cg (l1 l2:List Ty) (h1:okT l1) (h2:okT l2) (he:bn l1=bn l2):ay cx 25 [.imm (l1.map Ty.enc),.imm (l2.map Ty.enc)] (.bool true):=by
 have hs1:=FC h1
 have hn1:=mt l1
 have hn2:=mt l2
 have hnn:=congrArg List.length he
 have h18:=h1.1
 refine ap (cx:=cx) 33 0 [(ResultVar.tmp 4)] Tryz.func25 rfl rfl rfl rfl rfl zq ?_
 show wpA cx 33 0 (at_ c25 []) _ _ _
 refine qZ [(0,.imm (l1.map Ty.enc)),(1,.imm (l2.map Ty.enc))] [] ?_ ?_
 refine qU 1 [(0,.imm (l1.map Ty.enc)),(1,.imm (l2.map Ty.enc))] ?_ ?_
 refine qV 1 ?_ ?_
 refine bp (args:=[.imm (l1.map Ty.enc)]) kq kq kq kq (nJ l1 aq) (by simp [Ty.v,bm,Occ.v]) (by simp [Ty.v]) (by simp [Ty.v,a7]) ?_
 refine qR 1 [(1,.imm (l2.map Ty.enc)),(5,.imm ((bn l1).map Ty.enc))] [] ?_ ?_
 refine qV 1 ?_ ?_
 refine bp (args:=[.imm (l2.map Ty.enc)]) kq kq kq kq (nJ l2 aq) (by simp [Ty.v,bm,Occ.v]) (by simp [Ty.v]) (by simp [Ty.v,a7]) ?_
 refine qR 1 [(5,.imm ((bn l1).map Ty.enc)),(6,.imm ((bn l2).map Ty.enc))] [] ?_ ?_
 refine ar ?_ ?_
 refine qV 1 ?_ ?_
 refine qy (au (l:=(bn l1)) (enc:=Ty.enc) kq bf) ?_ ?_ ?_
 refine qr 1 ?_ ?_
 refine qy (au (l:=(bn l2)) (enc:=Ty.enc) kq bf) ?_ ?_ ?_
 refine qR 1 [(5,.imm ((bn l1).map Ty.enc)),(6,.imm ((bn l2).map Ty.enc)),(16,.bool ((((bn l1).length:Nat):Int) != (((bn l2).length:Nat):Int)))] [] ?_ ?_
 by_cases hb1:(((bn l1).length:Nat):Int)=(((bn l2).length:Nat):Int)
 refine qf (x:=((((bn l1).length:Nat):Int) != (((bn l2).length:Nat):Int))) (bne_eq_false_iff_eq.2 hb1) ?_ ?_
 refine qK ?_ ?_
 refine qz [(5,.imm ((bn l1).map Ty.enc)),(6,.imm ((bn l2).map Ty.enc))] ?_ ?_
 refine ar ?_ ?_
 refine qU 1 [(5,.imm ((bn l1).map Ty.enc)),(6,.imm ((bn l2).map Ty.enc)),(7,.int .i64 0)] ?_ ?_
 refine qB 0 ?_ ?_ ?_
 refine bR (σ:=Nat) (fun k=>[(5,.imm ((bn l1).map Ty.enc)),(6,.imm ((bn l2).map Ty.enc)),(7,.int .i64 ((k:Nat):Int))]) (fun k=>[]) (fun k=>k≤(bn l1).length) (fun k=>(bn l1).length - k) 0 kq (by exact Nat.zero_le _) ⟨⟨kq,kq,kq,trivial⟩,by simp [aV,aa.bel],by simp,kq,by simp [ai.belO]⟩ ?_
 rintro k hk
 refine ar ?_ ?_
 refine qV 2 ?_ ?_
 refine qy (au (l:=(bn l1)) (enc:=Ty.enc) kq bf) ?_ ?_ ?_
 refine qR 1 [(5,.imm ((bn l1).map Ty.enc)),(6,.imm ((bn l2).map Ty.enc)),(7,nI k),(20,.bool (decide (((k:Nat):Int)<(((bn l1).length:Nat):Int))))] [] ?_ ?_
 by_cases hb2:((k:Nat):Int)<(((bn l1).length:Nat):Int)
 refine qt (decide_eq_true hb2) ?_ ?_
 refine qK ?_ ?_
 refine qz [(5,.imm ((bn l1).map Ty.enc)),(6,.imm ((bn l2).map Ty.enc)),(7,nI k)] ?_ ?_
 refine ar ?_ ?_
 refine qB 1 ?_ ?_ ?_
 refine ar ?_ ?_
 refine cK cxM kq aB (bv ?_)
 refine qu 2 ?_ ?_
 refine qd ((ax (k:=.i64) (l:=(bn l1)) (enc:=Ty.enc) (i:=((k:Nat):Int)) Ty.zero kq bf bX bg oq oq).trans (congrArg (fun cs=>some (aa.pimm cs 0,_)) (aO ((bn l1).getD k Ty.zero)))) ?_ ?_ ?_ ?_
 refine qu 3 ?_ ?_
 refine qd ((ax (k:=.i64) (l:=(bn l2)) (enc:=Ty.enc) (i:=((k:Nat):Int)) Ty.zero kq bf bX bg oq oq).trans (congrArg (fun cs=>some (aa.pimm cs 0,_)) (aO ((bn l2).getD k Ty.zero)))) ?_ ?_ ?_ ?_
 refine qu 1 ?_ ?_
 refine cB (args:=[.agg [.int .i64 (((bn l1).getD k Ty.zero).kind),.str ((bn l1).getD k Ty.zero).name,.int .i64 (((bn l1).getD k Ty.zero).n),.imm (((bn l1).getD k Ty.zero).names.map aa.str),.imm (((bn l1).getD k Ty.zero).kids.map Ty.enc)],.agg [.int .i64 (((bn l2).getD k Ty.zero).kind),.str ((bn l2).getD k Ty.zero).name,.int .i64 (((bn l2).getD k Ty.zero).n),.imm (((bn l2).getD k Ty.zero).names.map aa.str),.imm (((bn l2).getD k Ty.zero).kids.map Ty.enc)]]) kq kq kq kq kq (xh ((bn l1).getD k Ty.zero) ((bn l2).getD k Ty.zero) (hs1 _)) (by intro _;simp [Ty.v,bm,Occ.v]) (by simp [Ty.v]) (by simp [Ty.v,a7]) ?_
 refine qu 1 ?_ ?_
 refine cn kq ⟨kq,?_⟩
 refine ab ?_
 refine qZ [(5,.imm ((bn l1).map Ty.enc)),(6,.imm ((bn l2).map Ty.enc)),(7,nI k),(32,.bool (!(((bn l1).getD k Ty.zero).beq ((bn l2).getD k Ty.zero))))] [] ?_ ?_
 by_cases hb3:(((bn l1).getD k Ty.zero).beq ((bn l2).getD k Ty.zero))=true
 refine qf (x:=(!(((bn l1).getD k Ty.zero).beq ((bn l2).getD k Ty.zero)))) (congrArg not (hb3)) ?_ ?_
 refine qk ?_ ?_
 refine ak ?_
 refine ab ?_
 refine qz [(5,.imm ((bn l1).map Ty.enc)),(6,.imm ((bn l2).map Ty.enc)),(7,nI k)] ?_ ?_
 refine qo ?_ ?_
 refine qr 1 ?_ ?_
 refine qy (aN (a:=((k:Nat):Int)) (b:=1) kq oq oq) ?_ ?_ ?_
 refine qr 1 ?_ ?_
 refine qe ?_ ?_
 refine ab ⟨k+1,?_,?_,⟨⟨kq,kq,kq,trivial⟩,by simp [aV,aa.bel],by simp,kq,by simp [ai.belO]⟩⟩
 · omega
 · omega
 iterate 9 kernel_rfl
 · exfalso;first|omega|(simp_all [beq_refl])
 iterate 18 kernel_rfl
 refine qf (decide_eq_false hb2) ?_ ?_
 refine bC 0 kq kq ?_
 refine af ?_
 refine af ?_
 refine aA ?_
 refine ab ?_
 refine qz [] ?_ ?_
 refine qV 1 ?_ ?_
 refine qT ?_ ?_
 refine aH (b:=true) (.inr rfl) kq ?_
 · rfl
 iterate 16 kernel_rfl
 · exfalso;first|omega|(simp_all [beq_refl])
 iterate 14 kernel_rfl
theorem Aj {p q:Ty} (hp:p.sz<100000000) (hq:q.sz<100000000):okT [p,q]:=⟨by simp,fun i=>by
 match i with
 | 0=>exact hp
 | 1=>exact hq
 | i+2=>simp [Ty.zero,Ty.sz,szS,Ty.szL]⟩
theorem xW {p q r s:Ty} (hp:p.sz<100000000) (hq:q.sz<100000000) (hr:r.sz<100000000) (hs:s.sz<100000000) (h:lR [p,q]=lR [r,s]):ay cx 25 [.imm [p.v,q.v],.imm [r.v,s.v]] (.bool true):=by
 have:=Cg [p,q] [r,s] (Aj hp hq) (Aj hr hs) (by rw [← th,← th];exact h)
 simpa [Ty.enc_v] using this
noncomputable def c6:Code:=aE Tryz.f6
theorem eM {p:Prop} (h:p:=by simp [-List.map_append,-List.map_take,-List.map_drop,-List.append_assoc,aa.refs,cY,ai.refs,ai.isIter,kZ,Abs.renT,ee,lh,ai.ren,aa.ren,bV,List.idxOf_cons,zT,oZ,Ty.enc_v,Ty.v]):p:=h
theorem b3 {p:Prop} (h:p:=by simp [ai.belO,hpV,Ty.v]):p:=h
theorem rR {p:Prop} (h:p:=by simp [aa.frz,bo,aa.ren,bV,dB,ai.ren,bc,cb,aS,aa.owns,ae,ix]):p:=h
theorem rW {p:Prop} (h:p:=by simp [Ty.v,aS,aa.owns]):p:=h
theorem yh {p:Prop} (h:p:=by simp [aa.frz,bo,Ty.v]):p:=h
theorem sg {p:Prop} (h:p:=by simp [Ty.v]):p:=h
theorem GP {p:Prop} (h:p:=by intro _;simp [aa.frz,bo,Ty.v]):p:=h
theorem zA (l m n:List Int) (t1 t2 a b x y p r:Ty) (A1 A S1 U1:St) (k1 k2 fx fy f3 f4 f5 fp fq fr fs:Nat) (hl:jq l) (hm:jq m) (hn:jq n) (hT1:ay cx 13 [.imm (l.map (.int .i64)),.int .i64 0,.int .i64 2] t1.v) (hT2:ay cx 13 [.imm (m.map (.int .i64)),.int .i64 0,.int .i64 2] t2.v) (z1:t1.sz<100000000) (z2:t2.sz<100000000) (za:a.sz<100000000) (zb:b.sz<100000000) (zx:x.sz<100000000) (zy:y.sz<100000000) (h1:dh n 0 k1 [] t1 0=some (a,A1)) (h2:dh n 0 k2 A1 t2 3=some (b,A)) (sA:dP A) (gaA:cD A a=true) (gbA:cD A b=true) (rx:dl fx A a=some x) (ry:dl fy A b=some y) (zp:p.sz<100000000) (zr:r.sz<100000000) (e3:bq f3 A a b=some (true,S1)) (e4:bq f4 A b a=some (true,U1)) (sS1:dP S1) (sU1:dP U1) (gaS:cD S1 a=true) (gbS:cD S1 b=true) (gaU:cD U1 a=true) (gbU:cD U1 b=true) (rp:dl fp S1 a=some p) (rq:dl fq S1 b=some p) (rr:dl fr U1 a=some r) (rs:dl fs U1 b=some r) (hcan:lR [p,p]=lR [r,r]) (mx:rl x p=true) (my:rl y p=true) (e5:bq f5 S1 a b=some (true,S1)):ay cx 6 [.imm (l.map (aa.int .i64)),.imm (m.map (aa.int .i64)),.imm (n.map (aa.int .i64))] (.bool true):=by
 refine ap (cx:=cx) 151 0 [(ResultVar.tmp 6)] Tryz.func6 rfl rfl rfl rfl rfl zq ?_
 show wpA cx 151 0 (at_ c6 []) _ _ _
 refine qZ [(0,.imm (l.map (aa.int .i64))),(1,.imm (m.map (aa.int .i64))),(2,.imm (n.map (aa.int .i64)))] [] ?_ ?_
 refine qU 1 [(0,.imm (l.map (aa.int .i64))),(1,.imm (m.map (aa.int .i64))),(2,.imm (n.map (aa.int .i64)))] ?_ ?_
 refine qO ?_ ?_
 refine m0 (args:=[]) (args':=[]) (V':=.ptr 1 0) (F:=[]) (G':=[mS ([]:List (Int×Vr)),.box [.int .i64 0,.map 0]]) kq kq kq kq (oQ) [] kq rR rR rR rR rR ?_
 refine qR 1 [(0,.imm (l.map (aa.int .i64))),(1,.imm (m.map (aa.int .i64))),(2,.imm (n.map (aa.int .i64))),(7,.ptr 1 0)] [mS ([]:List (Int×Vr)),.box [.int .i64 0,.map 0]] ?_ ?_
 refine qO ?_ ?_
 refine m0 (args:=[]) (args':=[]) (V':=.ptr 3 0) (F:=[mS ([]:List (Int×Vr)),.box [.int .i64 0,.map 0]]) (G':=[mS ([]:List (Int×Vr)),.box [.int .i64 0,.map 2]]) kq kq kq kq (oQ) [mS ([]:List (Int×Vr)),.box [.int .i64 0,.map 0]] kq rR rR rR rR rR ?_
 refine qR 1 [(0,.imm (l.map (aa.int .i64))),(1,.imm (m.map (aa.int .i64))),(2,.imm (n.map (aa.int .i64))),(7,.ptr 1 0),(8,.ptr 3 0)] [mS ([]:List (Int×Vr)),.box [.int .i64 0,.map 0],mS ([]:List (Int×Vr)),.box [.int .i64 0,.map 2]] ?_ ?_
 refine ar ?_ ?_
 refine qU 6 [(0,.imm (l.map (aa.int .i64))),(1,.imm (m.map (aa.int .i64))),(2,.imm (n.map (aa.int .i64))),(7,.ptr 1 0),(8,.ptr 3 0),(26,.bool false)] ?_ ?_
 refine dY kq kq ?_
 refine qK ?_ ?_
 refine qz [(0,.imm (l.map (aa.int .i64))),(1,.imm (m.map (aa.int .i64))),(2,.imm (n.map (aa.int .i64))),(7,.ptr 1 0),(8,.ptr 3 0)] ?_ ?_
 refine iB [1,0,3,2] [(0,.imm (l.map (aa.int .i64))),(1,.imm (m.map (aa.int .i64))),(2,.imm (n.map (aa.int .i64))),(7,.ptr 0 0),(8,.ptr 2 0)] [bS 0,mS ([]:List (Int×Vr)),.box [.int .i64 0,.map 3],mS ([]:List (Int×Vr))] dq eM eM eM eM ?_
 refine qZ [(0,.imm (l.map (aa.int .i64))),(1,.imm (m.map (aa.int .i64))),(2,.imm (n.map (aa.int .i64))),(7,.ptr 0 0),(8,.ptr 2 0)] [bS 0,mS ([]:List (Int×Vr)),.box [.int .i64 0,.map 3],mS ([]:List (Int×Vr))] ?_ ?_
 refine qV 2 ?_ ?_
 refine bp (args:=[.imm (l.map (aa.int .i64)),.int .i64 0,.int .i64 2]) kq kq kq kq (hT1) yh sg rW ?_
 refine qr 1 ?_ ?_
 refine aT (args:=[.ptr 0 0,Ty.v t1,.imm (n.map (aa.int .i64)),.int .i64 0]) (hs:=[bS 0,mS ([]:List (Int×Vr))]) (hs':=[bS 0,mS A1]) (aM:=[.box [.int .i64 0,.map 3],mS ([]:List (Int×Vr))]) kq kq kq kq kq (jz n k1 0 t1 a 0 [] A1 hn oq oq h1) b3 b3 rfl b3 b3 kq ?_
 refine qR 2 [(0,.imm (l.map (aa.int .i64))),(1,.imm (m.map (aa.int .i64))),(2,.imm (n.map (aa.int .i64))),(7,.ptr 0 0),(8,.ptr 2 0),(9,.ptr 4 0)] [bS 0,mS A1,.box [.int .i64 0,.map 3],mS ([]:List (Int×Vr)),a.bx] ?_ ?_
 refine qV 2 ?_ ?_
 refine bp (args:=[.imm (m.map (aa.int .i64)),.int .i64 0,.int .i64 2]) kq kq kq kq (hT2) yh sg rW ?_
 refine qr 1 ?_ ?_
 refine aT (args:=[.ptr 0 0,Ty.v t2,.imm (n.map (aa.int .i64)),.int .i64 3]) (hs:=[bS 0,mS A1]) (hs':=[bS 0,mS A]) (aM:=[.box [.int .i64 0,.map 3],mS ([]:List (Int×Vr)),a.bx]) kq kq kq kq kq (jz n k2 3 t2 b 0 A1 A hn oq oq h2) b3 b3 rfl b3 b3 kq ?_
 refine qR 2 [(0,.imm (l.map (aa.int .i64))),(1,.imm (m.map (aa.int .i64))),(2,.imm (n.map (aa.int .i64))),(7,.ptr 0 0),(8,.ptr 2 0),(9,.ptr 4 0),(10,.ptr 5 0)] [bS 0,mS A,.box [.int .i64 0,.map 3],mS ([]:List (Int×Vr)),a.bx,b.bx] ?_ ?_
 refine iB [2,3,0,1,4,5] [(0,.imm (l.map (aa.int .i64))),(1,.imm (m.map (aa.int .i64))),(2,.imm (n.map (aa.int .i64))),(7,.ptr 2 0),(8,.ptr 0 0),(9,.ptr 4 0),(10,.ptr 5 0)] [bS 0,mS ([]:List (Int×Vr)),.box [.int .i64 0,.map 3],mS A,a.bx,b.bx] dq eM eM eM eM ?_
 refine qZ [(0,.imm (l.map (aa.int .i64))),(1,.imm (m.map (aa.int .i64))),(2,.imm (n.map (aa.int .i64))),(7,.ptr 2 0),(8,.ptr 0 0),(9,.ptr 4 0),(10,.ptr 5 0)] [bS 0,mS ([]:List (Int×Vr)),.box [.int .i64 0,.map 3],mS A,a.bx,b.bx] ?_ ?_
 refine qV 2 ?_ ?_
 refine bp (args:=[.imm (l.map (aa.int .i64)),.int .i64 0,.int .i64 2]) kq kq kq kq (hT1) yh sg rW ?_
 refine qr 1 ?_ ?_
 refine aT (args:=[.ptr 0 0,Ty.v t1,.imm (n.map (aa.int .i64)),.int .i64 0]) (hs:=[bS 0,mS ([]:List (Int×Vr))]) (hs':=[bS 0,mS A1]) (aM:=[.box [.int .i64 0,.map 3],mS A,a.bx,b.bx]) kq kq kq kq kq (jz n k1 0 t1 a 0 [] A1 hn oq oq h1) b3 b3 rfl b3 b3 kq ?_
 refine qR 2 [(1,.imm (m.map (aa.int .i64))),(2,.imm (n.map (aa.int .i64))),(7,.ptr 2 0),(8,.ptr 0 0),(9,.ptr 4 0),(10,.ptr 5 0),(11,.ptr 6 0)] [bS 0,mS A1,.box [.int .i64 0,.map 3],mS A,a.bx,b.bx,a.bx] ?_ ?_
 refine qV 2 ?_ ?_
 refine bp (args:=[.imm (m.map (aa.int .i64)),.int .i64 0,.int .i64 2]) kq kq kq kq (hT2) yh sg rW ?_
 refine qr 1 ?_ ?_
 refine aT (args:=[.ptr 0 0,Ty.v t2,.imm (n.map (aa.int .i64)),.int .i64 3]) (hs:=[bS 0,mS A1]) (hs':=[bS 0,mS A]) (aM:=[.box [.int .i64 0,.map 3],mS A,a.bx,b.bx,a.bx]) kq kq kq kq kq (jz n k2 3 t2 b 0 A1 A hn oq oq h2) b3 b3 rfl b3 b3 kq ?_
 refine qR 2 [(7,.ptr 2 0),(8,.ptr 0 0),(9,.ptr 4 0),(10,.ptr 5 0),(11,.ptr 6 0),(12,.ptr 7 0)] [bS 0,mS A,.box [.int .i64 0,.map 3],mS A,a.bx,b.bx,a.bx,b.bx] ?_ ?_
 refine iB [2,3,0,1,4,5,6,7] [(7,.ptr 0 0),(8,.ptr 2 0),(9,.ptr 4 0),(10,.ptr 5 0),(11,.ptr 6 0),(12,.ptr 7 0)] [bS 0,mS A,.box [.int .i64 0,.map 3],mS A,a.bx,b.bx,a.bx,b.bx] dq eM eM eM eM ?_
 refine qZ [(7,.ptr 0 0),(8,.ptr 2 0),(9,.ptr 4 0),(10,.ptr 5 0),(11,.ptr 6 0),(12,.ptr 7 0)] [bS 0,mS A,.box [.int .i64 0,.map 3],mS A,a.bx,b.bx,a.bx,b.bx] ?_ ?_
 refine qV 2 ?_ ?_
 refine aT (args:=[.ptr 0 0,.agg [.int .i64 (a.kind),.str a.name,.int .i64 (a.n),.imm (a.names.map aa.str),.imm (a.kids.map Ty.enc)]]) (hs:=[bS 0,mS A]) (hs':=[bS 0,mS A]) (aM:=[.box [.int .i64 0,.map 3],mS A,a.bx,b.bx,a.bx,b.bx]) kq kq kq kq kq (bW fx a x 0 A oq sA gaA rx) b3 b3 rfl b3 b3 kq ?_
 refine qR 2 [(7,.ptr 0 0),(8,.ptr 2 0),(9,.ptr 4 0),(10,.ptr 5 0),(11,.ptr 6 0),(12,.ptr 7 0),(13,.ptr 8 0)] [bS 0,mS A,.box [.int .i64 0,.map 3],mS A,a.bx,b.bx,a.bx,b.bx,x.bx] ?_ ?_
 refine qV 2 ?_ ?_
 refine aT (args:=[.ptr 0 0,.agg [.int .i64 (b.kind),.str b.name,.int .i64 (b.n),.imm (b.names.map aa.str),.imm (b.kids.map Ty.enc)]]) (hs:=[bS 0,mS A]) (hs':=[bS 0,mS A]) (aM:=[.box [.int .i64 0,.map 3],mS A,a.bx,b.bx,a.bx,b.bx,x.bx]) kq kq kq kq kq (bW fy b y 0 A oq sA gbA ry) b3 b3 rfl b3 b3 kq ?_
 refine qR 2 [(7,.ptr 0 0),(8,.ptr 2 0),(9,.ptr 4 0),(10,.ptr 5 0),(11,.ptr 6 0),(12,.ptr 7 0),(13,.ptr 8 0),(14,.ptr 9 0)] [bS 0,mS A,.box [.int .i64 0,.map 3],mS A,a.bx,b.bx,a.bx,b.bx,x.bx,y.bx] ?_ ?_
 refine qV 3 ?_ ?_
 refine aT (args:=[.ptr 0 0,.agg [.int .i64 (a.kind),.str a.name,.int .i64 (a.n),.imm (a.names.map aa.str),.imm (a.kids.map Ty.enc)],.agg [.int .i64 (b.kind),.str b.name,.int .i64 (b.n),.imm (b.names.map aa.str),.imm (b.kids.map Ty.enc)]]) (hs:=[bS 0,mS A]) (hs':=[bS 0,mS S1]) (aM:=[.box [.int .i64 0,.map 3],mS A,a.bx,b.bx,a.bx,b.bx,x.bx,y.bx]) kq kq kq kq kq (pU f3 a b 0 A S1 oq oq sA gaA gbA e3) b3 b3 rfl b3 b3 kq ?_
 refine qR 1 [(7,.ptr 0 0),(8,.ptr 2 0),(9,.ptr 4 0),(10,.ptr 5 0),(11,.ptr 6 0),(12,.ptr 7 0),(13,.ptr 8 0),(14,.ptr 9 0),(15,.int .i64 0)] [bS 0,mS S1,.box [.int .i64 0,.map 3],mS A,a.bx,b.bx,a.bx,b.bx,x.bx,y.bx] ?_ ?_
 refine iB [2,3,0,1,4,5,6,7,8,9] [(7,.ptr 2 0),(8,.ptr 0 0),(9,.ptr 4 0),(10,.ptr 5 0),(11,.ptr 6 0),(12,.ptr 7 0),(13,.ptr 8 0),(14,.ptr 9 0),(15,.int .i64 0)] [bS 0,mS A,.box [.int .i64 0,.map 3],mS S1,a.bx,b.bx,a.bx,b.bx,x.bx,y.bx] dq eM eM eM eM ?_
 refine qZ [(7,.ptr 2 0),(8,.ptr 0 0),(9,.ptr 4 0),(10,.ptr 5 0),(11,.ptr 6 0),(12,.ptr 7 0),(13,.ptr 8 0),(14,.ptr 9 0),(15,.int .i64 0)] [bS 0,mS A,.box [.int .i64 0,.map 3],mS S1,a.bx,b.bx,a.bx,b.bx,x.bx,y.bx] ?_ ?_
 refine qV 3 ?_ ?_
 refine aT (args:=[.ptr 0 0,.agg [.int .i64 (b.kind),.str b.name,.int .i64 (b.n),.imm (b.names.map aa.str),.imm (b.kids.map Ty.enc)],.agg [.int .i64 (a.kind),.str a.name,.int .i64 (a.n),.imm (a.names.map aa.str),.imm (a.kids.map Ty.enc)]]) (hs:=[bS 0,mS A]) (hs':=[bS 0,mS U1]) (aM:=[.box [.int .i64 0,.map 3],mS S1,a.bx,b.bx,a.bx,b.bx,x.bx,y.bx]) kq kq kq kq kq (pU f4 b a 0 A U1 oq oq sA gbA gaA e4) b3 b3 rfl b3 b3 kq ?_
 refine qR 1 [(7,.ptr 2 0),(8,.ptr 0 0),(9,.ptr 4 0),(10,.ptr 5 0),(11,.ptr 6 0),(12,.ptr 7 0),(13,.ptr 8 0),(14,.ptr 9 0),(15,.int .i64 0),(16,.int .i64 0)] [bS 0,mS U1,.box [.int .i64 0,.map 3],mS S1,a.bx,b.bx,a.bx,b.bx,x.bx,y.bx] ?_ ?_
 refine iB [2,3,0,1,4,5,6,7,8,9] [(7,.ptr 0 0),(8,.ptr 2 0),(9,.ptr 4 0),(10,.ptr 5 0),(11,.ptr 6 0),(12,.ptr 7 0),(13,.ptr 8 0),(14,.ptr 9 0),(15,.int .i64 0),(16,.int .i64 0)] [bS 0,mS S1,.box [.int .i64 0,.map 3],mS U1,a.bx,b.bx,a.bx,b.bx,x.bx,y.bx] dq eM eM eM eM ?_
 refine qZ [(7,.ptr 0 0),(8,.ptr 2 0),(9,.ptr 4 0),(10,.ptr 5 0),(11,.ptr 6 0),(12,.ptr 7 0),(13,.ptr 8 0),(14,.ptr 9 0),(15,.int .i64 0),(16,.int .i64 0)] [bS 0,mS S1,.box [.int .i64 0,.map 3],mS U1,a.bx,b.bx,a.bx,b.bx,x.bx,y.bx] ?_ ?_
 refine qV 2 ?_ ?_
 refine aT (args:=[.ptr 0 0,.agg [.int .i64 (a.kind),.str a.name,.int .i64 (a.n),.imm (a.names.map aa.str),.imm (a.kids.map Ty.enc)]]) (hs:=[bS 0,mS S1]) (hs':=[bS 0,mS S1]) (aM:=[.box [.int .i64 0,.map 3],mS U1,a.bx,b.bx,a.bx,b.bx,x.bx,y.bx]) kq kq kq kq kq (bW fp a p 0 S1 oq sS1 gaS rp) b3 b3 rfl b3 b3 kq ?_
 refine qR 2 [(7,.ptr 0 0),(8,.ptr 2 0),(9,.ptr 4 0),(10,.ptr 5 0),(11,.ptr 6 0),(12,.ptr 7 0),(13,.ptr 8 0),(14,.ptr 9 0),(15,.int .i64 0),(16,.int .i64 0),(17,.ptr 10 0)] [bS 0,mS S1,.box [.int .i64 0,.map 3],mS U1,a.bx,b.bx,a.bx,b.bx,x.bx,y.bx,p.bx] ?_ ?_
 refine qV 2 ?_ ?_
 refine aT (args:=[.ptr 0 0,.agg [.int .i64 (b.kind),.str b.name,.int .i64 (b.n),.imm (b.names.map aa.str),.imm (b.kids.map Ty.enc)]]) (hs:=[bS 0,mS S1]) (hs':=[bS 0,mS S1]) (aM:=[.box [.int .i64 0,.map 3],mS U1,a.bx,b.bx,a.bx,b.bx,x.bx,y.bx,p.bx]) kq kq kq kq kq (bW fq b p 0 S1 oq sS1 gbS rq) b3 b3 rfl b3 b3 kq ?_
 refine qR 2 [(7,.ptr 0 0),(8,.ptr 2 0),(9,.ptr 4 0),(10,.ptr 5 0),(11,.ptr 6 0),(12,.ptr 7 0),(13,.ptr 8 0),(14,.ptr 9 0),(15,.int .i64 0),(16,.int .i64 0),(17,.ptr 10 0),(18,.ptr 11 0)] [bS 0,mS S1,.box [.int .i64 0,.map 3],mS U1,a.bx,b.bx,a.bx,b.bx,x.bx,y.bx,p.bx,p.bx] ?_ ?_
 refine iB [2,3,0,1,4,5,6,7,8,9,10,11] [(7,.ptr 2 0),(8,.ptr 0 0),(9,.ptr 4 0),(10,.ptr 5 0),(11,.ptr 6 0),(12,.ptr 7 0),(13,.ptr 8 0),(14,.ptr 9 0),(15,.int .i64 0),(16,.int .i64 0),(17,.ptr 10 0),(18,.ptr 11 0)] [bS 0,mS U1,.box [.int .i64 0,.map 3],mS S1,a.bx,b.bx,a.bx,b.bx,x.bx,y.bx,p.bx,p.bx] dq eM eM eM eM ?_
 refine qZ [(7,.ptr 2 0),(8,.ptr 0 0),(9,.ptr 4 0),(10,.ptr 5 0),(11,.ptr 6 0),(12,.ptr 7 0),(13,.ptr 8 0),(14,.ptr 9 0),(15,.int .i64 0),(16,.int .i64 0),(17,.ptr 10 0),(18,.ptr 11 0)] [bS 0,mS U1,.box [.int .i64 0,.map 3],mS S1,a.bx,b.bx,a.bx,b.bx,x.bx,y.bx,p.bx,p.bx] ?_ ?_
 refine ar ?_ ?_
 refine ar ?_ ?_
 refine cK cxM kq aB (bv ?_)
 refine qu 9 ?_ ?_
 refine cV (args:=[.ptr 0 0,.agg [.int .i64 (a.kind),.str a.name,.int .i64 (a.n),.imm (a.names.map aa.str),.imm (a.kids.map Ty.enc)]]) (hs:=[bS 0,mS U1]) (hs':=[bS 0,mS U1]) (aM:=[.box [.int .i64 0,.map 3],mS S1,a.bx,b.bx,a.bx,b.bx,x.bx,y.bx,p.bx,p.bx]) (L:=[0,1]) kq kq kq kq kq kq (bW fr a r 0 U1 oq sU1 gaU rr) b3 b3 rfl b3 b3 kq rfl rfl ?_
 refine qu 2 ?_ ?_
 refine cV (args:=[.ptr 0 0,.agg [.int .i64 (b.kind),.str b.name,.int .i64 (b.n),.imm (b.names.map aa.str),.imm (b.kids.map Ty.enc)]]) (hs:=[bS 0,mS U1]) (hs':=[bS 0,mS U1]) (aM:=[.box [.int .i64 0,.map 3],mS S1,a.bx,b.bx,a.bx,b.bx,x.bx,y.bx,p.bx,p.bx]) (L:=[0,1]) kq kq kq kq kq kq (bW fs b r 0 U1 oq sU1 gbU rs) b3 b3 rfl b3 b3 kq rfl rfl ?_
 refine qu 1 ?_ ?_
 refine cB (args:=[.full [.agg [.int .i64 (p.kind),.str p.name,.int .i64 (p.n),.imm (p.names.map aa.str),.imm (p.kids.map Ty.enc)],.agg [.int .i64 (p.kind),.str p.name,.int .i64 (p.n),.imm (p.names.map aa.str),.imm (p.kids.map Ty.enc)]],.full [Ty.v r,Ty.v r]]) kq kq kq kq kq (xW (p:=p) (q:=p) (r:=r) (s:=r) oq oq oq oq hcan) GP sg rW ?_
 refine qu 10 ?_ ?_
 refine cn kq ⟨kq,?_⟩
 refine ab ?_
 refine qZ [(7,.ptr 2 0),(9,.ptr 4 0),(10,.ptr 5 0),(13,.ptr 8 0),(14,.ptr 9 0),(15,.int .i64 0),(17,.ptr 10 0),(18,.ptr 11 0),(91,.bool false)] [bS 0,mS U1,.box [.int .i64 0,.map 3],mS S1,a.bx,b.bx,a.bx,b.bx,x.bx,y.bx,p.bx,p.bx] ?_ ?_
 refine dY kq kq ?_
 refine qK ?_ ?_
 refine qz [(7,.ptr 2 0),(9,.ptr 4 0),(10,.ptr 5 0),(13,.ptr 8 0),(14,.ptr 9 0),(15,.int .i64 0),(17,.ptr 10 0),(18,.ptr 11 0)] ?_ ?_
 refine ar ?_ ?_
 refine qV 20 ?_ ?_
 refine bp (args:=[.agg [.int .i64 (x.kind),.str x.name,.int .i64 (x.n),.imm (x.names.map aa.str),.imm (x.kids.map Ty.enc)],.agg [.int .i64 (p.kind),.str p.name,.int .i64 (p.n),.imm (p.names.map aa.str),.imm (p.kids.map Ty.enc)]]) kq kq kq kq (Ah oq oq mx) yh sg rW ?_
 refine qr 4 ?_ ?_
 refine bp (args:=[.agg [.int .i64 (y.kind),.str y.name,.int .i64 (y.n),.imm (y.names.map aa.str),.imm (y.kids.map Ty.enc)],.agg [.int .i64 (p.kind),.str p.name,.int .i64 (p.n),.imm (p.names.map aa.str),.imm (p.kids.map Ty.enc)]]) kq kq kq kq (Ah oq oq my) yh sg rW ?_
 refine qr 5 ?_ ?_
 refine bp (args:=[.agg [.int .i64 (p.kind),.str p.name,.int .i64 (p.n),.imm (p.names.map aa.str),.imm (p.kids.map Ty.enc)],.agg [.int .i64 (p.kind),.str p.name,.int .i64 (p.n),.imm (p.names.map aa.str),.imm (p.kids.map Ty.enc)]]) kq kq kq kq (gH p oq) yh sg rW ?_
 refine qR 4 [(7,.ptr 2 0),(9,.ptr 4 0),(10,.ptr 5 0),(15,.int .i64 0),(17,.ptr 10 0),(18,.ptr 11 0),(127,.bool false)] [bS 0,mS U1,.box [.int .i64 0,.map 3],mS S1,a.bx,b.bx,a.bx,b.bx,x.bx,y.bx,p.bx,p.bx] ?_ ?_
 refine dY kq kq ?_
 refine qK ?_ ?_
 refine qz [(7,.ptr 2 0),(9,.ptr 4 0),(10,.ptr 5 0),(15,.int .i64 0),(17,.ptr 10 0),(18,.ptr 11 0)] ?_ ?_
 refine iB [2,3,0,1,4,5,6,7,8,9,10,11] [(7,.ptr 0 0),(9,.ptr 4 0),(10,.ptr 5 0),(15,.int .i64 0),(17,.ptr 10 0),(18,.ptr 11 0)] [bS 0,mS S1,.box [.int .i64 0,.map 3],mS U1,a.bx,b.bx,a.bx,b.bx,x.bx,y.bx,p.bx,p.bx] dq eM eM eM eM ?_
 refine qZ [(7,.ptr 0 0),(9,.ptr 4 0),(10,.ptr 5 0),(15,.int .i64 0),(17,.ptr 10 0),(18,.ptr 11 0)] [bS 0,mS S1,.box [.int .i64 0,.map 3],mS U1,a.bx,b.bx,a.bx,b.bx,x.bx,y.bx,p.bx,p.bx] ?_ ?_
 refine ar ?_ ?_
 refine cK cxM kq aB (bv ?_)
 refine qu 3 ?_ ?_
 refine cV (args:=[.ptr 0 0,.agg [.int .i64 (a.kind),.str a.name,.int .i64 (a.n),.imm (a.names.map aa.str),.imm (a.kids.map Ty.enc)],.agg [.int .i64 (b.kind),.str b.name,.int .i64 (b.n),.imm (b.names.map aa.str),.imm (b.kids.map Ty.enc)]]) (hs:=[bS 0,mS S1]) (hs':=[bS 0,mS S1]) (aM:=[.box [.int .i64 0,.map 3],mS U1,a.bx,b.bx,a.bx,b.bx,x.bx,y.bx,p.bx,p.bx]) (L:=[0,1]) kq kq kq kq kq kq (pU f5 a b 0 S1 S1 oq oq sS1 gaS gbS e5) b3 b3 rfl b3 b3 kq rfl rfl ?_
 refine qu 5 ?_ ?_
 refine cV (args:=[.ptr 0 0,.agg [.int .i64 (a.kind),.str a.name,.int .i64 (a.n),.imm (a.names.map aa.str),.imm (a.kids.map Ty.enc)]]) (hs:=[bS 0,mS S1]) (hs':=[bS 0,mS S1]) (aM:=[.box [.int .i64 0,.map 3],mS U1,a.bx,b.bx,a.bx,b.bx,x.bx,y.bx,p.bx,p.bx]) (L:=[0,1]) kq kq kq kq kq kq (bW fp a p 0 S1 oq sS1 gaS rp) b3 b3 rfl b3 b3 kq rfl rfl ?_
 refine qu 1 ?_ ?_
 refine cB (args:=[Ty.v p,.agg [.int .i64 (p.kind),.str p.name,.int .i64 (p.n),.imm (p.names.map aa.str),.imm (p.kids.map Ty.enc)]]) kq kq kq kq kq (gH p oq) GP sg rW ?_
 refine qu 4 ?_ ?_
 refine cV (args:=[.ptr 0 0,.agg [.int .i64 (b.kind),.str b.name,.int .i64 (b.n),.imm (b.names.map aa.str),.imm (b.kids.map Ty.enc)]]) (hs:=[bS 0,mS S1]) (hs':=[bS 0,mS S1]) (aM:=[.box [.int .i64 0,.map 3],mS U1,a.bx,b.bx,a.bx,b.bx,x.bx,y.bx,p.bx,p.bx]) (L:=[0,1]) kq kq kq kq kq kq (bW fq b p 0 S1 oq sS1 gbS rq) b3 b3 rfl b3 b3 kq rfl rfl ?_
 refine qu 1 ?_ ?_
 refine cB (args:=[Ty.v p,.agg [.int .i64 (p.kind),.str p.name,.int .i64 (p.n),.imm (p.names.map aa.str),.imm (p.kids.map Ty.enc)]]) kq kq kq kq kq (gH p oq) GP sg rW ?_
 refine qu 2 ?_ ?_
 refine cB (args:=[]) kq kq kq kq kq (pD) (fun _=>kq) kq kq ?_
 refine qu 2 ?_ ?_
 refine cn kq ⟨kq,?_⟩
 refine ab ?_
 refine bb kq ?_
 refine aH (b:=true) (.inr rfl) kq ?_
 · rfl
 iterate 65 kernel_rfl
theorem eN {p:Prop} (h:p:=by simp [-List.map_append,-List.map_take,-List.map_drop,-List.append_assoc,aa.refs,cY,ai.refs,ai.isIter,kZ,Abs.renT,ee,lh,ai.ren,aa.ren,bV,List.idxOf_cons,zT,oZ,Ty.enc_v,Ty.v]):p:=h
theorem rT {p:Prop} (h:p:=by simp [aa.frz,bo,aa.ren,bV,dB,ai.ren,bc,cb,aS,aa.owns,ae,ix]):p:=h
theorem po {p:Prop} (h:p:=by simp [hpS,dv,cy,dB,ai.ren,bV,aa.ren,bc,oZ]):p:=h
theorem pM {p:Prop} (h:p:=by simp [hpS,dB,ai.ren,bV,aa.ren,bc,oZ]):p:=h
theorem kH {p:Prop} (h:p:=by simp [ai.belO,hpV,Ty.v]):p:=h
theorem pG {p:Prop} (h:p:=by simp [bV,aa.ren,bc,Ty.v]):p:=h
theorem p9 {p:Prop} (h:p:=by simp [aa.ren,bV,bc,Ty.v]):p:=h
theorem uR {p:Prop} (h:p:=by simp [Ty.v,aS,aa.owns]):p:=h
theorem qP {p:Prop} (h:p:=by simp [ai.belO,hpS]):p:=h
theorem pP {p:Prop} (h:p:=by simp [Ty.v,hpS]):p:=h
theorem CI {p:Prop} (h:p:=by simp [aa.frz,bo,Ty.v]):p:=h
theorem uv {p:Prop} (h:p:=by simp [Ty.v]):p:=h
theorem Hl {p:Prop} (h:p:=by intro _;simp [aa.frz,bo,Ty.v]):p:=h
theorem Ci (l m n:List Int) (t1 t2 a b x y:Ty) (A1 A S1 U1:St) (k1 k2 fx fy f3 f4:Nat) (hl:jq l) (hm:jq m) (hn:jq n) (hT1:ay cx 13 [.imm (l.map (.int .i64)),.int .i64 0,.int .i64 2] t1.v) (hT2:ay cx 13 [.imm (m.map (.int .i64)),.int .i64 0,.int .i64 2] t2.v) (z1:t1.sz<100000000) (z2:t2.sz<100000000) (za:a.sz<100000000) (zb:b.sz<100000000) (zx:x.sz<100000000) (zy:y.sz<100000000) (h1:dh n 0 k1 [] t1 0=some (a,A1)) (h2:dh n 0 k2 A1 t2 3=some (b,A)) (sA:dP A) (gaA:cD A a=true) (gbA:cD A b=true) (rx:dl fx A a=some x) (ry:dl fy A b=some y) (e3:bq f3 A a b=some (false,S1)) (e4:bq f4 A b a=some (false,U1)):ay cx 6 [.imm (l.map (aa.int .i64)),.imm (m.map (aa.int .i64)),.imm (n.map (aa.int .i64))] (.bool true):=by
 have hcan:lR [x,y]=lR [x,y]:=rfl
 refine ap (cx:=cx) 151 0 [(ResultVar.tmp 6)] Tryz.func6 rfl rfl rfl rfl rfl zq ?_
 show wpA cx 151 0 (at_ c6 []) _ _ _
 refine qZ [(0,.imm (l.map (aa.int .i64))),(1,.imm (m.map (aa.int .i64))),(2,.imm (n.map (aa.int .i64)))] [] ?_ ?_
 refine qU 1 [(0,.imm (l.map (aa.int .i64))),(1,.imm (m.map (aa.int .i64))),(2,.imm (n.map (aa.int .i64)))] ?_ ?_
 refine qO ?_ ?_
 refine m0 (args:=[]) (args':=[]) (V':=.ptr 1 0) (F:=[]) (G':=[mS ([]:List (Int×Vr)),.box [.int .i64 0,.map 0]]) kq kq kq kq (oQ) [] kq rT rT rT rT rT ?_
 refine qR 1 [(0,.imm (l.map (aa.int .i64))),(1,.imm (m.map (aa.int .i64))),(2,.imm (n.map (aa.int .i64))),(7,.ptr 1 0)] [mS ([]:List (Int×Vr)),.box [.int .i64 0,.map 0]] ?_ ?_
 refine qO ?_ ?_
 refine m0 (args:=[]) (args':=[]) (V':=.ptr 3 0) (F:=[mS ([]:List (Int×Vr)),.box [.int .i64 0,.map 0]]) (G':=[mS ([]:List (Int×Vr)),.box [.int .i64 0,.map 2]]) kq kq kq kq (oQ) [mS ([]:List (Int×Vr)),.box [.int .i64 0,.map 0]] kq rT rT rT rT rT ?_
 refine qR 1 [(0,.imm (l.map (aa.int .i64))),(1,.imm (m.map (aa.int .i64))),(2,.imm (n.map (aa.int .i64))),(7,.ptr 1 0),(8,.ptr 3 0)] [mS ([]:List (Int×Vr)),.box [.int .i64 0,.map 0],mS ([]:List (Int×Vr)),.box [.int .i64 0,.map 2]] ?_ ?_
 refine ar ?_ ?_
 refine qU 6 [(0,.imm (l.map (aa.int .i64))),(1,.imm (m.map (aa.int .i64))),(2,.imm (n.map (aa.int .i64))),(7,.ptr 1 0),(8,.ptr 3 0),(26,.bool false)] ?_ ?_
 refine dY kq kq ?_
 refine qK ?_ ?_
 refine qz [(0,.imm (l.map (aa.int .i64))),(1,.imm (m.map (aa.int .i64))),(2,.imm (n.map (aa.int .i64))),(7,.ptr 1 0),(8,.ptr 3 0)] ?_ ?_
 refine iB [1,0,3,2] [(0,.imm (l.map (aa.int .i64))),(1,.imm (m.map (aa.int .i64))),(2,.imm (n.map (aa.int .i64))),(7,.ptr 0 0),(8,.ptr 2 0)] [bS 0,mS ([]:List (Int×Vr)),.box [.int .i64 0,.map 3],mS ([]:List (Int×Vr))] dq eN eN eN eN ?_
 refine qZ [(0,.imm (l.map (aa.int .i64))),(1,.imm (m.map (aa.int .i64))),(2,.imm (n.map (aa.int .i64))),(7,.ptr 0 0),(8,.ptr 2 0)] [bS 0,mS ([]:List (Int×Vr)),.box [.int .i64 0,.map 3],mS ([]:List (Int×Vr))] ?_ ?_
 refine qV 2 ?_ ?_
 refine bp (args:=[.imm (l.map (aa.int .i64)),.int .i64 0,.int .i64 2]) kq kq kq kq (hT1) CI uv uR ?_
 refine qr 1 ?_ ?_
 refine aT (args:=[.ptr 0 0,Ty.v t1,.imm (n.map (aa.int .i64)),.int .i64 0]) (hs:=[bS 0,mS ([]:List (Int×Vr))]) (hs':=[bS 0,mS A1]) (aM:=[.box [.int .i64 0,.map 3],mS ([]:List (Int×Vr))]) kq kq kq kq kq (jz n k1 0 t1 a 0 [] A1 hn oq oq h1) kH kH rfl kH kH kq ?_
 refine qR 2 [(0,.imm (l.map (aa.int .i64))),(1,.imm (m.map (aa.int .i64))),(2,.imm (n.map (aa.int .i64))),(7,.ptr 0 0),(8,.ptr 2 0),(9,.ptr 4 0)] [bS 0,mS A1,.box [.int .i64 0,.map 3],mS ([]:List (Int×Vr)),a.bx] ?_ ?_
 refine qV 2 ?_ ?_
 refine bp (args:=[.imm (m.map (aa.int .i64)),.int .i64 0,.int .i64 2]) kq kq kq kq (hT2) CI uv uR ?_
 refine qr 1 ?_ ?_
 refine aT (args:=[.ptr 0 0,Ty.v t2,.imm (n.map (aa.int .i64)),.int .i64 3]) (hs:=[bS 0,mS A1]) (hs':=[bS 0,mS A]) (aM:=[.box [.int .i64 0,.map 3],mS ([]:List (Int×Vr)),a.bx]) kq kq kq kq kq (jz n k2 3 t2 b 0 A1 A hn oq oq h2) kH kH rfl kH kH kq ?_
 refine qR 2 [(0,.imm (l.map (aa.int .i64))),(1,.imm (m.map (aa.int .i64))),(2,.imm (n.map (aa.int .i64))),(7,.ptr 0 0),(8,.ptr 2 0),(9,.ptr 4 0),(10,.ptr 5 0)] [bS 0,mS A,.box [.int .i64 0,.map 3],mS ([]:List (Int×Vr)),a.bx,b.bx] ?_ ?_
 refine iB [2,3,0,1,4,5] [(0,.imm (l.map (aa.int .i64))),(1,.imm (m.map (aa.int .i64))),(2,.imm (n.map (aa.int .i64))),(7,.ptr 2 0),(8,.ptr 0 0),(9,.ptr 4 0),(10,.ptr 5 0)] [bS 0,mS ([]:List (Int×Vr)),.box [.int .i64 0,.map 3],mS A,a.bx,b.bx] dq eN eN eN eN ?_
 refine qZ [(0,.imm (l.map (aa.int .i64))),(1,.imm (m.map (aa.int .i64))),(2,.imm (n.map (aa.int .i64))),(7,.ptr 2 0),(8,.ptr 0 0),(9,.ptr 4 0),(10,.ptr 5 0)] [bS 0,mS ([]:List (Int×Vr)),.box [.int .i64 0,.map 3],mS A,a.bx,b.bx] ?_ ?_
 refine qV 2 ?_ ?_
 refine bp (args:=[.imm (l.map (aa.int .i64)),.int .i64 0,.int .i64 2]) kq kq kq kq (hT1) CI uv uR ?_
 refine qr 1 ?_ ?_
 refine aT (args:=[.ptr 0 0,Ty.v t1,.imm (n.map (aa.int .i64)),.int .i64 0]) (hs:=[bS 0,mS ([]:List (Int×Vr))]) (hs':=[bS 0,mS A1]) (aM:=[.box [.int .i64 0,.map 3],mS A,a.bx,b.bx]) kq kq kq kq kq (jz n k1 0 t1 a 0 [] A1 hn oq oq h1) kH kH rfl kH kH kq ?_
 refine qR 2 [(1,.imm (m.map (aa.int .i64))),(2,.imm (n.map (aa.int .i64))),(7,.ptr 2 0),(8,.ptr 0 0),(9,.ptr 4 0),(10,.ptr 5 0),(11,.ptr 6 0)] [bS 0,mS A1,.box [.int .i64 0,.map 3],mS A,a.bx,b.bx,a.bx] ?_ ?_
 refine qV 2 ?_ ?_
 refine bp (args:=[.imm (m.map (aa.int .i64)),.int .i64 0,.int .i64 2]) kq kq kq kq (hT2) CI uv uR ?_
 refine qr 1 ?_ ?_
 refine aT (args:=[.ptr 0 0,Ty.v t2,.imm (n.map (aa.int .i64)),.int .i64 3]) (hs:=[bS 0,mS A1]) (hs':=[bS 0,mS A]) (aM:=[.box [.int .i64 0,.map 3],mS A,a.bx,b.bx,a.bx]) kq kq kq kq kq (jz n k2 3 t2 b 0 A1 A hn oq oq h2) kH kH rfl kH kH kq ?_
 refine qR 2 [(7,.ptr 2 0),(8,.ptr 0 0),(9,.ptr 4 0),(10,.ptr 5 0),(11,.ptr 6 0),(12,.ptr 7 0)] [bS 0,mS A,.box [.int .i64 0,.map 3],mS A,a.bx,b.bx,a.bx,b.bx] ?_ ?_
 refine iB [2,3,0,1,4,5,6,7] [(7,.ptr 0 0),(8,.ptr 2 0),(9,.ptr 4 0),(10,.ptr 5 0),(11,.ptr 6 0),(12,.ptr 7 0)] [bS 0,mS A,.box [.int .i64 0,.map 3],mS A,a.bx,b.bx,a.bx,b.bx] dq eN eN eN eN ?_
 refine qZ [(7,.ptr 0 0),(8,.ptr 2 0),(9,.ptr 4 0),(10,.ptr 5 0),(11,.ptr 6 0),(12,.ptr 7 0)] [bS 0,mS A,.box [.int .i64 0,.map 3],mS A,a.bx,b.bx,a.bx,b.bx] ?_ ?_
 refine qV 2 ?_ ?_
 refine cM (args:=[.ptr 0 0,.agg [.int .i64 (a.kind),.str a.name,.int .i64 (a.n),.imm (a.names.map aa.str),.imm (a.kids.map Ty.enc)]]) (v:=.agg [.int .i64 (x.kind),.str x.name,.int .i64 (x.n),.imm (x.names.map aa.str),.imm (x.kids.map Ty.enc)]) (h':=[bS 0,mS A,.box [.int .i64 0,.map 3],mS A,a.bx,b.bx,a.bx,b.bx]) [bS 0,mS A,.box [.int .i64 0,.map 3],mS A,a.bx,b.bx,a.bx,b.bx] kq kq kq kq kq (ca [0,1] (bW fx a x 0 A oq sA gaA rx) rfl dq pP qP pM rfl pG p9 po) ?_
 refine qR 2 [(7,.ptr 0 0),(8,.ptr 2 0),(9,.ptr 4 0),(10,.ptr 5 0),(11,.ptr 6 0),(12,.ptr 7 0),(13,.ptr 8 0)] [bS 0,mS A,.box [.int .i64 0,.map 3],mS A,a.bx,b.bx,a.bx,b.bx,x.bx] ?_ ?_
 refine qV 2 ?_ ?_
 refine cM (args:=[.ptr 0 0,.agg [.int .i64 (b.kind),.str b.name,.int .i64 (b.n),.imm (b.names.map aa.str),.imm (b.kids.map Ty.enc)]]) (v:=.agg [.int .i64 (y.kind),.str y.name,.int .i64 (y.n),.imm (y.names.map aa.str),.imm (y.kids.map Ty.enc)]) (h':=[bS 0,mS A,.box [.int .i64 0,.map 3],mS A,a.bx,b.bx,a.bx,b.bx,x.bx]) [bS 0,mS A,.box [.int .i64 0,.map 3],mS A,a.bx,b.bx,a.bx,b.bx,x.bx] kq kq kq kq kq (ca [0,1] (bW fy b y 0 A oq sA gbA ry) rfl dq pP qP pM rfl pG p9 po) ?_
 refine qR 2 [(7,.ptr 0 0),(8,.ptr 2 0),(9,.ptr 4 0),(10,.ptr 5 0),(11,.ptr 6 0),(12,.ptr 7 0),(13,.ptr 8 0),(14,.ptr 9 0)] [bS 0,mS A,.box [.int .i64 0,.map 3],mS A,a.bx,b.bx,a.bx,b.bx,x.bx,y.bx] ?_ ?_
 refine qV 3 ?_ ?_
 refine cM (args:=[.ptr 0 0,.agg [.int .i64 (a.kind),.str a.name,.int .i64 (a.n),.imm (a.names.map aa.str),.imm (a.kids.map Ty.enc)],.agg [.int .i64 (b.kind),.str b.name,.int .i64 (b.n),.imm (b.names.map aa.str),.imm (b.kids.map Ty.enc)]]) (v:=.int .i64 9) (h':=[.box [.int .i64 0,.map 10],mS S1,.box [.int .i64 0,.map 3],mS A,a.bx,b.bx,a.bx,b.bx,x.bx,y.bx,mS A]) [bS 0,mS A,.box [.int .i64 0,.map 3],mS A,a.bx,b.bx,a.bx,b.bx,x.bx,y.bx] kq kq kq kq kq (ca [0,1] (pQ f3 a b 0 A S1 oq oq sA gaA gbA e3) rfl dq pP qP pM rfl pG p9 po) ?_
 refine qR 1 [(7,.ptr 0 0),(8,.ptr 2 0),(9,.ptr 4 0),(10,.ptr 5 0),(11,.ptr 6 0),(12,.ptr 7 0),(13,.ptr 8 0),(14,.ptr 9 0),(15,.int .i64 9)] [.box [.int .i64 0,.map 10],mS S1,.box [.int .i64 0,.map 3],mS A,a.bx,b.bx,a.bx,b.bx,x.bx,y.bx,mS A] ?_ ?_
 refine iB [2,3,0,10,4,5,6,7,8,9] [(7,.ptr 2 0),(8,.ptr 0 0),(9,.ptr 4 0),(10,.ptr 5 0),(11,.ptr 6 0),(12,.ptr 7 0),(13,.ptr 8 0),(14,.ptr 9 0),(15,.int .i64 9)] [bS 0,mS A,.box [.int .i64 0,.map 3],mS A,a.bx,b.bx,a.bx,b.bx,x.bx,y.bx] dq eN eN eN eN ?_
 refine qZ [(7,.ptr 2 0),(8,.ptr 0 0),(9,.ptr 4 0),(10,.ptr 5 0),(11,.ptr 6 0),(12,.ptr 7 0),(13,.ptr 8 0),(14,.ptr 9 0),(15,.int .i64 9)] [bS 0,mS A,.box [.int .i64 0,.map 3],mS A,a.bx,b.bx,a.bx,b.bx,x.bx,y.bx] ?_ ?_
 refine qV 3 ?_ ?_
 refine cM (args:=[.ptr 0 0,.agg [.int .i64 (b.kind),.str b.name,.int .i64 (b.n),.imm (b.names.map aa.str),.imm (b.kids.map Ty.enc)],.agg [.int .i64 (a.kind),.str a.name,.int .i64 (a.n),.imm (a.names.map aa.str),.imm (a.kids.map Ty.enc)]]) (v:=.int .i64 9) (h':=[.box [.int .i64 0,.map 10],mS U1,.box [.int .i64 0,.map 3],mS A,a.bx,b.bx,a.bx,b.bx,x.bx,y.bx,mS A]) [bS 0,mS A,.box [.int .i64 0,.map 3],mS A,a.bx,b.bx,a.bx,b.bx,x.bx,y.bx] kq kq kq kq kq (ca [0,1] (pQ f4 b a 0 A U1 oq oq sA gbA gaA e4) rfl dq pP qP pM rfl pG p9 po) ?_
 refine qR 1 [(7,.ptr 2 0),(8,.ptr 0 0),(9,.ptr 4 0),(10,.ptr 5 0),(11,.ptr 6 0),(12,.ptr 7 0),(13,.ptr 8 0),(14,.ptr 9 0),(15,.int .i64 9),(16,.int .i64 9)] [.box [.int .i64 0,.map 10],mS U1,.box [.int .i64 0,.map 3],mS A,a.bx,b.bx,a.bx,b.bx,x.bx,y.bx,mS A] ?_ ?_
 refine iB [2,3,0,10,4,5,6,7,8,9] [(7,.ptr 0 0),(8,.ptr 2 0),(9,.ptr 4 0),(10,.ptr 5 0),(11,.ptr 6 0),(12,.ptr 7 0),(13,.ptr 8 0),(14,.ptr 9 0),(15,.int .i64 9),(16,.int .i64 9)] [bS 0,mS A,.box [.int .i64 0,.map 3],mS A,a.bx,b.bx,a.bx,b.bx,x.bx,y.bx] dq eN eN eN eN ?_
 refine qZ [(7,.ptr 0 0),(8,.ptr 2 0),(9,.ptr 4 0),(10,.ptr 5 0),(11,.ptr 6 0),(12,.ptr 7 0),(13,.ptr 8 0),(14,.ptr 9 0),(15,.int .i64 9),(16,.int .i64 9)] [bS 0,mS A,.box [.int .i64 0,.map 3],mS A,a.bx,b.bx,a.bx,b.bx,x.bx,y.bx] ?_ ?_
 refine qV 2 ?_ ?_
 refine cM (args:=[.ptr 0 0,.agg [.int .i64 (a.kind),.str a.name,.int .i64 (a.n),.imm (a.names.map aa.str),.imm (a.kids.map Ty.enc)]]) (v:=.agg [.int .i64 (x.kind),.str x.name,.int .i64 (x.n),.imm (x.names.map aa.str),.imm (x.kids.map Ty.enc)]) (h':=[bS 0,mS A,.box [.int .i64 0,.map 3],mS A,a.bx,b.bx,a.bx,b.bx,x.bx,y.bx]) [bS 0,mS A,.box [.int .i64 0,.map 3],mS A,a.bx,b.bx,a.bx,b.bx,x.bx,y.bx] kq kq kq kq kq (ca [0,1] (bW fx a x 0 A oq sA gaA rx) rfl dq pP qP pM rfl pG p9 po) ?_
 refine qR 2 [(7,.ptr 0 0),(8,.ptr 2 0),(9,.ptr 4 0),(10,.ptr 5 0),(11,.ptr 6 0),(12,.ptr 7 0),(13,.ptr 8 0),(14,.ptr 9 0),(15,.int .i64 9),(16,.int .i64 9),(17,.ptr 10 0)] [bS 0,mS A,.box [.int .i64 0,.map 3],mS A,a.bx,b.bx,a.bx,b.bx,x.bx,y.bx,x.bx] ?_ ?_
 refine qV 2 ?_ ?_
 refine cM (args:=[.ptr 0 0,.agg [.int .i64 (b.kind),.str b.name,.int .i64 (b.n),.imm (b.names.map aa.str),.imm (b.kids.map Ty.enc)]]) (v:=.agg [.int .i64 (y.kind),.str y.name,.int .i64 (y.n),.imm (y.names.map aa.str),.imm (y.kids.map Ty.enc)]) (h':=[bS 0,mS A,.box [.int .i64 0,.map 3],mS A,a.bx,b.bx,a.bx,b.bx,x.bx,y.bx,x.bx]) [bS 0,mS A,.box [.int .i64 0,.map 3],mS A,a.bx,b.bx,a.bx,b.bx,x.bx,y.bx,x.bx] kq kq kq kq kq (ca [0,1] (bW fy b y 0 A oq sA gbA ry) rfl dq pP qP pM rfl pG p9 po) ?_
 refine qR 2 [(7,.ptr 0 0),(8,.ptr 2 0),(9,.ptr 4 0),(10,.ptr 5 0),(11,.ptr 6 0),(12,.ptr 7 0),(13,.ptr 8 0),(14,.ptr 9 0),(15,.int .i64 9),(16,.int .i64 9),(17,.ptr 10 0),(18,.ptr 11 0)] [bS 0,mS A,.box [.int .i64 0,.map 3],mS A,a.bx,b.bx,a.bx,b.bx,x.bx,y.bx,x.bx,y.bx] ?_ ?_
 refine iB [2,3,0,1,4,5,6,7,8,9,10,11] [(7,.ptr 2 0),(8,.ptr 0 0),(9,.ptr 4 0),(10,.ptr 5 0),(11,.ptr 6 0),(12,.ptr 7 0),(13,.ptr 8 0),(14,.ptr 9 0),(15,.int .i64 9),(16,.int .i64 9),(17,.ptr 10 0),(18,.ptr 11 0)] [bS 0,mS A,.box [.int .i64 0,.map 3],mS A,a.bx,b.bx,a.bx,b.bx,x.bx,y.bx,x.bx,y.bx] dq eN eN eN eN ?_
 refine qZ [(7,.ptr 2 0),(8,.ptr 0 0),(9,.ptr 4 0),(10,.ptr 5 0),(11,.ptr 6 0),(12,.ptr 7 0),(13,.ptr 8 0),(14,.ptr 9 0),(15,.int .i64 9),(16,.int .i64 9),(17,.ptr 10 0),(18,.ptr 11 0)] [bS 0,mS A,.box [.int .i64 0,.map 3],mS A,a.bx,b.bx,a.bx,b.bx,x.bx,y.bx,x.bx,y.bx] ?_ ?_
 refine ar ?_ ?_
 refine ar ?_ ?_
 refine cK cxM kq aB (bv ?_)
 refine qu 9 ?_ ?_
 refine pf (args:=[.ptr 0 0,.agg [.int .i64 (a.kind),.str a.name,.int .i64 (a.n),.imm (a.names.map aa.str),.imm (a.kids.map Ty.enc)]]) (v:=.agg [.int .i64 (x.kind),.str x.name,.int .i64 (x.n),.imm (x.names.map aa.str),.imm (x.kids.map Ty.enc)]) (h':=[bS 0,mS A,.box [.int .i64 0,.map 3],mS A,a.bx,b.bx,a.bx,b.bx,x.bx,y.bx,x.bx,y.bx]) [0,1] [bS 0,mS A,.box [.int .i64 0,.map 3],mS A,a.bx,b.bx,a.bx,b.bx,x.bx,y.bx,x.bx,y.bx] kq kq kq kq kq kq (ca [0,1] (bW fx a x 0 A oq sA gaA rx) rfl dq pP qP pM rfl pG p9 po) (fun _ _=>rfl) kq ?_
 refine qu 2 ?_ ?_
 refine pf (args:=[.ptr 0 0,.agg [.int .i64 (b.kind),.str b.name,.int .i64 (b.n),.imm (b.names.map aa.str),.imm (b.kids.map Ty.enc)]]) (v:=.agg [.int .i64 (y.kind),.str y.name,.int .i64 (y.n),.imm (y.names.map aa.str),.imm (y.kids.map Ty.enc)]) (h':=[bS 0,mS A,.box [.int .i64 0,.map 3],mS A,a.bx,b.bx,a.bx,b.bx,x.bx,y.bx,x.bx,y.bx]) [0,1] [bS 0,mS A,.box [.int .i64 0,.map 3],mS A,a.bx,b.bx,a.bx,b.bx,x.bx,y.bx,x.bx,y.bx] kq kq kq kq kq kq (ca [0,1] (bW fy b y 0 A oq sA gbA ry) rfl dq pP qP pM rfl pG p9 po) (fun _ _=>rfl) kq ?_
 refine qu 1 ?_ ?_
 refine cB (args:=[.full [.agg [.int .i64 (x.kind),.str x.name,.int .i64 (x.n),.imm (x.names.map aa.str),.imm (x.kids.map Ty.enc)],.agg [.int .i64 (y.kind),.str y.name,.int .i64 (y.n),.imm (y.names.map aa.str),.imm (y.kids.map Ty.enc)]],.full [.agg [.int .i64 (x.kind),.str x.name,.int .i64 (x.n),.imm (x.names.map aa.str),.imm (x.kids.map Ty.enc)],.agg [.int .i64 (y.kind),.str y.name,.int .i64 (y.n),.imm (y.names.map aa.str),.imm (y.kids.map Ty.enc)]]]) kq kq kq kq kq (xW (p:=x) (q:=y) (r:=x) (s:=y) oq oq oq oq hcan) Hl uv uR ?_
 refine qu 10 ?_ ?_
 refine cn kq ⟨kq,?_⟩
 refine ab ?_
 refine qZ [(7,.ptr 2 0),(9,.ptr 4 0),(10,.ptr 5 0),(13,.ptr 8 0),(14,.ptr 9 0),(15,.int .i64 9),(17,.ptr 10 0),(18,.ptr 11 0),(91,.bool false)] [bS 0,mS A,.box [.int .i64 0,.map 3],mS A,a.bx,b.bx,a.bx,b.bx,x.bx,y.bx,x.bx,y.bx] ?_ ?_
 refine dY kq kq ?_
 refine qK ?_ ?_
 refine qz [(7,.ptr 2 0),(9,.ptr 4 0),(10,.ptr 5 0),(13,.ptr 8 0),(14,.ptr 9 0),(15,.int .i64 9),(17,.ptr 10 0),(18,.ptr 11 0)] ?_ ?_
 refine ar ?_ ?_
 refine qV 5 ?_ ?_
 refine bp (args:=[.agg [.int .i64 (x.kind),.str x.name,.int .i64 (x.n),.imm (x.names.map aa.str),.imm (x.kids.map Ty.enc)],.agg [.int .i64 (x.kind),.str x.name,.int .i64 (x.n),.imm (x.names.map aa.str),.imm (x.kids.map Ty.enc)]]) kq kq kq kq (gH x oq) CI uv uR ?_
 refine qr 4 ?_ ?_
 refine bp (args:=[.agg [.int .i64 (y.kind),.str y.name,.int .i64 (y.n),.imm (y.names.map aa.str),.imm (y.kids.map Ty.enc)],.agg [.int .i64 (y.kind),.str y.name,.int .i64 (y.n),.imm (y.names.map aa.str),.imm (y.kids.map Ty.enc)]]) kq kq kq kq (gH y oq) CI uv uR ?_
 refine qR 25 [(7,.ptr 2 0),(9,.ptr 4 0),(10,.ptr 5 0),(15,.int .i64 9),(17,.ptr 10 0),(18,.ptr 11 0),(127,.bool false)] [bS 0,mS A,.box [.int .i64 0,.map 3],mS A,a.bx,b.bx,a.bx,b.bx,x.bx,y.bx,x.bx,y.bx] ?_ ?_
 refine dY kq kq ?_
 refine qK ?_ ?_
 refine qz [(7,.ptr 2 0),(9,.ptr 4 0),(10,.ptr 5 0),(15,.int .i64 9),(17,.ptr 10 0),(18,.ptr 11 0)] ?_ ?_
 refine iB [2,3,0,1,4,5,6,7,8,9,10,11] [(7,.ptr 0 0),(9,.ptr 4 0),(10,.ptr 5 0),(15,.int .i64 9),(17,.ptr 10 0),(18,.ptr 11 0)] [bS 0,mS A,.box [.int .i64 0,.map 3],mS A,a.bx,b.bx,a.bx,b.bx,x.bx,y.bx,x.bx,y.bx] dq eN eN eN eN ?_
 refine qZ [(7,.ptr 0 0),(9,.ptr 4 0),(10,.ptr 5 0),(15,.int .i64 9),(17,.ptr 10 0),(18,.ptr 11 0)] [bS 0,mS A,.box [.int .i64 0,.map 3],mS A,a.bx,b.bx,a.bx,b.bx,x.bx,y.bx,x.bx,y.bx] ?_ ?_
 refine ar ?_ ?_
 refine cK cxM kq aB (bv ?_)
 refine qu 3 ?_ ?_
 refine pf (args:=[.ptr 0 0,.agg [.int .i64 (a.kind),.str a.name,.int .i64 (a.n),.imm (a.names.map aa.str),.imm (a.kids.map Ty.enc)],.agg [.int .i64 (b.kind),.str b.name,.int .i64 (b.n),.imm (b.names.map aa.str),.imm (b.kids.map Ty.enc)]]) (v:=.int .i64 9) (h':=[.box [.int .i64 0,.map 12],mS S1,.box [.int .i64 0,.map 3],mS A,a.bx,b.bx,a.bx,b.bx,x.bx,y.bx,x.bx,y.bx,mS A]) [0,1,12] [bS 0,mS A,.box [.int .i64 0,.map 3],mS A,a.bx,b.bx,a.bx,b.bx,x.bx,y.bx,x.bx,y.bx] kq kq kq kq kq kq (ca [0,1] (pQ f3 a b 0 A S1 oq oq sA gaA gbA e3) rfl dq pP qP pM rfl pG p9 po) (fun o hn=>by match o,hn with|0,hn=>exact absurd dq hn|1,hn=>exact absurd dq hn|2,_=>rfl|3,_=>rfl|4,_=>rfl|5,_=>rfl|6,_=>rfl|7,_=>rfl|8,_=>rfl|9,_=>rfl|10,_=>rfl|11,_=>rfl|12,hn=>exact absurd dq hn|_+13,_=>rfl) kq ?_
 refine qu 5 ?_ ?_
 refine pf (args:=[.ptr 0 0,.agg [.int .i64 (a.kind),.str a.name,.int .i64 (a.n),.imm (a.names.map aa.str),.imm (a.kids.map Ty.enc)]]) (v:=.agg [.int .i64 (x.kind),.str x.name,.int .i64 (x.n),.imm (x.names.map aa.str),.imm (x.kids.map Ty.enc)]) (h':=[.box [.int .i64 0,.map 12],mS S1,.box [.int .i64 0,.map 3],mS A,a.bx,b.bx,a.bx,b.bx,x.bx,y.bx,x.bx,y.bx,mS A]) [0,12] [.box [.int .i64 0,.map 12],mS S1,.box [.int .i64 0,.map 3],mS A,a.bx,b.bx,a.bx,b.bx,x.bx,y.bx,x.bx,y.bx,mS A] kq kq kq kq kq kq (ca [0,12] (bW fx a x 0 A oq sA gaA rx) rfl dq pP qP pM rfl pG p9 po) (fun _ _=>rfl) kq ?_
 refine qu 1 ?_ ?_
 refine cB (args:=[.agg [.int .i64 (x.kind),.str x.name,.int .i64 (x.n),.imm (x.names.map aa.str),.imm (x.kids.map Ty.enc)],.agg [.int .i64 (x.kind),.str x.name,.int .i64 (x.n),.imm (x.names.map aa.str),.imm (x.kids.map Ty.enc)]]) kq kq kq kq kq (gH x oq) Hl uv uR ?_
 refine qu 4 ?_ ?_
 refine pf (args:=[.ptr 0 0,.agg [.int .i64 (b.kind),.str b.name,.int .i64 (b.n),.imm (b.names.map aa.str),.imm (b.kids.map Ty.enc)]]) (v:=.agg [.int .i64 (y.kind),.str y.name,.int .i64 (y.n),.imm (y.names.map aa.str),.imm (y.kids.map Ty.enc)]) (h':=[.box [.int .i64 0,.map 12],mS S1,.box [.int .i64 0,.map 3],mS A,a.bx,b.bx,a.bx,b.bx,x.bx,y.bx,x.bx,y.bx,mS A]) [0,12] [.box [.int .i64 0,.map 12],mS S1,.box [.int .i64 0,.map 3],mS A,a.bx,b.bx,a.bx,b.bx,x.bx,y.bx,x.bx,y.bx,mS A] kq kq kq kq kq kq (ca [0,12] (bW fy b y 0 A oq sA gbA ry) rfl dq pP qP pM rfl pG p9 po) (fun _ _=>rfl) kq ?_
 refine qu 1 ?_ ?_
 refine cB (args:=[.agg [.int .i64 (y.kind),.str y.name,.int .i64 (y.n),.imm (y.names.map aa.str),.imm (y.kids.map Ty.enc)],.agg [.int .i64 (y.kind),.str y.name,.int .i64 (y.n),.imm (y.names.map aa.str),.imm (y.kids.map Ty.enc)]]) kq kq kq kq kq (gH y oq) Hl uv uR ?_
 refine qu 2 ?_ ?_
 refine cB (args:=[]) kq kq kq kq kq (pD) (fun _=>kq) kq kq ?_
 refine qu 2 ?_ ?_
 refine cn kq ⟨kq,?_⟩
 refine ab ?_
 refine bb kq ?_
 refine aH (b:=true) (.inr rfl) kq ?_
 · rfl
 iterate 64 kernel_rfl
inductive Cl:Nat→Ty→Prop
 | base (b:Nat) (k:Int) (x:List UInt8) (hf:fmd (.mk k x 0 [] [])=true) (h4:k≠4) (h5:k≠5) (h6:k≠6) (hx:x.length≤10):Cl b (.mk k x 0 [] [])
 | list (b:Nat) (t:Ty) (h:Cl b t):Cl (b+1) (.mk 4 [] 0 [] [t])
 | rcd (b:Nat) (ns:List (List UInt8)) (ks:List Ty) (hs:ns.Pairwise (fun a b=>a<b)) (hm:∀ s∈ns,s∈nm4) (hl:ns.length=ks.length) (hk:∀ k∈ks,Cl b k):Cl (b+1) (.mk 5 [] 0 ns ks)
theorem xU:∀ s∈nm4,cu 2 s=true:=by
 intro s hs
 simp only [nm4,List.mem_cons,List.not_mem_nil,or_false] at hs
 rcases hs with rfl|rfl|rfl|rfl <;> kernel_rfl
theorem Cc:∀ s∈nm4,s.length≤2:=by
 intro s hs
 simp only [nm4,List.mem_cons,List.not_mem_nil,or_false] at hs
 rcases hs with rfl|rfl|rfl|rfl <;> decide
theorem Gw {ns:List (List UInt8)} (hs:ns.Pairwise (fun a b=>a<b)) (hm:∀ s∈ns,s∈nm4):oI ns=true:=by
 refine td fun i hi=>?_
 unfold lJ
 have e:ns.getD i []=ns[i]:=by rw [List.getD_eq_getElem?_getD,List.getElem?_eq_getElem hi];rfl
 rw [e,xU _ (hm _ (List.getElem_mem hi)),Bool.true_and,Bool.or_eq_true]
 by_cases h0:i=0
 · exact .inl (by simp [h0])
 · right
   have hi':i - 1<ns.length:=by omega
   rw [List.getD_eq_getElem?_getD,List.getElem?_eq_getElem hi',mD,decide_eq_true_eq]
   exact List.pairwise_iff_getElem.1 hs (i - 1) i hi' hi oq
theorem pb {n:Int} {ns:List (List UInt8)} {ks:List Ty} (h0:0≤n) (hs:ns.Pairwise (fun a b=>a<b)) (hm:∀ s∈ns,s∈nm4) (hl:ns.length=ks.length):fmd (.mk 5 [] n ns ks)=true:=by
 unfold fmd
 simp [Gw hs hm,h0,hl]
theorem mr {l:List Ty} (h:∀ k∈l,whl k=true):kS l=true:=by rw [vO,List.all_eq_true];exact h
structure tyN (S:St) (t:Ty):Prop where
 gt:Gt t
 wh:whl t=true
 oc:∀ o∈aF t,∃ x,am o.n S=some x∧x.row=o.row∧x.names=o.names
theorem tyN.s {S:St} {t:Ty} (h:tyN S t):tyS S t:=⟨h.gt,fun o ho=>by obtain ⟨x,h1,h2,h3⟩:=h.oc o ho;exact ⟨x,h1,h2,fun _=>h3⟩⟩
theorem tyN.up {S S':St} {t:Ty} (h:tyN S t) (hf:∀ m x,am m S=some x→am m S'=some x):tyN S' t:=⟨h.gt,h.wh,fun o ho=>by obtain ⟨x,h1,h2,h3⟩:=h.oc o ho;exact ⟨x,hf _ x h1,h2,h3⟩⟩
theorem tyN.ext {S S':St} {t:Ty} (h:tyN S t) (hf:Ext S S'):tyN S' t:=⟨h.gt,h.wh,fun o ho=>by obtain ⟨x,h1,h2,h3⟩:=h.oc o ho;obtain ⟨x',k1,k2,k3⟩:=hf _ x h1;exact ⟨x',k1,k2.trans h2,k3.trans h3⟩⟩
mutual
theorem zP {S:St}:∀ (t:Ty),(∀ o∈aF t,∃ x,am o.n S=some x∧x.row=o.row∧x.names=o.names)→i9 S t=true
 | .mk k x n l ks,h=>by
  have ih:=xo ks fun o ho=>h o (by rw [aF,List.mem_append,List.mem_append];exact .inl (.inr ho))
  rw [i9,ih,Bool.and_true]
  by_cases hv:isV k n=true
  · have hv':=hv
    simp only [isV,Bool.or_eq_true,decide_eq_true_eq,Bool.and_eq_true] at hv
    rcases hv with rfl|⟨rfl,hn⟩
    · obtain ⟨y,h1,h2,h3⟩:=h ⟨n,false,[]⟩ cU
      rw [AN (t:=.mk 6 x n l ks) hv' h1,h2];rfl
    · obtain ⟨y,h1,h2,h3⟩:=h ⟨n,true,l⟩ (cc hn)
      rw [AN (t:=.mk 5 x n l ks) hv' h1,h2,h3]
      simp
  · exact GM (t:=.mk k x n l ks) hv
theorem xo {S:St}:∀ (l:List Ty),(∀ o∈aI l,∃ x,am o.n S=some x∧x.row=o.row∧x.names=o.names)→cq S l=true
 | [],_=>rfl
 | t::l,h=>by
  rw [cq,zP t fun o ho=>h o (by rw [aI,List.mem_append];exact .inl ho),xo l fun o ho=>h o (by rw [aI,List.mem_append];exact .inr ho)];rfl
end
theorem xk {l:List Occ} {i:Nat} (hi:i<l.length):l.getD i Occ.zero∈l:=by
 rw [List.getD_eq_getElem?_getD,List.getElem?_eq_getElem hi];exact List.getElem_mem hi
theorem tyN.has {S:St} {t:Ty} (h:tyN S t):cD S t=true:=by
 rw [cD,Bool.and_eq_true]
 refine ⟨?_,zP t h.oc⟩
 rw [yN,uh,h.wh,Bool.true_and]
 refine yS fun i hi k hk=>?_
 obtain ⟨x,h1,h2,h3⟩:=h.oc _ (xk hi)
 obtain ⟨y,k1,k2,k3⟩:=h.oc _ (xk (show k<(aF t).length by omega))
 unfold pB
 by_cases e:((aF t).getD i Occ.zero).n=((aF t).getD k Occ.zero).n
 · rw [e,k1] at h1
   cases h1
   rw [← h2,← k2,← h3,← k3];simp
 · rw [beq_eq_false_iff_ne.2 e];rfl
theorem Cl.gt {b:Nat} {t:Ty} (h:Cl b t):Gt t:=by
 induction h with
 | base b k x hf h4 h5 h6 hx=>exact .leaf k x h4 h5 h6
 | list b t h ih=>exact .list t ih
 | rcd b ns ks hs hm hl hk ih=>exact .rcd 0 ns ks dq hs hl ih
theorem Cl.oc {b:Nat} {t:Ty} (h:Cl b t):∀ o,o∉aF t:=by
 induction h with
 | base b k x hf h4 h5 h6 hx =>
  intro o ho
  rcases bD ho with h|h|⟨t',ht,_⟩
  · exact h6 h.1
  · exact h5 h.1
  · simp at ht
 | list b t h ih=>intro o ho;exact ih o (Gt.occ_list ho)
 | rcd b ns ks hs hm hl hk ih =>
  intro o ho
  rcases d7 (t:=.mk 5 [] 0 ns ks) rfl ho with ⟨hn,_⟩|⟨k,hk',ho⟩
  · exact hn rfl
  · exact ih k hk' o ho
theorem Cl.wh {b:Nat} {t:Ty} (h:Cl b t):whl t=true:=by
 induction h with
 | base b k x hf h4 h5 h6 hx=>rw [eS,hf];rfl
 | list b t h ih=>rw [eS];simp [kS,ih,fmd]
 | rcd b ns ks hs hm hl hk ih=>rw [eS,pb dq hs hm hl];exact mr ih
theorem Cl.ft {h':Int→Nat} {b:Nat} {t:Ty} (h:Cl b t):Ft h' b t:=by
 induction h with
 | base b k x hf h4 h5 h6 hx=>exact .leaf b k x ⟨hx,hf⟩ h5 h6
 | list b t h ih=>exact .list b t ih
 | rcd b ns ks hs hm hl hk ih=>exact .rcd b 0 ns ks (fun h=>absurd rfl h) (az hs) hm hl ih
theorem Cl.tyN {S:St} {b:Nat} {t:Ty} (h:Cl b t):tyN S t:=⟨h.gt,h.wh,fun o ho=>absurd ho (h.oc o)⟩
theorem Cl.sub {σ:Int→Ty} {b:Nat} {t:Ty} (h:Cl b t):sub σ t=t:=tP h.gt fun o ho=>absurd ho (h.oc o)
theorem Cl.up {b:Nat} {t:Ty} (h:Cl b t):Cl (b+1) t:=by
 induction h with
 | base b k x hf h4 h5 h6 hx=>exact .base _ k x hf h4 h5 h6 hx
 | list b t h ih=>exact .list _ t ih
 | rcd b ns ks hs hm hl hk ih=>exact .rcd _ ns ks hs hm hl ih
theorem wJ {b:Nat} {k:Int} (h0:0≤k) (h5:k<5):Cl b (jv k):=by
 have:k=0∨k=1∨k=2∨k=3∨k=4:=by omega
 rcases this with rfl|rfl|rfl|rfl|rfl
 · exact .base b 0 [] kq dq dq dq dq
 · exact .base b 1 [] kq dq dq dq dq
 · exact .base b 2 [] kq dq dq dq dq
 · exact .base b 3 [67,111,108,111,114] kq dq dq dq dq
 · exact .base b 3 [83,104,97,112,101] kq dq dq dq dq
theorem sj {s:List UInt8}:∀ {l:List (List UInt8)},(∀ x∈l,x<s)→gS l s=l.length
 | [],_=>rfl
 | x::l,h=>by
  have hx:aY x s=true:=by rw [mD,decide_eq_true_eq];exact h x List.mem_cons_self
  have ih:=sj (l:=l) fun y hy=>h y (List.mem_cons_of_mem _ hy)
  unfold gS at ih ⊢
  rw [List.takeWhile_cons,if_pos hx,List.length_cons,List.length_cons,ih]
theorem DR {t x:Ty} {s:List UInt8} (hl:t.names.length=t.kids.length) (h:∀ y∈t.names,y<s):me t s x=.mk 5 [] t.n (t.names++[s]) (t.kids++[x]):=by
 unfold me oG jF
 rw [sj h,hl]
 simp [List.take_of_length_le,← hl]
theorem Hh {i j:Nat} (h:i<j) (hj:j<4):nms.getD i []<nms.getD j []:=by
 have:(i=0∧j=1)∨(i=0∧j=2)∨(i=0∧j=3)∨(i=1∧j=2)∨(i=1∧j=3)∨(i=2∧j=3):=by omega
 rcases this with ⟨rfl,rfl⟩|⟨rfl,rfl⟩|⟨rfl,rfl⟩|⟨rfl,rfl⟩|⟨rfl,rfl⟩|⟨rfl,rfl⟩ <;> decide
structure rcI (b i:Nat) (o:Ty):Prop where
 cl:Cl (b+1) o
 k5:o.kind=5
 lt:∀ y∈o.names,∃ j,j<i∧y=nms.getD j []
theorem zU {b:Nat} {kid:Nat→Ty} (hk:∀ i,Cl b (kid i)):∀ (f i:Nat) (w:Int) (o:Ty),i+f≤4→rcI b i o→Cl (b+1) (mY kid f i w o)
 | 0,i,w,o,_,h=>h.cl
 | f+1,i,w,o,hi,h=>by
  rw [mY]
  refine zU hk f (i+1) _ _ oq ?_
  split
  · obtain ⟨hc,h5,hlt⟩:=h
    have key:∀ y∈o.names,y<nms.getD i []:=fun y hy=>by obtain ⟨j,hj,rfl⟩:=hlt y hy;exact Hh hj oq
    cases hc with
    | base _ k x hf h4 h5' h6 hx=>exact absurd h5 h5'
    | list b t h=>exact absurd h5 zq
    | rcd b ns ks hs hm hl hkk =>
     have e:=DR (t:=.mk 5 [] 0 ns ks) (x:=kid i) hl key
     simp only [Ty.n_mk,Ty.names_mk,Ty.kids_mk] at e key hlt
     rw [e]
     refine ⟨.rcd b _ _ ?_ ?_ (by simp [hl]) ?_,rfl,?_⟩
     · rw [List.pairwise_append]
       exact ⟨hs,by simp,fun a ha c hc=>by simp only [List.mem_singleton] at hc;subst hc;exact key a ha⟩
     · intro s hs'
       rcases List.mem_append.1 hs' with h|h
       · exact hm s h
       · rw [List.mem_singleton.1 h]
         have:i=0∨i=1∨i=2∨i=3:=by omega
         rcases this with rfl|rfl|rfl|rfl <;> decide
     · intro k hk'
       rcases List.mem_append.1 hk' with h|h
       · exact hkk k h
       · rw [List.mem_singleton.1 h];exact hk i
     · intro y hy
       simp only [Ty.names_mk] at hy
       rcases List.mem_append.1 hy with h|h
       · obtain ⟨j,hj,e⟩:=hlt y h;exact ⟨j,by omega,e⟩
       · exact ⟨i,by omega,List.mem_singleton.1 h⟩
  · exact ⟨h.cl,h.k5,fun y hy=>by obtain ⟨j,hj,e⟩:=h.lt y hy;exact ⟨j,by omega,e⟩⟩
theorem lB (l:List Int):∀ d q,Cl d (aX l d q)
 | 0,q=>by
  have:=o4 (d5 l q 8 dq).1 (show (0:Int)<5 by decide)
  exact wJ this.1 this.2
 | d+1,q=>by
  have ih:=lB l d
  have h0:=(d5 l q 8 dq).1
  unfold aX
  split
  · rename_i h;exact wJ h0 h
  · split
    · exact .list d _ (ih _)
    · exact zU (fun i=>ih _) 4 0 _ zv dq ⟨.rcd d [] [] .nil zq rfl zq,rfl,fun y hy=>by simp [zv] at hy⟩
structure Bl (lv:Int) (S S':St) (h h':Int→Nat) (d:Nat) (σ σ':Int→Ty) (r t:Ty):Prop where
 inv:Inv S'
 sol:Sol S' σ'
 agr:∀ n x,am n S=some x→σ' n=σ n
 old:∀ n x,am n S=some x→h' n=h n
 stf:StF S' h'
 ft:Ft h' d r
 eq:sub σ' r=t
 ty:tyN S' r
 sm:dP S'
 len:S'.length≤S.length+t.sz
 fix:∀ m x,am m S=some x→am m S'=some x
 nw:∀ m x,am m S'=some x→am m S=some x∨(x.lv=lv∧x.bd=false∧(x.row=false→x.names=[]))
theorem A6 {S:St} (wf:Wf S) {v:Vr} (hb:v.bd=false) (hs:v.names.Pairwise (fun a b=>a<b)):New S (aJ ((S.length+1:Nat):Int) v S) v :=
 ⟨kC wf.fresh,by rw [bE,if_pos rfl],fun m hm=>by rw [bE,if_neg hm],hb,hs⟩
theorem AG {S S':St} {v:Vr} (wf:Wf S) (h:New S S' v):∀ m x,am m S=some x→am m S'=some x:=fun m x hx=>by rw [h.oth m (wf.ne hx)];exact hx
theorem Ep {S S':St} {v:Vr} {lv:Int} (h:New S S' v) (hl:v.lv=lv) (hz:v.row=false→v.names=[]):∀ m x,am m S'=some x→am m S=some x∨(x.lv=lv∧x.bd=false∧(x.row=false→x.names=[])):=fun m x hx=>by
 by_cases e:m=((S.length+1:Nat):Int)
 · rw [e,h.at_] at hx;cases hx;exact .inr ⟨hl,h.bd,hz⟩
 · rw [h.oth m e] at hx;exact .inl hx
theorem Aw {S S':St} {v:Vr} {h:Int→Nat} {b:Nat} (wf:Wf S) (hn:New S S' v) (hF:StF S h):StF S' (fun m=>if m=((S.length+1:Nat):Int) then b else h m):=fun m y hy hyb=>by
 by_cases e:m=((S.length+1:Nat):Int)
 · rw [e,hn.at_] at hy;cases hy;rw [hn.bd] at hyb;cases hyb
 · rw [hn.oth m e] at hy
   simp only
   rw [if_neg e]
   exact (hF m y hy hyb).in (fun n x hx=>if_neg (wf.ne hx)) (uL wf hy hyb).2
theorem C9 {S S':St} {v:Vr} (h:New S S' v) (hs:dP S) (hv:v.names.length<100000000):dP S':=fun m x hx=>by
 by_cases e:m=((S.length+1:Nat):Int)
 · rw [e,h.at_] at hx;cases hx;exact hv
 · rw [h.oth m e] at hx;exact hs m x hx
theorem Fj {ns:List (List UInt8)} {ks:List Ty} {n:Int} (hs:ns.Pairwise (fun a b=>a<b)) (hl:ns.length=ks.length) (h0:0≤n) (hk:∀ k∈ks,Gt k):bY ns ks n=.mk 5 [] n ns ks:=by
 have hg:Gt (bY ns ks n):=uC (dp _ zq) h0 fun p hp=>by
  rcases eJ hp with h|h
  · exact hk _ h.2
  · simp at h
 refine dw hg (.rcd n ns ks h0 hs hl hk) rfl rfl rfl fun s=>?_
 unfold bY
 rw [oV (dp _ zq),iz (t:=dX ns ks) (az hs) hl]
 show (fg s (dX ns ks)).orElse _=fg s (.mk 5 [] n ns ks)
 have:fg s (dX ns ks)=fg s (.mk 5 [] n ns ks):=rfl
 rw [this]
 cases fg s (.mk 5 [] n ns ks) <;> simp [am]
structure BlK (lv:Int) (S T:St) (h h':Int→Nat) (d:Nat) (σ σ':Int→Ty) (t:Ty) (k:Nat) (ns:List (List UInt8)) (ks:List Ty):Prop where
 inv:Inv T
 sol:Sol T σ'
 agr:∀ n x,am n S=some x→σ' n=σ n
 old:∀ n x,am n S=some x→h' n=h n
 stf:StF T h'
 sm:dP T
 len:T.length≤S.length+Ty.szL (t.kids.take k)
 fix:∀ m x,am m S=some x→am m T=some x
 nw:∀ m x,am m T=some x→am m S=some x∨(x.lv=lv∧x.bd=false∧(x.row=false→x.names=[]))
 sl:ns.Sublist (t.names.take k)
 ll:ns.length=ks.length
 ok:∀ p∈ns.zip ks,tyN T p.2∧Ft h' d p.2∧fg p.1 t=some (sub σ' p.2)
theorem Ex {α β:Type} {a:List α} {b:List β} {x:α} {y:β} (h:a.length=b.length):(a++[x]).zip (b++[y])=a.zip b++[(x,y)]:=by
 rw [List.zip_append h];rfl
theorem F4 {α β:Type} {a:List α} {b:List β} (h:a.length=b.length) {y:β} (hy:y∈b):∃ x,(x,y)∈a.zip b:=by
 obtain ⟨i,hi,e⟩:=List.getElem_of_mem hy
 have hz:i<(a.zip b).length:=by rw [List.length_zip];omega
 have hm:=List.getElem_mem hz
 rw [List.getElem_zip,e] at hm
 exact ⟨_,hm⟩
theorem o5 {S:St} {σ τ:Int→Ty} {t:Ty} (h:tyN S t) (ha:∀ n x,am n S=some x→τ n=σ n):sub τ t=sub σ t:=dM t fun o ho=>by obtain ⟨x,h1,_⟩:=h.oc o ho;exact ha _ x h1
theorem tyN.in {S:St} {t:Ty} (h:tyN S t):∀ o∈aF t,∃ y,am o.n S=some y∧y.row=o.row:=h.s.in
section
variable {l:List Int} {lv:Int} {n:Nat}
theorem tE {d q:Nat} {t:Ty} {p:Int} {S:St} {h σ} (ih:∀ (x:Ty) (S:St) (q:Nat) (h:Int→Nat) (σ:Int→Ty),Cl d x→x.sz≤n→Inv S→Sol S σ→StF S h→dP S→S.length+x.sz<100000000→∃ r S' h' σ',dh l lv n S x q=some (r,S')∧Bl lv S S' h h' d σ σ' r x)
 (hnd:t.names.Nodup) (hl:t.names.length=t.kids.length) (hkc:∀ k∈t.kids,Cl d k) (hkn:∀ k∈t.kids,k.sz≤n) (hi:Inv S) (hs:Sol S σ) (hF:StF S h) (hm:dP S) (hlen:S.length+t.sz<100000000) :
 ∀ k,k≤t.names.length→∃ ns ks T h' σ',eo (dh l lv n) l t p q k S=some (ns,ks,T)∧BlK lv S T h h' d σ σ' t k ns ks∧(p > 3→ns=t.names.take k)
 | 0,_=>⟨[],[],S,h,σ,rfl,⟨hi,hs,fun _ _ _=>rfl,fun _ _ _=>rfl,hF,hm,by simp [Ty.szL],fun _ _ h=>h,fun _ _ h=>.inl h,by simp,rfl,by simp⟩,fun _=>by simp⟩
 | k+1,hk=>by
  obtain ⟨ns,ks,T,h1,σ1,e1,b1,g1⟩:=tE ih hnd hl hkc hkn hi hs hF hm hlen k oq
  have hkk:k<t.kids.length:=by omega
  have hkm:t.kids.getD k Ty.zero∈t.kids:=by rw [List.getD_eq_getElem?_getD,List.getElem?_eq_getElem hkk];exact List.getElem_mem hkk
  have hsz:=tS t.kids k hkk
  have hst:=gP t
  have hzt:Ty.szL (t.kids.take k)+(t.kids.getD k Ty.zero).sz≤Ty.szL (t.kids.take (k+1)):=by
   rw [e7 t.kids k hkk,u0];simp only [Ty.szL];omega
  have hfk:fg (t.names.getD k []) t=some (t.kids.getD k Ty.zero):=(zJ hnd hl).2 ⟨k,by omega,rfl,rfl⟩
  have htk:t.names.take (k+1)=t.names.take k++[t.names.getD k []]:=kl t.names k [] oq
  by_cases hc:p > 3∨ao l (q+5+k) 2=0
  · obtain ⟨r,T2,h2,σ2,e2,b2⟩:=ih (t.kids.getD k Ty.zero) T (q+2+2 * k) h1 σ1 (hkc _ hkm) (hkn _ hkm) b1.inv b1.sol b1.stf b1.sm (by have:=b1.len;omega)
    refine ⟨ns++[t.names.getD k []],ks++[r],T2,h2,σ2,?_,⟨b2.inv,b2.sol,fun n x hx=>?_,fun n x hx=>?_,b2.stf,b2.sm,?_,fun m x hx=>b2.fix m x (b1.fix m x hx),fun m x hx=>?_,?_,by simp [b1.ll],fun p' hp=>?_⟩,fun hp=>?_⟩
    · rw [eo,e1];simp only [if_pos hc,e2]
    · rw [b2.agr n x (b1.fix n x hx),b1.agr n x hx]
    · rw [b2.old n x (b1.fix n x hx),b1.old n x hx]
    · have:=b1.len;have:=b2.len;omega
    · rcases b2.nw m x hx with h|h
      · exact b1.nw m x h
      · exact .inr h
    · rw [htk];exact b1.sl.append (List.Sublist.refl _)
    · rw [Ex b1.ll] at hp
      rcases List.mem_append.1 hp with h|h
      · obtain ⟨o1,o2,o3⟩:=b1.ok p' h
        exact ⟨o1.up b2.fix,o2.in b2.old o1.in,by rw [o3,o5 o1 b2.agr]⟩
      · rw [List.mem_singleton.1 h]
        exact ⟨b2.ty,b2.ft,by rw [b2.eq];exact hfk⟩
    · rw [g1 hp,htk]
  · refine ⟨ns,ks,T,h1,σ1,?_,⟨b1.inv,b1.sol,b1.agr,b1.old,b1.stf,b1.sm,by have:=b1.len;omega,b1.fix,b1.nw,?_,b1.ll,b1.ok⟩,fun hp=>absurd (.inl hp) hc⟩
    · rw [eo,e1];simp only [if_neg hc]
    · rw [htk];exact b1.sl.trans (List.sublist_append_left _ _)
theorem mi:∀ (n d:Nat) (t:Ty) (S:St) (q:Nat) (h:Int→Nat) (σ:Int→Ty),szB d<lim→Cl d t→t.sz≤n→Inv S→Sol S σ→StF S h→dP S→S.length+t.sz<100000000→∃ r S' h' σ',dh l lv n S t q=some (r,S')∧Bl lv S S' h h' d σ σ' r t
 | 0,d,t,S,q,h,σ,hb,hc,hz,hi,hs,hF,hm,hlen=>by have:=gP t;omega
 | n+1,d,t,S,q,h,σ,hb,hc,hz,hi,hs,hF,hm,hlen=>by
  have wf:=hi.1
  have hst:=gP t
  by_cases hp:ao l q 6=0
  · have hnew:=A6 wf (v:=⟨false,lv,false,Ty.zero,[]⟩) rfl .nil
    refine ⟨.mk 6 [] ((S.length+1:Nat):Int) [] [],E3 lv S,(fun m=>if m=((S.length+1:Nat):Int) then d else h m),upd σ ((S.length+1:Nat):Int) t,by rw [dh,if_pos hp,if_pos (show S.length<100000000 by omega)],⟨hi.new hnew,hnew.sol wf hs hc.gt (fun h=>by cases h),fun n x hx=>eX (wf.ne hx),fun n x hx=>if_neg (wf.ne hx),Aw wf hnew hF,.var d _ zq,?_,⟨.var _ oq,?_,fun o ho=>?_⟩,C9 hnew hm zq,?_,AG wf hnew,Ep hnew rfl fun _=>rfl⟩⟩
    · rw [cQ,fv]
    · rw [eS];simp [kS,fmd];omega
    · rcases bD ho with h|h|⟨t',ht,_⟩
      · rw [h.2];exact ⟨_,hnew.at_,rfl,rfl⟩
      · exact absurd h.1 dq
      · simp at ht
    · have:=hnew.len
      have e:(E3 lv S).length=S.length+1:=this
      rw [e];omega
  cases hc with
  | base d k x hf h4 h5 h6 hx =>
   refine ⟨_,_,h,σ,by rw [dh,if_neg hp,if_neg (fun hk=>h4 hk.1),if_pos (show ¬ (Ty.mk k x 0 [] []).kind=5 from h5)],⟨hi,hs,fun _ _ _=>rfl,fun _ _ _=>rfl,hF,.leaf d k x ⟨hx,hf⟩ h5 h6,(Cl.base d k x hf h4 h5 h6 hx).sub,(Cl.base d k x hf h4 h5 h6 hx).tyN,hm,by omega,fun _ _ h=>h,fun _ _ h=>.inl h⟩⟩
  | list d x hx =>
   simp only [Ty.kids_mk,Ty.szL,Ty.name_mk,Ty.names_mk,szS,List.length_nil] at hst
   obtain ⟨r,S',h',σ',e,b⟩:=mi n d x S (q+1) h σ (by simp only [szB] at hb;omega) hx oq hi hs hF hm oq
   refine ⟨lsT r,S',h',σ',?_,⟨b.inv,b.sol,b.agr,b.old,b.stf,.list d r b.ft,?_,⟨.list r b.ty.gt,?_,fun o ho=>b.ty.oc o (Gt.occ_list ho)⟩,b.sm,by have:=b.len;omega,b.fix,b.nw⟩⟩
   · rw [dh,if_neg hp,if_pos ⟨rfl,rfl⟩]
     simp only [Ty.kids_mk,List.getD_cons_zero,e]
   · show sub σ' (.mk 4 [] 0 [] [r])=_
     rw [bu σ' _ _ _ dq dq]
     simp only [List.map_cons,List.map_nil,b.eq]
   · rw [eS];simp [lsT,kS,b.ty.wh,fmd]
  | rcd d ns0 ks0 hsrt hmem hl hk =>
   simp only [Ty.kids_mk,Ty.name_mk,Ty.names_mk,List.length_nil] at hst
   have hbd:szB d<lim:=by simp only [szB] at hb;omega
   have hkn:∀ k∈ks0,k.sz≤n:=fun k hk'=>by
    obtain ⟨i,hi',e⟩:=List.getElem_of_mem hk'
    have:=lI ks0 i hi'
    rw [List.getD_eq_getElem?_getD,List.getElem?_eq_getElem hi'] at this
    have:ks0[i].sz<_:=this
    rw [e] at this;omega
   obtain ⟨ns,ks,T,h1,σ1,e1,b1,g1⟩:=tE (l:=l) (lv:=lv) (n:=n) (d:=d) (q:=q) (t:=.mk 5 [] 0 ns0 ks0) (p:=ao l q 6) (S:=S) (h:=h) (σ:=σ)
    (fun x S q h σ c1 c2 c3 c4 c5 c6 c7=>mi n d x S q h σ hbd c1 c2 c3 c4 c5 c6 c7) (az hsrt) hl hk hkn hi hs hF hm hlen ns0.length (Nat.le_refl _)
   have hsl:ns.Sublist ns0:=by have:=b1.sl;simpa using this
   have hns:ns.Pairwise (fun a b=>a<b):=hsrt.sublist hsl
   have hnm:∀ s∈ns,s∈nm4:=fun s hs'=>hmem s (hsl.subset hs')
   have hkz:∀ k∈ks,tyN T k∧Ft h1 d k:=fun k hk'=>by
    obtain ⟨s,hz'⟩:=F4 b1.ll hk'
    obtain ⟨o1,o2,_⟩:=b1.ok _ hz'
    exact ⟨o1,o2⟩
   have hkg:∀ k∈ks,Gt k:=fun k hk'=>(hkz k hk').1.gt
   have wfT:=b1.inv.1
   have hszl:Ty.szL (ks0.take ns0.length)≤Ty.szL ks0:=ie _ _
   have hTl:=b1.len
   simp only [Ty.kids_mk] at hTl
   have hfR:∀ (m:Int) (s:List UInt8) x,fg s (.mk 5 [] m ns ks)=some x→fg s (.mk 5 [] 0 ns0 ks0)=some (sub σ1 x)∧tyN T x:=fun m s x hf=>by
    obtain ⟨o1,_,o3⟩:=b1.ok (s,x) (hY hf)
    exact ⟨o3,o1⟩
   have hGt:Gt (Ty.mk 5 [] 0 ns0 ks0):=.rcd 0 ns0 ks0 dq hsrt hl fun k hk'=>(hk k hk').gt
   by_cases h4:ao l q 6 > 4
   · have hnn:ns=ns0:=by have:=g1 oq;simpa using this
     refine ⟨.mk 5 [] 0 ns ks,T,h1,σ1,?_,⟨b1.inv,b1.sol,b1.agr,b1.old,b1.stf,.rcd d 0 ns ks (fun h=>absurd rfl h) (az hns) hnm b1.ll fun k hk'=>(hkz k hk').2,?_,⟨.rcd 0 ns ks dq hns b1.ll hkg,?_,fun o ho=>?_⟩,b1.sm,by omega,b1.fix,b1.nw⟩⟩
     · rw [dh,if_neg hp,if_neg (fun hk=>absurd hk.1 zq),if_neg (fun hk=>hk rfl),if_neg (fun hk=>hk hl)]
       simp only [Ty.names_mk,e1]
       rw [if_pos h4]
     · rw [bu σ1 _ _ _ dq (fun _=>rfl)]
       refine dw (.rcd 0 ns _ dq hns (by simp [b1.ll]) fun k hk'=>?_) hGt rfl rfl rfl fun s=>?_
       · obtain ⟨x,hx,rfl⟩:=List.mem_map.1 hk'
         exact d6 (hkg x hx) ((hkz x hx).1.s.okG b1.sol)
       · rw [t7 σ1 s 5 5 [] [] 0 0 ns ks]
         cases hf:fg s (.mk 5 [] 0 ns ks) with
         | some x=>rw [(hfR 0 s x hf).1];rfl
         | none =>
          have h2:s∉ns0:=by rw [← hnn];exact (bZ (t:=.mk 5 [] 0 ns ks) b1.ll).1 hf
          rw [(bZ (t:=.mk 5 [] 0 ns0 ks0) hl).2 h2];rfl
     · rw [eS,pb dq hns hnm b1.ll];exact mr fun k hk'=>(hkz k hk').1.wh
     · rcases d7 (t:=.mk 5 [] 0 ns ks) rfl ho with ⟨hn,_⟩|⟨k,hk',ho⟩
       · exact absurd rfl hn
       · exact (hkz k hk').1.oc o ho
   · have hl4:=HA (az hns) hnm
     have hTlim:T.length<100000000:=by omega
     have hrg:Dr T ns ks:=by
      refine ⟨by omega,fun i=>?_,fun i=>?_,b1.sm,hTlim,⟨b1.ll,fun i hi'=>?_,fun i hi'=>?_,az hns⟩⟩
      · by_cases hi':i<ns.length
        · rw [List.getD_eq_getElem?_getD,List.getElem?_eq_getElem hi']
          exact Nat.lt_of_le_of_lt (Cc _ (hnm _ (List.getElem_mem hi'))) dq
        · rw [List.getD_eq_getElem?_getD,List.getElem?_eq_none oq];exact (by decide:0<100000000)
      · by_cases hi':i<ks.length
        · rw [List.getD_eq_getElem?_getD,List.getElem?_eq_getElem hi']
          exact Nat.lt_of_le_of_lt (hkz _ (List.getElem_mem hi')).2.sz hbd
        · rw [List.getD_eq_getElem?_getD,List.getElem?_eq_none oq];exact (by decide:1<100000000)
      · rw [List.getD_eq_getElem?_getD,List.getElem?_eq_getElem hi']
        exact xU _ (hnm _ (List.getElem_mem hi'))
      · have hi2:i<ks.length:=by rw [← b1.ll];exact hi'
        rw [List.getD_eq_getElem?_getD,List.getElem?_eq_getElem hi2]
        exact (hkz _ (List.getElem_mem hi2)).1.has
     have hre:∀ m:Int,0≤m→bY ns ks m=.mk 5 [] m ns ks:=fun m hm'=>Fj hns b1.ll hm' hkg
     have hnames:(bY ns ks 0).names=ns:=by rw [hre 0 dq];rfl
     have hnew:=A6 wfT (v:=⟨true,lv,false,Ty.zero,ns⟩) rfl hns
     have hwf:=fun s=>ql (a:=.mk 5 [] 0 ns0 ks0) (b:=.mk 5 [] 0 ns ks) (n:=0) (az hsrt) hl s
     have hwg:Gt (onT (.mk 5 [] 0 ns0 ks0) (.mk 5 [] 0 ns ks) 0):=AY (az hsrt) hl dq fun k hk'=>(hk k hk').gt
     have hsol:=hnew.sol wfT b1.sol hwg (fun _=>⟨rfl,fun s hs'=>by rw [hwf,if_pos (show s∈(Ty.mk 5 [] 0 ns ks).names from hs')]⟩)
     have hfix:=AG wfT hnew
     have hty:tyN (aJ ((T.length+1:Nat):Int) ⟨true,lv,false,Ty.zero,ns⟩ T) (.mk 5 [] ((T.length+1:Nat):Int) ns ks):=by
      refine ⟨.rcd _ ns ks oq hns b1.ll hkg,?_,fun o ho=>?_⟩
      · rw [eS,pb oq hns hnm b1.ll];exact mr fun k hk'=>(hkz k hk').1.wh
      · rcases d7 (t:=.mk 5 [] ((T.length+1:Nat):Int) ns ks) rfl ho with ⟨_,rfl⟩|⟨k,hk',ho⟩
        · exact ⟨_,hnew.at_,rfl,rfl⟩
        · exact ((hkz k hk').1.up hfix).oc o ho
     refine ⟨.mk 5 [] ((T.length+1:Nat):Int) ns ks,aJ ((T.length+1:Nat):Int) ⟨true,lv,false,Ty.zero,ns⟩ T,(fun m=>if m=((T.length+1:Nat):Int) then d+1 else h1 m),_,?_,⟨b1.inv.new hnew,hsol,fun n x hx=>?_,fun n x hx=>?_,Aw wfT hnew b1.stf,?_,?_,hty,C9 hnew b1.sm (show ns.length<_ by omega),?_,fun m x hx=>hfix m x (b1.fix m x hx),fun m x hx=>?_⟩⟩
     · rw [dh,if_neg hp,if_neg (fun hk=>absurd hk.1 zq),if_neg (fun hk=>hk rfl),if_neg (fun hk=>hk hl)]
       simp only [Ty.names_mk,e1]
       rw [if_neg h4,if_pos hrg,hre _ oq,hnames]
       rfl
     · rw [eX (wfT.ne (b1.fix n x hx))];exact b1.agr n x hx
     · exact (if_neg (wfT.ne (b1.fix n x hx))).trans (b1.old n x hx)
     · refine .rcd d _ ns ks (fun _=>by simp) (az hns) hnm b1.ll fun k hk'=>(hkz k hk').2.in (fun n x hx=>if_neg (wfT.ne hx)) (hkz k hk').1.in
     · refine dw (d6 hty.gt (hty.s.okG hsol)) hGt (by rw [a8 zq];rfl) rfl ?_ fun s=>?_
       · rw [dg (by rfl),if_neg (show ¬ (Ty.mk 5 [] ((T.length+1:Nat):Int) ns ks).n=0 by rw [Ty.n_mk];omega)]
         show (upd σ1 _ _ ((T.length+1:Nat):Int)).n=0
         rw [fv];rfl
       · rw [cA hty.gt rfl (hty.s.okG hsol),if_neg (show ¬ (Ty.mk 5 [] ((T.length+1:Nat):Int) ns ks).n=0 by rw [Ty.n_mk];omega)]
         show (fg s (upd σ1 _ _ ((T.length+1:Nat):Int))).orElse _=_
         rw [fv,hwf]
         by_cases hs':s∈ns
         · rw [if_pos (show s∈(Ty.mk 5 [] 0 ns ks).names from hs')]
           obtain ⟨x,hx⟩:=du (t:=.mk 5 [] ((T.length+1:Nat):Int) ns ks) b1.ll hs'
           rw [hx,(hfR _ s x hx).1]
           simp only [Option.orElse_none,Option.map_some]
           rw [o5 (hfR _ s x hx).2 fun n y hy=>eX (wfT.ne hy)]
         · rw [if_neg (show s∉(Ty.mk 5 [] 0 ns ks).names from hs'),(bZ (t:=.mk 5 [] ((T.length+1:Nat):Int) ns ks) b1.ll).2 hs']
           cases fg s (.mk 5 [] 0 ns0 ks0) <;> simp
     · rw [hnew.len];omega
     · rcases Ep hnew rfl (fun h=>by cases h) m x hx with h|h
       · exact b1.nw m x h
       · exact .inr h
end
def Bc (σ:Int→Ty) (m:Bd):Prop:=∀ n u,am n m=some u→u=σ n
theorem Bc.ok {σ:Int→Ty} {m:Bd} (h:Bc σ m) (n:Int):mI m n (σ n)=true:=by
 unfold mI
 cases hm:am n m with
 | none=>rfl
 | some o=>rw [h n o hm];exact beq_refl _
theorem Bc.set {σ:Int→Ty} {m:Bd} (h:Bc σ m) (n:Int):Bc σ (aJ n (σ n) m):=fun k u hk=>by
 rw [bE] at hk
 split at hk
 · rename_i e;cases hk;rw [e]
 · exact h k u hk
theorem Eg {σ:Int→Ty} {c:Ty} (hcn:c.names.Nodup) (hcl:c.names.length=c.kids.length):∀ (ns:List (List UInt8)) (ks:List Ty) (m:Bd),ns.length=ks.length→(∀ p∈ns.zip ks,fg p.1 c=some (sub σ p.2)) →
 (∀ k∈ks,∀ m,Bc σ m→(mT k (sub σ k) m).1=true∧Bc σ (mT k (sub σ k) m).2)→Bc σ m→(mTL ns ks c m).1=true∧Bc σ (mTL ns ks c m).2
 | [],ks,m,_,_,_,hm=>by unfold mTL;exact ⟨rfl,hm⟩
 | s::ns,[],m,hl,_,_,_=>by simp at hl
 | s::ns,k::ks,m,hl,hf,hk,hm=>by
  have h1:=hf (s,k) (by rw [List.zip_cons_cons];exact List.mem_cons_self)
  have hi:¬ aQ c.names s<0:=by
   intro h
   exact Dy h (gM h1)
  have h2:=uT hcn hcl hi
  rw [h1] at h2
  obtain ⟨q1,q2⟩:=hk k List.mem_cons_self m hm
  rw [mTL,if_neg hi,← Option.some.inj h2,if_pos q1]
  exact Eg hcn hcl ns ks _ (by simpa using hl) (fun p hp=>hf p (by rw [List.zip_cons_cons];exact List.mem_cons_of_mem _ hp)) (fun k hk'=>hk k (List.mem_cons_of_mem _ hk')) q2
theorem DM {σ:Int→Ty} {t:Ty} (hg:Gt t):okG σ t→Dj σ t→∀ m,Bc σ m→(mT t (sub σ t) m).1=true∧Bc σ (mT t (sub σ t) m).2:=by
 induction hg with
 | leaf k x h4 h5 h6 =>
  intro _ _ m hm
  rw [bu σ x [] [] h6 (fun h=>absurd h h5)]
  simp only [List.map_nil]
  rw [Hx (t:=.mk k x 0 [] []) (c:=.mk k x 0 [] []) h6 (fun h=>h.elim (fun h=>h rfl) (fun h=>h rfl)) h5 h4]
  exact ⟨rfl,hm⟩
 | list t h ih =>
  intro ho hd m hm
  obtain ⟨_,_,hk⟩:=hd
  rw [bu σ _ _ _ dq dq]
  simp only [List.map_cons,List.map_nil]
  rw [Hq (t:=.mk 4 [] 0 [] [t]) (c:=.mk 4 [] 0 [] [sub σ t]) rfl (fun h=>h.elim (fun h=>h rfl) (fun h=>h rfl)) zq]
  simp only [Ty.kids_mk,List.getD_cons_zero]
  exact ih (ho.kid List.mem_cons_self) (hk t zq) m hm
 | var n h =>
  intro _ _ m hm
  rw [cQ,He (t:=.mk 6 [] n [] []) rfl]
  exact ⟨hm.ok n,hm.set n⟩
 | rcd n ns ks h0 hs hl hk ih =>
  intro ho hd m hm
  have hG:Gt (Ty.mk 5 [] n ns ks):=.rcd n ns ks h0 hs hl hk
  obtain ⟨_,hr,hdk⟩:=hd
  have hgc:=d6 hG ho
  have hkc:(sub σ (Ty.mk 5 [] n ns ks)).kind=5:=by rw [a8 zq];rfl
  obtain ⟨c1,c2,c3,c4,c5⟩:=hgc.sorted hkc
  have hfg:=cA hG rfl ho
  have hfk:∀ s x,fg s (.mk 5 [] n ns ks)=some x→fg s (sub σ (.mk 5 [] n ns ks))=some (sub σ x):=by
   intro s x hx
   rw [hfg s,hx]
   by_cases hn:(Ty.mk 5 [] n ns ks).n=0
   · rw [if_pos hn];rfl
   · rw [if_neg hn,hr rfl hn s (gM hx)];rfl
  have hL:=Eg (σ:=σ) (az c1) c2 ns ks m hl (fun p hp=>hfk p.1 p.2 (iv (l:=ns.zip ks) (by rw [cG hl];exact az hs) hp)) (fun k hk' m hm=>ih k hk' (ho.kid hk') (hdk k hk') m hm) hm
  have hne:¬ (¬ (Ty.mk 5 [] n ns ks).kind=(sub σ (Ty.mk 5 [] n ns ks)).kind∨¬ (Ty.mk 5 [] n ns ks).name=(sub σ (Ty.mk 5 [] n ns ks)).name):=fun h=>h.elim (fun h=>h hkc.symm) (fun h=>h c3.symm)
  by_cases hn:n=0
  · rw [GG (t:=.mk 5 [] n ns ks) rfl hne hL.1 hn]
    subst hn
    refine ⟨?_,hL.2⟩
    rw [bu σ _ _ _ dq (fun _=>rfl)]
    simp
  · rw [GN (t:=.mk 5 [] n ns ks) rfl hne hL.1 hn]
    have hgr:=ho _ (cc hn)
    have e:recT (onL (sub σ (Ty.mk 5 [] n ns ks)) (.mk 5 [] n ns ks) (sub σ (Ty.mk 5 [] n ns ks)).names.length) (sub σ (Ty.mk 5 [] n ns ks)).n=σ n:=by
     show onT (sub σ (Ty.mk 5 [] n ns ks)) (.mk 5 [] n ns ks) (sub σ (Ty.mk 5 [] n ns ks)).n=σ n
     refine dw (AY (az c1) c2 c4 c5) hgr.1 rfl (hgr.2 rfl) ?_ fun s=>?_
     · show (sub σ (Ty.mk 5 [] n ns ks)).n=_
       have:=dg (σ:=σ) (t:=Ty.mk 5 [] n ns ks) rfl
       rw [Ty.n_mk,if_neg hn] at this
       exact this
     · rw [ql (az c1) c2]
       by_cases hm':s∈ns
       · rw [if_pos (show s∈(Ty.mk 5 [] n ns ks).names from hm')]
         exact (hr rfl hn s hm').symm
       · rw [if_neg (show s∉(Ty.mk 5 [] n ns ks).names from hm'),hfg s,if_neg (show ¬ (Ty.mk 5 [] n ns ks).n=0 from hn),(bZ (t:=.mk 5 [] n ns ks) hl).2 hm']
         show (fg s (σ n)).orElse _=fg s (σ n)
         cases fg s (σ n) <;> rfl
    rw [e]
    exact ⟨hL.2.ok n,hL.2.set n⟩
section
variable {P:St→St→Prop} (hr:∀ S,P S S) (ht:∀ S T U,P S T→P T U→P S U) (hb:∀ f S n t ok S',cg f S n t=some (ok,S')→P S S')
 (hn:∀ S a b,rok a→rok b→(am a.n S).isSome=true→(am b.n S).isSome=true→P S (eF S a b))
include hr ht hb hn
theorem im {U:UF} (hU:∀ S a b ok S',U S a b=some (ok,S')→P S S') (b:Ty):∀ (ns:List (List UInt8)) (ks:List Ty) (S:St) (D:Dn) (ag:Bool) (ok:Bool) (S':St) (D':Dn) (ag':Bool),ck U b ns ks S D ag=some (ok,S',D',ag')→P S S'
 | [],ks,S,D,ag,ok,S',D',ag',h=>by cases ks <;> (simp only [ck,Option.some.injEq,Prod.mk.injEq] at h;obtain ⟨_,rfl,_⟩:=h;exact hr S)
 | s::ns,[],S,D,ag,ok,S',D',ag',h=>by simp only [ck,Option.some.injEq,Prod.mk.injEq] at h;obtain ⟨_,rfl,_⟩:=h;exact hr S
 | s::ns,k::ks,S,D,ag,ok,S',D',ag',h=>by
  rw [ck] at h
  split at h
  · exact im hU b ns ks S D ag ok S' D' ag' h
  · split at h
    · rename_i S1 h1
      exact ht _ _ _ (hU _ _ _ _ _ h1) (im hU b ns ks S1 _ _ ok S' D' ag' h)
    · rename_i S1 h1
      simp only [Option.some.injEq,Prod.mk.injEq] at h
      obtain ⟨_,rfl,_⟩:=h
      exact hU _ _ _ _ _ h1
    · cases h
theorem m5 {U:UF} (hU:∀ S a b ok S',U S a b=some (ok,S')→P S S') {f:Nat}:∀ (g:Nat) (S:St) (a b:Ty) (D:Dn) (ok:Bool) (S':St) (a' b':Ty),dR f U g S a b D=some (ok,S',a',b')→P S S'∧rok a'∧rok b'
 | 0,S,a,b,D,ok,S',a',b',h=>by simp [dR] at h
 | g+1,S,a,b,D,ok,S',a',b',h=>by
  rw [dR] at h
  split at h <;> try (cases h;done)
  split at h <;> try (cases h;done)
  split at h <;> try (cases h;done)
  rename_i hro
  split at h <;> try (cases h;done)
  · rename_i S1 D1 h1
    obtain ⟨q1,q2⟩:=m5 hU g S1 _ _ _ ok S' a' b' h
    exact ⟨ht _ _ _ (im hr ht hb hn hU _ _ _ _ _ _ _ _ _ _ h1) q1,q2⟩
  · rename_i S1 D1 h1
    simp only [Option.some.injEq,Prod.mk.injEq] at h
    obtain ⟨_,rfl,rfl,rfl⟩:=h
    exact ⟨im hr ht hb hn hU _ _ _ _ _ _ _ _ _ _ h1,hro⟩
  · rename_i S1 D1 D2 h1
    simp only [Option.some.injEq,Prod.mk.injEq] at h
    obtain ⟨_,rfl,rfl,rfl⟩:=h
    exact ⟨im hr ht hb hn hU _ _ _ _ _ _ _ _ _ _ h1,hro⟩
theorem C1 {f:Nat} {S S':St} {a b:Ty} {ok:Bool} (h:fu f S a b=some (ok,S')) (ha:rok a) (hb':rok b):P S S':=by
 unfold fu at h
 split at h <;> try (cases h;done)
 split at h
 · simp only [Option.some.injEq,Prod.mk.injEq] at h;obtain ⟨_,rfl⟩:=h;exact hr S
 split at h
 · simp only [Option.some.injEq,Prod.mk.injEq] at h;obtain ⟨_,rfl⟩:=h;exact hr S
 split at h
 · exact hb _ _ _ _ _ _ h
 split at h
 · exact hb _ _ _ _ _ _ h
 split at h <;> try (cases h;done)
 rename_i hg
 have h0:=hn S a b ha hb' hg.2.1 hg.2.2
 split at h <;> try (cases h;done)
 · rename_i S2 h2
   exact ht _ _ _ h0 (ht _ _ _ (hb _ _ _ _ _ _ h2) (hb _ _ _ _ _ _ h))
 · rename_i S2 h2
   simp only [Option.some.injEq,Prod.mk.injEq] at h
   obtain ⟨_,rfl⟩:=h
   exact ht _ _ _ h0 (hb _ _ _ _ _ _ h2)
theorem jX:∀ f S a b ok S',bq f S a b=some (ok,S')→P S S'
 | 0,S,a,b,ok,S',h=>by simp [bq] at h
 | f+1,S,a,b,ok,S',h=>by
  rw [bq] at h
  split at h <;> try (cases h;done)
  split at h <;> try (cases h;done)
  split at h <;> try (cases h;done)
  split at h
  · simp only [Option.some.injEq,Prod.mk.injEq] at h;obtain ⟨_,rfl⟩:=h;exact hr S
  split at h
  · exact hb _ _ _ _ _ _ h
  split at h
  · exact hb _ _ _ _ _ _ h
  split at h
  · simp only [Option.some.injEq,Prod.mk.injEq] at h;obtain ⟨_,rfl⟩:=h;exact hr S
  split at h
  · unfold gi at h
    split at h <;> try (cases h;done)
    · rename_i S1 a1 b1 h1
      obtain ⟨q1,q2,q3⟩:=m5 hr ht hb hn (fun S a b ok S'=>jX f S a b ok S') _ _ _ _ _ _ _ _ _ h1
      exact ht _ _ _ q1 (C1 hr ht hb hn h q2 q3)
    · rename_i S1 a1 b1 h1
      simp only [Option.some.injEq,Prod.mk.injEq] at h
      obtain ⟨_,rfl⟩:=h
      exact (m5 hr ht hb hn (fun S a b ok S'=>jX f S a b ok S') _ _ _ _ _ _ _ _ _ h1).1
  split at h
  · split at h <;> try (cases h;done)
    exact jX f _ _ _ _ _ h
  · simp only [Option.some.injEq,Prod.mk.injEq] at h;obtain ⟨_,rfl⟩:=h;exact hr S
end
theorem zL {S:St} {n:Int} {x:Vr} (h:dP S) (hx:x.names.length<100000000):dP (aJ n x S):=fun k y hy=>by
 rw [bE] at hy
 split at hy
 · cases hy;exact hx
 · exact h k y hy
theorem zK {lv:Int}:∀ (ks:List Int) (S:St),dP S→dP (c8 lv ks S)
 | [],S,h=>h
 | k::ks,S,h=>by
  rw [c8]
  split
  · rename_i w hw
    exact zK ks _ (zL h (h k w hw))
  · exact zK ks _ h
theorem Gq {f:Nat} {S S':St} {n:Int} {t:Ty} {ok:Bool} (h:cg f S n t=some (ok,S')) (hs:dP S):dP S':=by
 unfold cg at h
 split at h <;> try (cases h;done)
 rename_i v hv
 split at h <;> try (cases h;done)
 split at h <;> try (cases h;done)
 split at h
 · simp only [Option.some.injEq,Prod.mk.injEq] at h;obtain ⟨_,rfl⟩:=h;exact hs
 · simp only [Option.some.injEq,Prod.mk.injEq] at h;obtain ⟨_,rfl⟩:=h
   exact zL (zK _ _ hs) (hs n v hv)
theorem xx {t:Ty} (h:rok t):3 * t.names.length<100000000:=by
 obtain ⟨h1,h2⟩:=h
 obtain ⟨k,x,n,l,ks⟩:=t
 simp only [Ty.names_mk,Ty.kids_mk] at h2 ⊢
 have a1:l.length≤szS l:=by
  clear h1 h2
  induction l with
  | nil=>simp
  | cons s l ih=>simp only [szS,List.length_cons];omega
 have a2:2 * ks.length≤Ty.szL ks:=by
  clear h1 h2
  induction ks with
  | nil=>simp
  | cons s l ih =>
   have:1≤s.sz:=by cases s;rw [Ty.sz];omega
   simp only [Ty.szL,List.length_cons];omega
 rw [Ty.sz] at h1
 show 3 * l.length<_
 have:lim=100000000:=rfl
 omega
theorem HF {S:St} {a b:Ty} (ha:rok a) (hb:rok b) (hs:dP S):dP (eF S a b):=by
 refine zL hs ?_
 show (iN a b).length<_
 have h1:=xx ha
 have h2:=xx hb
 have h3:(iN a b).Nodup:=az (AJ a b)
 have h4:(iN a b).length≤(a.names++b.names).length:=tY h3 fun s hs=>by rw [List.mem_append];exact (eE a b s).1 hs
 rw [List.length_append] at h4
 omega
theorem DD {f:Nat} {S S':St} {a b:Ty} {ok:Bool} (h:bq f S a b=some (ok,S')) (hs:dP S):dP S' :=
 jX (P:=fun S S'=>dP S→dP S') (fun _ h=>h) (fun _ _ _ h1 h2 h=>h2 (h1 h)) (fun _ _ _ _ _ _ h hs=>Gq h hs) (fun S a b ha hb _ _ hs=>HF ha hb hs) f S a b ok S' h hs
def noN (S:St):Prop:=∀ n x,am n S=some x→x.row=false→x.names=[]
theorem tQ {S:St} {n:Int} {x:Vr} (h:noN S) (hx:x.row=false→x.names=[]):noN (aJ n x S):=fun k y hy=>by
 rw [bE] at hy
 split at hy
 · cases hy;exact hx
 · exact h k y hy
theorem ve {lv:Int}:∀ (ks:List Int) (S:St),noN S→noN (c8 lv ks S)
 | [],S,h=>h
 | k::ks,S,h=>by
  rw [c8]
  split
  · rename_i w hw
    exact ve ks _ (tQ h (h k w hw))
  · exact ve ks _ h
theorem D6 {f:Nat} {S S':St} {n:Int} {t:Ty} {ok:Bool} (h:cg f S n t=some (ok,S')) (hs:noN S):noN S':=by
 unfold cg at h
 split at h <;> try (cases h;done)
 rename_i v hv
 split at h <;> try (cases h;done)
 split at h <;> try (cases h;done)
 split at h
 · simp only [Option.some.injEq,Prod.mk.injEq] at h;obtain ⟨_,rfl⟩:=h;exact hs
 · simp only [Option.some.injEq,Prod.mk.injEq] at h;obtain ⟨_,rfl⟩:=h
   exact tQ (ve _ _ hs) (hs n v hv)
theorem Fe {f:Nat} {S S':St} {a b:Ty} {ok:Bool} (h:bq f S a b=some (ok,S')) (hs:noN S):noN S' :=
 jX (P:=fun S S'=>noN S→noN S') (fun _ h=>h) (fun _ _ _ h1 h2 h=>h2 (h1 h)) (fun _ _ _ _ _ _ h hs=>D6 h hs) (fun S a b ha hb _ _ hs=>tQ hs fun h=>by cases h) f S a b ok S' h hs
theorem Bl.noN {lv:Int} {S S':St} {h h':Int→Nat} {d:Nat} {σ σ':Int→Ty} {r t:Ty} (b:Bl lv S S' h h' d σ σ' r t) (hn:noN S):noN S':=fun n x hx hr=>by
 rcases b.nw n x hx with h|h
 · exact hn n x h hr
 · exact h.2.2 hr
theorem G9 {h:Int→Nat} {t:Ty} (hg:Gt t):∀ b,Ft h b t→whl t=true:=by
 induction hg with
 | leaf k x h4 h5 h6 =>
  intro b hf
  cases hf with
  | leaf _ _ _ hx _ _=>rw [eS,hx.2];rfl
  | var _ _ _=>exact absurd rfl h6
  | rcd _ _ _ _ _ _ _ _ _=>exact absurd rfl h5
 | list t h ih =>
  intro b hf
  cases hf with
  | list c _ ht=>rw [eS];simp [kS,ih _ ht,fmd]
 | var n hn=>intro b hf;rw [eS];simp [kS,fmd];omega
 | rcd n ns ks h0 hs hl hk ih =>
  intro b hf
  cases hf with
  | leaf _ _ _ _ h5 _=>exact absurd rfl h5
  | rcd c _ _ _ _ _ hm _ hk'=>rw [eS,pb h0 hs hm hl];exact mr fun k hk2=>ih k hk2 c (hk' k hk2)
theorem HC {t:Ty} (hg:Gt t):∀ o∈aF t,o.row=false→o.names=[]:=by
 induction hg with
 | leaf k x h4 h5 h6 =>
  intro o ho
  rcases bD ho with h|h|⟨t',ht,_⟩
  · exact absurd h.1 h6
  · exact absurd h.1 h5
  · simp at ht
 | list t h ih=>intro o ho;exact ih o (Gt.occ_list ho)
 | var n hn =>
  intro o ho _
  rcases bD ho with h|h|⟨t',ht,_⟩
  · rw [h.2]
  · exact absurd h.1 dq
  · simp at ht
 | rcd n ns ks h0 hs hl hk ih =>
  intro o ho hr
  rcases d7 (t:=.mk 5 [] n ns ks) rfl ho with ⟨hn,e⟩|⟨k,hk',ho⟩
  · rw [e] at hr;cases hr
  · exact ih k hk' o ho hr
theorem yL {S:St} {h:Int→Nat} {b:Nat} {t:Ty} (hs:tyS S t) (hf:Ft h b t) (hz:noN S):tyN S t:=⟨hs.1,G9 hs.1 b hf,fun o ho=>by
 obtain ⟨x,h1,h2,h3⟩:=hs.2 o ho
 refine ⟨x,h1,h2,?_⟩
 cases hr:o.row with
 | true=>exact h3 hr
 | false=>rw [HC hs.1 o ho hr];exact hz _ x h1 (h2.trans hr)⟩
theorem GV (S:St):oJ S≤S.length:=List.length_filter_le _ _
theorem Hp (S:St):phi S≤2 * S.length:=by unfold phi;have:=GV S;omega
theorem Inv.nil:Inv []:=by
 refine ⟨⟨fun n=>?_,fun _ _ h=>by simp [am] at h,fun _ _ h=>by simp [am] at h,fun _ _ h=>by simp [am] at h⟩,fun n=>idv false n,fun _=>0,⟨⟨fun _ _ h=>by simp [am] at h,fun _ _ h=>by simp [am] at h,fun _ _ h=>by simp [am] at h⟩,fun _ _ h=>by simp [am] at h,fun _ _ _ _ h=>by simp [am] at h,fun _ _ h=>by simp [am] at h,fun _ _ h=>by simp [am] at h⟩,fun _ _ h=>by simp [am] at h⟩
 simp [am];omega
theorem Sol.nil (σ:Int→Ty):Sol [] σ:=⟨fun _ _ h=>by simp [am] at h,fun _ _ h=>by simp [am] at h,fun _ _ h=>by simp [am] at h⟩
theorem StF.nil (h:Int→Nat):StF [] h:=fun _ _ h=>by simp [am] at h
theorem dP.nil:dP []:=fun _ _ h=>by simp [am] at h
theorem noN.nil:noN []:=fun _ _ h=>by simp [am] at h
end Go.Proofs.YtdikgijfekfaoaaGreatDoor
