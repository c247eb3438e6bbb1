/- A part of the proof: plain lemmas, rules and walks. No condition. -/
import Derived.Test.YtdikgijfekfaoaaGreatDoorP5
set_option linter.all false
namespace Go.Proofs.YtdikgijfekfaoaaGreatDoor
open Go.Proofs.YtdikgijfekfaoaaGreatDoor.Abs
set_option maxRecDepth 20000
set_option maxHeartbeats 4000000
theorem Ba {a b:Ty} {h:ac} (m o:Nat) (ho:h[o]?=some (.box [.map m])) (hm:h[m]?=some (mD (eI (a.names++b.names)))) (hf:((eI (a.names++b.names)).map Prod.fst).Nodup∧(∀ p∈eI (a.names++b.names),p.1.length≤1000000000)∧(eI (a.names++b.names)).length≤1000000000) :
 ar cx 113 [.fn (.func 138) [] [.ptr o 0]] h (fun v h'=>v=.imm ((iy a b).map .str)∧h'=h):=by
 have e:((eI (a.names++b.names)).map fun p=>(p.1,aa.bool p.2)).map (·.1)=(eI (a.names++b.names)).map Prod.fst:=by simp [Function.comp_def]
 have:=gR zW (h:=h) (m:=m) (o:=o) (kv:=(eI (a.names++b.names)).map fun p=>(p.1,aa.bool p.2)) ho (by rw [hm];simp [av,mN,Function.comp_def]) (by rw [e];exact hf.1)
  (fun p hp=>by obtain ⟨q,hq,rfl⟩:=List.mem_map.1 hp;exact hf.2.1 q hq) (by rw [List.length_map];exact hf.2.2)
 rw [e] at this
 exact this
noncomputable def JE:Code:=aB Tryz.f108
theorem cL {p:Prop} (h:p:=by simp [af.belO,hpS,Ty.v,Vr.v]):p:=h
theorem CP {p:Prop} (h:p:=by simp [aa.frz,bf,aa.ren,b4,dZ,af.ren,bg,cd,aV,aa.owns,Ty.v,lW]):p:=h
theorem fI {p:Prop} (h:p:=by simp [aK]):p:=h
theorem IB {p:Prop} (h:p:=by have e:=hUf aq;have e2:=hPf (by rw [e]);have e3:=hRf (by rw [e2]);rw [← e3.1];rfl):p:=h
theorem GQ (f:Nat) (p q:Ty) (lv:Int) (m m':St) (ok:Bool) (hp:p.sz<100000000) (hq:q.sz<100000000) (hb:gE f (bt f) m p q=some (ok,m'))
 (ihU:∀ (S:St) (x y:Ty) (okU:Bool) (SU:St),x.sz<100000000→y.sz<100000000→bt f S x y=some (okU,SU)→ar cx 66 [.ptr 0 0,Ty.v x,Ty.v y] (hpS lv S) (fun v h=>v=.bool okU∧h=hpS lv SU)):ar cx 108 [.ptr 0 0,Ty.v p,Ty.v q] (hpS lv m) (fun v h=>v=(.bool (ok))∧h=hpS lv m'):=by
 obtain ⟨RR,hRR,hRt,hRf⟩:=zm hb
 refine am (cx:=cx) 177 2 [(ResultVar.tmp 6)] Tryz.func108 rfl rfl rfl rfl rfl zq ?_
 show wpA cx 177 2 (at_ JE []) _ _ _
 apply qZ [(0,.ptr 0 0),(1,Ty.v p),(2,Ty.v q)] [bS lv,mS m]
 apply qW 3 [(0,.ptr 0 0),(4,.ptr 2 0),(5,.ptr 3 0)] [bS lv,mS m,p.bx,q.bx]
 apply qW 2 [(0,.ptr 0 0),(4,.ptr 2 0),(5,.ptr 3 0),(7,.map 4)] [bS lv,mS m,p.bx,q.bx,mD ([]:List (List UInt8×Bool))]
 apply ao
 apply qU 1 [(0,.ptr 0 0),(4,.ptr 2 0),(5,.ptr 3 0),(7,.map 4),(8,.bool true)]
 apply qB 0
 refine bB (σ:=(Nat×St×Ty×Ty×Dn×Bool)) (fun ⟨g,S,a,b,D,ag⟩=>[(0,.ptr 0 0),(4,.ptr 2 0),(5,.ptr 3 0),(7,.map 4),(8,.bool (ag))]) (fun ⟨g,S,a,b,D,ag⟩=>[bS lv,mS S,a.bx,b.bx,mD D]) (fun ⟨g,S,a,b,D,ag⟩=>a.sz<100000000∧b.sz<100000000∧(ag=true→dW f (bt f) g S a b D=some RR)∧(ag=false→RR=(true,S,a,b)∧rok a∧rok b)) (fun ⟨g,S,a,b,D,ag⟩=>g) (f,m,p,q,([]:Dn),true) kq (by exact ⟨hp,hq,fun _=>hRR,fun h=>by cases h⟩) ⟨⟨kq,kq,kq,kq,kq,trivial⟩,by simp [aQ,aa.bel],by simp,kq,by simp [af.belO]⟩ ?_
 rintro ⟨g,S,a,b,D,ag⟩ ⟨has,hbs,hO,hE⟩
 apply qZ [(0,.ptr 0 0),(4,.ptr 2 0),(5,.ptr 3 0),(7,.map 4),(8,.bool (ag))] [bS lv,mS S,a.bx,b.bx,mD D]
 apply ao
 apply qU 1 [(0,.ptr 0 0),(4,.ptr 2 0),(5,.ptr 3 0),(7,.map 4),(17,.bool (ag))]
 by_cases hb1:(ag)=true
 apply qt (hb1)
 apply qK
 apply qz [(0,.ptr 0 0),(4,.ptr 2 0),(5,.ptr 3 0),(7,.map 4)]
 obtain ⟨a1,b1,P,hha,hhb,hra,hrb,hP0,hg0,hPt,hPf⟩:=E4 (hO aq)
 have hz1:=bP a1;have hz2:=bP b1;have hz3:=cF b1;have hz4:=cF a1;have hsa1:a1.sz<100000000:=hra.1;have hla1:=hra.2;have hsb1:b1.sz<100000000:=hrb.1;have hlb1:=hrb.2
 apply qz [(0,.ptr 0 0),(4,.ptr 2 0),(5,.ptr 3 0),(7,.map 4)]
 apply qB 1
 apply ao
 refine cR cxM kq aJ (bq ?_)
 apply qu 2
 refine cC (args:=[.ptr 0 0,aG a]) (hs:=[bS lv,mS S]) (hs':=[bS lv,mS S]) (aO:=[a.bx,b.bx,mD D]) (L:=[0,1]) kq kq kq kq kq kq (p9 f a a1 (lv) S oq hha) cL cL rfl cL cL kq rfl rfl ?_
 apply qu 2
 refine cC (args:=[.ptr 0 0,aG b]) (hs:=[bS lv,mS S]) (hs':=[bS lv,mS S]) (aO:=[a.bx,b.bx,mD D]) (L:=[0,1]) kq kq kq kq kq kq (p9 f b b1 ((lv)) S oq hhb) cL cL rfl cL cL kq rfl rfl ?_
 apply qu 2
 refine cq kq ⟨kq,?_⟩
 apply ab
 apply qZ [(0,.ptr 0 0),(4,.ptr 2 0),(5,.ptr 3 0),(7,.map 4)] [bS lv,mS S,a1.bx,b1.bx,mD D]
 apply qU 1 [(0,.ptr 0 0),(4,.ptr 2 0),(5,.ptr 3 0),(7,.map 4),(8,.bool false)]
 apply qV 2
 refine qy (au (l:=a1.names) (enc:=aa.str) kq bi) ?_ ?_ ?_
 apply qR 1 [(0,.ptr 0 0),(4,.ptr 2 0),(5,.ptr 3 0),(7,.map 4),(8,.bool false),(25,.imm (a1.names.map aa.str)),(26,nI a1.names.length),(27,.int .i64 0)] [bS lv,mS S,a1.bx,b1.bx,mD D]
 apply qB 2
 refine bB (σ:=(Nat×St×Dn×Bool)) (fun ⟨k,T,E,ah⟩=>[(0,.ptr 0 0),(4,.ptr 2 0),(5,.ptr 3 0),(7,.map 4),(8,.bool (ah)),(25,.imm (a1.names.map aa.str)),(26,.int .i64 ((a1.names.length:Nat):Int)),(27,.int .i64 ((k:Nat):Int))]) (fun ⟨k,T,E,ah⟩=>[bS lv,mS T,a1.bx,b1.bx,mD E]) (fun ⟨k,T,E,ah⟩=>k≤a1.names.length∧ci (bt f) b1 (a1.names.drop k) (a1.kids.drop k) T E ah=some P) (fun ⟨k,T,E,ah⟩=>a1.names.length - k) (0,S,D,false) kq (by exact ⟨Nat.zero_le _,hP0⟩) ⟨⟨kq,kq,kq,kq,kq,kq,kq,kq,trivial⟩,by simp [aQ,aa.bel],by simp,kq,by simp [af.belO]⟩ ?_
 rintro ⟨k,T,E,ah⟩ ⟨hk,hP⟩
 have hix:=EH b1.names (a1.names.getD k [])
 apply qZ [(0,.ptr 0 0),(4,.ptr 2 0),(5,.ptr 3 0),(7,.map 4),(8,.bool (ah)),(25,.imm (a1.names.map aa.str)),(26,nI a1.names.length),(27,nI k)] [bS lv,mS T,a1.bx,b1.bx,mD E]
 apply qU 1 [(0,.ptr 0 0),(4,.ptr 2 0),(5,.ptr 3 0),(7,.map 4),(8,.bool (ah)),(25,.imm (a1.names.map aa.str)),(26,nI a1.names.length),(27,nI k),(28,.bool (decide (((k:Nat):Int)<((a1.names.length:Nat):Int))))]
 apply ao
 by_cases hb2:((k:Nat):Int)<((a1.names.length:Nat):Int)
 apply qt (decide_eq_true hb2)
 apply qK
 apply qz [(0,.ptr 0 0),(4,.ptr 2 0),(5,.ptr 3 0),(7,.map 4),(8,.bool (ah)),(25,.imm (a1.names.map aa.str)),(26,nI a1.names.length),(27,nI k)]
 apply ao
 apply qB 3
 apply qV 1
 refine qy (aA (k:=.i64) (l:=a1.names) (enc:=aa.str) (i:=((k:Nat):Int)) [] kq bi ty9 (fun _=>rfl) oq oq) ?_ ?_ ?_
 apply qR 3 [(0,.ptr 0 0),(4,.ptr 2 0),(5,.ptr 3 0),(7,.map 4),(8,.bool (ah)),(9,nI k),(10,.str (a1.names.getD k [])),(25,.imm (a1.names.map aa.str)),(26,nI a1.names.length),(27,nI k)] [bS lv,mS T,a1.bx,b1.bx,mD E]
 apply qV 3
 refine bR (args:=[.imm (b1.names.map aa.str),.str (a1.names.getD k [])]) kq kq kq kq (me b1.names (a1.names.getD k []) oq) (by simp [Ty.v,bo,Occ.v]) (by simp [Ty.v]) (by simp [Ty.v,bh]) ?_
 apply qR 1 [(0,.ptr 0 0),(4,.ptr 2 0),(5,.ptr 3 0),(7,.map 4),(8,.bool (ah)),(9,nI k),(10,.str (a1.names.getD k [])),(11,.int .i64 (cG b1.names (a1.names.getD k []))),(25,.imm (a1.names.map aa.str)),(26,nI a1.names.length),(27,nI k)] [bS lv,mS T,a1.bx,b1.bx,mD E]
 apply ao
 apply qV 3
 by_cases hb3:(cG b1.names (a1.names.getD k []))<0
 apply qm [37,38] (decide_eq_true hb3)
 apply qR 4 [(0,.ptr 0 0),(4,.ptr 2 0),(5,.ptr 3 0),(7,.map 4),(8,.bool (ah)),(9,nI k),(10,.str (a1.names.getD k [])),(11,.int .i64 (cG b1.names (a1.names.getD k []))),(25,.imm (a1.names.map aa.str)),(26,nI a1.names.length),(27,nI k),(39,.tup []),(40,.tup []),(41,.tup []),(42,.bool true)] [bS lv,mS T,a1.bx,b1.bx,mD E]
 refine cw kq kq ?_
 refine bn 3 kq kq ?_
 apply ae
 apply ay
 apply ab
 apply qz [(0,.ptr 0 0),(4,.ptr 2 0),(5,.ptr 3 0),(7,.map 4),(8,.bool (ah)),(25,.imm (a1.names.map aa.str)),(26,nI a1.names.length),(27,nI k),(39,.tup []),(40,.tup []),(41,.tup [])]
 apply qo
 refine qy (aN (a:=((k:Nat):Int)) (b:=1) kq oq oq) ?_ ?_ ?_
 apply qr 1
 apply qe
 refine ab ⟨(k+1,T,E,(ah)),?_,?_,⟨⟨kq,kq,kq,kq,kq,kq,kq,kq,trivial⟩,by simp [aQ,aa.bel],by simp,kq,by simp [af.belO]⟩⟩
 · try dsimp only
   omega
 rotate_left
 iterate 8 kernel_rfl
 apply qm [37,38] (decide_eq_false hb3)
 apply qr 2
 rcases hm4:ai (a1.names.getD k []) E with _|x4
 refine qy (eO (ok:=false) (o:=4) (ek:=aa.str) (ev:=aa.bool) (l:=E) (k:=(a1.names.getD k [])) qF hm4 kq ws ty9 rfl ty4 kq) ?_ ?_ ?_
 apply qR 1 [(0,.ptr 0 0),(4,.ptr 2 0),(5,.ptr 3 0),(7,.map 4),(8,.bool (ah)),(9,nI k),(10,.str (a1.names.getD k [])),(11,.int .i64 (cG b1.names (a1.names.getD k []))),(25,.imm (a1.names.map aa.str)),(26,nI a1.names.length),(27,nI k),(39,.map 4),(40,.str (a1.names.getD k [])),(41,.bool false),(42,.bool false)] [bS lv,mS T,a1.bx,b1.bx,mD E]
 refine d5 kq kq ?_
 apply qK
 apply qz [(0,.ptr 0 0),(4,.ptr 2 0),(5,.ptr 3 0),(7,.map 4),(9,nI k),(10,.str (a1.names.getD k [])),(11,.int .i64 (cG b1.names (a1.names.getD k []))),(25,.imm (a1.names.map aa.str)),(26,nI a1.names.length),(27,nI k),(39,.map 4),(40,.str (a1.names.getD k [])),(41,.bool false)]
 apply qV 2
 refine qY (dC (o:=4) (ek:=aa.str) (ev:=aa.bool) (l:=E) (k:=(a1.names.getD k [])) (x:=true) qF kq ws ty9 rfl kq kq) ?_ ?_ ?_
 apply qR 1 [(0,.ptr 0 0),(4,.ptr 2 0),(5,.ptr 3 0),(7,.map 4),(8,.bool true),(9,nI k),(11,.int .i64 (cG b1.names (a1.names.getD k []))),(25,.imm (a1.names.map aa.str)),(26,nI a1.names.length),(27,nI k),(39,.map 4),(40,.str (a1.names.getD k [])),(41,.bool false)] [bS lv,mS T,a1.bx,b1.bx,mD (aI (a1.names.getD k []) true E)]
 obtain ⟨okU,SU,hU,hUt,hUf⟩:=tu hP oq hra.2 oq (II aq)
 apply qz [(0,.ptr 0 0),(4,.ptr 2 0),(5,.ptr 3 0),(7,.map 4),(8,.bool true),(9,nI k),(11,.int .i64 (cG b1.names (a1.names.getD k []))),(25,.imm (a1.names.map aa.str)),(26,nI a1.names.length),(27,nI k),(39,.map 4),(40,.str (a1.names.getD k [])),(41,.bool false)]
 apply ao
 refine cR cxM kq aJ (bq ?_)
 apply qu 4
 refine qd ((aA (k:=.i64) (l:=a1.kids) (enc:=Ty.enc) (i:=((k:Nat):Int)) Ty.zero kq ba bV bk oq oq).trans (congrArg (fun cs=>some (aa.pimm cs 0,_)) (aU (a1.kids.getD k Ty.zero)))) ?_ ?_ ?_ ?_
 apply qu 4
 refine qd ((aA (k:=.i64) (l:=b1.kids) (enc:=Ty.enc) (i:=(cG b1.names (a1.names.getD k []))) Ty.zero kq ba bV bk oq oq).trans (congrArg (fun cs=>some (aa.pimm cs 0,_)) (aU (b1.kids.getD (((cG b1.names (a1.names.getD k []))).toNat) Ty.zero)))) ?_ ?_ ?_ ?_
 apply qu 1
 refine cC (args:=[.ptr 0 0,aG (a1.kids.getD k Ty.zero),aG (b1.kids.getD (((cG b1.names (a1.names.getD k []))).toNat) Ty.zero)]) (hs:=[bS lv,mS T]) (hs':=[bS lv,mS SU]) (aO:=[a1.bx,b1.bx,mD (aI (a1.names.getD k []) true E)]) (L:=[0,1]) kq kq kq kq kq kq (ihU T (a1.kids.getD k Ty.zero) (b1.kids.getD (((cG b1.names (a1.names.getD k []))).toNat) Ty.zero) okU SU (Nat.lt_trans (cu a1 _ oq) hsa1) (Nat.lt_trans (cu b1 _ oq) hsb1) (hU)) cL cL rfl cL cL kq rfl rfl ?_
 apply qu 1
 refine cq kq ⟨kq,?_⟩
 apply ab
 apply qZ [(0,.ptr 0 0),(4,.ptr 2 0),(5,.ptr 3 0),(7,.map 4),(8,.bool true),(25,.imm (a1.names.map aa.str)),(26,nI a1.names.length),(27,nI k),(39,.map 4),(40,.str (a1.names.getD k [])),(41,.bool false),(57,.bool (!(okU)))] [bS lv,mS SU,a1.bx,b1.bx,mD (aI (a1.names.getD k []) true E)]
 by_cases hb5:(okU)=true
 refine qf (x:=(!(okU))) (congrArg not (hb5)) ?_ ?_
 apply qk
 apply aj
 apply ab
 apply qz [(0,.ptr 0 0),(4,.ptr 2 0),(5,.ptr 3 0),(7,.map 4),(8,.bool true),(25,.imm (a1.names.map aa.str)),(26,nI a1.names.length),(27,nI k),(39,.map 4),(40,.str (a1.names.getD k [])),(41,.bool false)]
 apply qo
 refine qy (aN (a:=((k:Nat):Int)) (b:=1) kq oq oq) ?_ ?_ ?_
 apply qr 1
 apply qe
 refine ab ⟨(k+1,SU,(aI (a1.names.getD k []) true E),true),?_,?_,⟨⟨kq,kq,kq,kq,kq,kq,kq,kq,trivial⟩,by simp [aQ,aa.bel],by simp,kq,by simp [af.belO]⟩⟩
 · try dsimp only
   omega
 rotate_left
 iterate 8 kernel_rfl
 refine qt (x:=(!(okU))) (congrArg not (Bool.eq_false_iff.2 hb5)) ?_ ?_
 apply qU 1 [(6,.bool false)]
 refine a8 kq ?_
 apply iR
 apply aR
 apply aR
 apply iR
 apply iR
 apply aR
 apply iR
 apply aR
 refine aM (l:=[.bool false]) iq kq IB fI fI ?_ ?_
 refine Eq.trans (b:=[bS lv,mS SU]) kq ?_
 · have e:=hUf aq;have e2:=hPf (by rw [e]);have e3:=hRf (by rw [e2]);have e4:SU=m':=(by have:=e3.2;rw [e2,e] at this;exact this)
   rw [← e4];rfl
 · simp [af.belO,hpS,Ty.v,Vr.v]
 iterate 24 kernel_rfl
 refine qy (cg (ok:=false) (o:=4) (ek:=aa.str) (ev:=aa.bool) (l:=E) (k:=(a1.names.getD k [])) (x:=x4) qF hm4 kq ws ty9 rfl ty4 kq) ?_ ?_ ?_
 apply qR 1 [(0,.ptr 0 0),(4,.ptr 2 0),(5,.ptr 3 0),(7,.map 4),(8,.bool (ah)),(9,nI k),(10,.str (a1.names.getD k [])),(11,.int .i64 (cG b1.names (a1.names.getD k []))),(25,.imm (a1.names.map aa.str)),(26,nI a1.names.length),(27,nI k),(39,.map 4),(40,.str (a1.names.getD k [])),(41,.bool (x4)),(42,.bool (x4))] [bS lv,mS T,a1.bx,b1.bx,mD E]
 by_cases hb6:(x4)=true
 apply qt (hb6)
 refine bn 3 kq kq ?_
 apply ae
 apply ay
 apply ab
 apply qz [(0,.ptr 0 0),(4,.ptr 2 0),(5,.ptr 3 0),(7,.map 4),(8,.bool (ah)),(25,.imm (a1.names.map aa.str)),(26,nI a1.names.length),(27,nI k),(39,.map 4),(40,.str (a1.names.getD k [])),(41,.bool (x4))]
 apply qo
 refine qy (aN (a:=((k:Nat):Int)) (b:=1) kq oq oq) ?_ ?_ ?_
 apply qr 1
 apply qe
 refine ab ⟨(k+1,T,E,(ah)),?_,?_,⟨⟨kq,kq,kq,kq,kq,kq,kq,kq,trivial⟩,by simp [aQ,aa.bel],by simp,kq,by simp [af.belO]⟩⟩
 · try dsimp only
   omega
 rotate_left
 iterate 7 kernel_rfl
 apply qf (Bool.eq_false_iff.2 hb6)
 apply qK
 apply qz [(0,.ptr 0 0),(4,.ptr 2 0),(5,.ptr 3 0),(7,.map 4),(9,nI k),(10,.str (a1.names.getD k [])),(11,.int .i64 (cG b1.names (a1.names.getD k []))),(25,.imm (a1.names.map aa.str)),(26,nI a1.names.length),(27,nI k),(39,.map 4),(40,.str (a1.names.getD k [])),(41,.bool (x4))]
 apply qV 2
 refine qY (dC (o:=4) (ek:=aa.str) (ev:=aa.bool) (l:=E) (k:=(a1.names.getD k [])) (x:=true) qF kq ws ty9 rfl kq kq) ?_ ?_ ?_
 apply qR 1 [(0,.ptr 0 0),(4,.ptr 2 0),(5,.ptr 3 0),(7,.map 4),(8,.bool true),(9,nI k),(11,.int .i64 (cG b1.names (a1.names.getD k []))),(25,.imm (a1.names.map aa.str)),(26,nI a1.names.length),(27,nI k),(39,.map 4),(40,.str (a1.names.getD k [])),(41,.bool (x4))] [bS lv,mS T,a1.bx,b1.bx,mD (aI (a1.names.getD k []) true E)]
 obtain ⟨okU,SU,hU,hUt,hUf⟩:=tu hP oq hra.2 oq (HW aq aq)
 apply qz [(0,.ptr 0 0),(4,.ptr 2 0),(5,.ptr 3 0),(7,.map 4),(8,.bool true),(9,nI k),(11,.int .i64 (cG b1.names (a1.names.getD k []))),(25,.imm (a1.names.map aa.str)),(26,nI a1.names.length),(27,nI k),(39,.map 4),(40,.str (a1.names.getD k [])),(41,.bool (x4))]
 apply ao
 refine cR cxM kq aJ (bq ?_)
 apply qu 4
 refine qd ((aA (k:=.i64) (l:=a1.kids) (enc:=Ty.enc) (i:=((k:Nat):Int)) Ty.zero kq ba bV bk oq oq).trans (congrArg (fun cs=>some (aa.pimm cs 0,_)) (aU (a1.kids.getD k Ty.zero)))) ?_ ?_ ?_ ?_
 apply qu 4
 refine qd ((aA (k:=.i64) (l:=b1.kids) (enc:=Ty.enc) (i:=(cG b1.names (a1.names.getD k []))) Ty.zero kq ba bV bk oq oq).trans (congrArg (fun cs=>some (aa.pimm cs 0,_)) (aU (b1.kids.getD (((cG b1.names (a1.names.getD k []))).toNat) Ty.zero)))) ?_ ?_ ?_ ?_
 apply qu 1
 refine cC (args:=[.ptr 0 0,aG (a1.kids.getD k Ty.zero),aG (b1.kids.getD (((cG b1.names (a1.names.getD k []))).toNat) Ty.zero)]) (hs:=[bS lv,mS T]) (hs':=[bS lv,mS SU]) (aO:=[a1.bx,b1.bx,mD (aI (a1.names.getD k []) true E)]) (L:=[0,1]) kq kq kq kq kq kq (ihU T (a1.kids.getD k Ty.zero) (b1.kids.getD (((cG b1.names (a1.names.getD k []))).toNat) Ty.zero) okU SU (Nat.lt_trans (cu a1 _ oq) hsa1) (Nat.lt_trans (cu b1 _ oq) hsb1) (hU)) cL cL rfl cL cL kq rfl rfl ?_
 apply qu 1
 refine cq kq ⟨kq,?_⟩
 apply ab
 apply qZ [(0,.ptr 0 0),(4,.ptr 2 0),(5,.ptr 3 0),(7,.map 4),(8,.bool true),(25,.imm (a1.names.map aa.str)),(26,nI a1.names.length),(27,nI k),(39,.map 4),(40,.str (a1.names.getD k [])),(41,.bool (x4)),(57,.bool (!(okU)))] [bS lv,mS SU,a1.bx,b1.bx,mD (aI (a1.names.getD k []) true E)]
 by_cases hb7:(okU)=true
 refine qf (x:=(!(okU))) (congrArg not (hb7)) ?_ ?_
 apply qk
 apply aj
 apply ab
 apply qz [(0,.ptr 0 0),(4,.ptr 2 0),(5,.ptr 3 0),(7,.map 4),(8,.bool true),(25,.imm (a1.names.map aa.str)),(26,nI a1.names.length),(27,nI k),(39,.map 4),(40,.str (a1.names.getD k [])),(41,.bool (x4))]
 apply qo
 refine qy (aN (a:=((k:Nat):Int)) (b:=1) kq oq oq) ?_ ?_ ?_
 apply qr 1
 apply qe
 refine ab ⟨(k+1,SU,(aI (a1.names.getD k []) true E),true),?_,?_,⟨⟨kq,kq,kq,kq,kq,kq,kq,kq,trivial⟩,by simp [aQ,aa.bel],by simp,kq,by simp [af.belO]⟩⟩
 · try dsimp only
   omega
 rotate_left
 iterate 8 kernel_rfl
 refine qt (x:=(!(okU))) (congrArg not (Bool.eq_false_iff.2 hb7)) ?_ ?_
 apply qU 1 [(6,.bool false)]
 refine a8 kq ?_
 apply iR
 apply aR
 apply aR
 apply iR
 apply iR
 apply aR
 apply iR
 apply aR
 refine aM (l:=[.bool false]) iq kq IB fI fI ?_ ?_
 refine Eq.trans (b:=[bS lv,mS SU]) kq ?_
 · have e:=hUf aq;have e2:=hPf (by rw [e]);have e3:=hRf (by rw [e2]);have e4:SU=m':=(by have:=e3.2;rw [e2,e] at this;exact this)
   rw [← e4];rfl
 · simp [af.belO,hpS,Ty.v,Vr.v]
 iterate 41 kernel_rfl
 apply qf (decide_eq_false hb2)
 refine bn 2 kq kq ?_
 apply ae
 apply ae
 apply ay
 apply aj
 refine ab ⟨(g - 1,T,a1,b1,E,(ah)),?_,?_,⟨⟨kq,kq,kq,kq,kq,trivial⟩,by simp [aQ,aa.bel],by simp,kq,by simp [af.belO]⟩⟩
 · try dsimp only
   exact hg0
 · try dsimp only
   obtain rfl:=C6 hP oq
   exact ⟨hra.1,hrb.1,(hPt _ rfl rfl).1,fun e=>⟨(hPt _ rfl rfl).2 e,hra,hrb⟩⟩
 iterate 22 kernel_rfl
 apply qf (Bool.eq_false_iff.2 hb1)
 refine bn 0 kq kq ?_
 apply ae
 apply ae
 apply ay
 apply ab
 apply qz [(0,.ptr 0 0),(4,.ptr 2 0),(5,.ptr 3 0)]
 obtain ⟨hRe,hra,hrb⟩:=hE (Bool.eq_false_iff.2 aq)
 have hfin:fB f S a b=some (ok,m'):=by have:=hRt (by rw [hRe]);rw [hRe] at this;exact this
 obtain ⟨hg1,hg2,f1,f2,f3⟩:=In hfin
 have hra2:=hra.2;have hrb2:=hrb.2;have hz5:=bP (oT a b b.n);have hz6:=bP (oT b a a.n);have hg5:=hg1 b.n;have hg6:=hg2 a.n
 apply qz [(0,.ptr 0 0),(4,.ptr 2 0),(5,.ptr 3 0)]
 apply ao
 refine cR cxM kq aJ (bq ?_)
 apply qu 4
 refine d4 (args:=[aG a,aG b,.int .i64 (b.n)]) kq kq kq kq kq (tb a b (b.n) oq oq oq) (by intro _;simp [Ty.v,bo,Occ.v]) (by simp [Ty.v]) (by simp [Ty.v,bh]) ?_
 apply qu 4
 refine d4 (args:=[aG b,aG a,.int .i64 (a.n)]) kq kq kq kq kq (tb b a (a.n) oq oq oq) (by intro _;simp [Ty.v,bo,Occ.v]) (by simp [Ty.v]) (by simp [Ty.v,bh]) ?_
 apply qu 4
 refine cq kq ⟨kq,?_⟩
 apply ab
 apply qZ [(0,.ptr 0 0),(4,.ptr 2 0),(5,.ptr 3 0),(12,.ptr 5 0),(13,.ptr 6 0)] [bS lv,mS S,a.bx,b.bx,mD D,(oT a b (b.n)).bx,(oT b a (a.n)).bx]
 apply ao
 apply qB 4
 apply qU 6 [(0,.ptr 0 0),(4,.ptr 2 0),(5,.ptr 3 0),(12,.ptr 5 0),(13,.ptr 6 0),(69,.bool ((a.n)==(b.n)))]
 by_cases hb8:(a.n)=(b.n)
 apply qt (beq_iff_eq.2 hb8)
 apply qV 2
 refine qy (au (l:=(oT a b (b.n)).names) (enc:=aa.str) kq bi) ?_ ?_ ?_
 apply qr 2
 refine qy (au (l:=(oT b a (a.n)).names) (enc:=aa.str) kq bi) ?_ ?_ ?_
 refine qy (aN (a:=(((oT a b (b.n)).names.length:Nat):Int)) (b:=(((oT b a (a.n)).names.length:Nat):Int)) kq oq oq) ?_ ?_ ?_
 apply qR 2 [(6,.bool (((((oT a b (b.n)).names.length+(oT b a (a.n)).names.length):Nat):Int)==0))] [bS lv,mS S,a.bx,b.bx,mD D,(oT a b (b.n)).bx,(oT b a (a.n)).bx]
 refine a8 kq ?_
 apply iR
 apply aR
 refine aM (l:=[.bool (((((oT a b (b.n)).names.length+(oT b a (a.n)).names.length):Nat):Int)==0)]) iq kq (by have e:=f1 aq;rw [← e.1];refine congrArg aa.bool ?_;rw [Bool.eq_iff_iff,beq_iff_eq,decide_eq_true_eq];omega) fI fI ?_ ?_
 refine Eq.trans (b:=[bS lv,mS S]) kq ?_
 · have e:=f1 aq
   rw [← e.2];rfl
 · simp [af.belO,hpS,Ty.v,Vr.v]
 iterate 10 kernel_rfl
 apply qf (beq_eq_false_iff_ne.2 hb8)
 apply qV 2
 refine qy (au (l:=(oT a b (b.n)).names) (enc:=aa.str) kq bi) ?_ ?_ ?_
 apply qr 2
 by_cases hb9:(((oT a b (b.n)).names.length:Nat):Int) > 0
 apply qm [87,88] (decide_eq_true hb9)
 apply qr 5
 by_cases hb10:(b.n)=0
 apply qm [91,92,93] (beq_iff_eq.2 hb10)
 apply qR 11 [(0,.ptr 0 0),(4,.ptr 2 0),(5,.ptr 3 0),(12,.ptr 5 0),(13,.ptr 6 0),(83,.bool true)] [bS lv,mS S,a.bx,b.bx,mD D,(oT a b (b.n)).bx,(oT b a (a.n)).bx]
 refine cw kq kq ?_
 apply qU 1 [(6,.bool false)]
 refine a8 kq ?_
 apply iR
 apply aR
 refine aM (l:=[.bool false]) iq kq (by have e:=f2 aq oq;rw [← e.1];rfl) fI fI ?_ ?_
 refine Eq.trans (b:=[bS lv,mS S]) kq ?_
 · have e:=f2 aq oq
   rw [← e.2];rfl
 · simp [af.belO,hpS,Ty.v,Vr.v]
 iterate 3 kernel_rfl
 apply qm [91,92,93] (beq_eq_false_iff_ne.2 hb10)
 apply qr 2
 refine qy (au (l:=(oT b a (a.n)).names) (enc:=aa.str) kq bi) ?_ ?_ ?_
 apply qr 2
 by_cases hb11:(((oT b a (a.n)).names.length:Nat):Int) > 0
 apply qm [97,98] (decide_eq_true hb11)
 apply qR 6 [(0,.ptr 0 0),(4,.ptr 2 0),(5,.ptr 3 0),(12,.ptr 5 0),(13,.ptr 6 0),(83,.bool ((a.n)==0))] [bS lv,mS S,a.bx,b.bx,mD D,(oT a b (b.n)).bx,(oT b a (a.n)).bx]
 by_cases hb12:(a.n)=0
 apply qt (beq_iff_eq.2 hb12)
 apply qU 1 [(6,.bool false)]
 refine a8 kq ?_
 apply iR
 apply aR
 refine aM (l:=[.bool false]) iq kq (by have e:=f2 aq oq;rw [← e.1];rfl) fI fI ?_ ?_
 refine Eq.trans (b:=[bS lv,mS S]) kq ?_
 · have e:=f2 aq oq
   rw [← e.2];rfl
 · simp [af.belO,hpS,Ty.v,Vr.v]
 iterate 2 kernel_rfl
 apply qf (beq_eq_false_iff_ne.2 hb12)
 apply qV 2
 refine qy (au (l:=(oT a b (b.n)).names) (enc:=aa.str) kq bi) ?_ ?_ ?_
 apply qr 2
 by_cases hb13:(((oT a b (b.n)).names.length:Nat):Int)=0
 · exfalso;omega
 apply qm [108,109] (beq_eq_false_iff_ne.2 hb13)
 apply qR 5 [(0,.ptr 0 0),(4,.ptr 2 0),(5,.ptr 3 0),(12,.ptr 5 0),(13,.ptr 6 0),(104,.bool false)] [bS lv,mS S,a.bx,b.bx,mD D,(oT a b (b.n)).bx,(oT b a (a.n)).bx]
 refine d5 kq kq ?_
 apply qV 2
 refine qy (au (l:=(oT b a (a.n)).names) (enc:=aa.str) kq bi) ?_ ?_ ?_
 apply qR 2 [(0,.ptr 0 0),(4,.ptr 2 0),(5,.ptr 3 0),(12,.ptr 5 0),(13,.ptr 6 0),(122,.bool ((((oT b a (a.n)).names.length:Nat):Int)==0))] [bS lv,mS S,a.bx,b.bx,mD D,(oT a b (b.n)).bx,(oT b a (a.n)).bx]
 by_cases hb14:(((oT b a (a.n)).names.length:Nat):Int)=0
 · exfalso;omega
 apply qf (beq_eq_false_iff_ne.2 hb14)
 apply qk
 apply aj
 apply ab
 apply qz [(0,.ptr 0 0),(4,.ptr 2 0),(5,.ptr 3 0),(12,.ptr 5 0),(13,.ptr 6 0)]
 obtain ⟨⟨hsl,hna,hnb⟩,ok1,S2,hb1,hb2,hb3⟩:=((f3 aq oq).2 oq).2 oq
 apply qz [(0,.ptr 0 0),(4,.ptr 2 0),(5,.ptr 3 0),(12,.ptr 5 0),(13,.ptr 6 0)]
 apply qV 2
 refine nj (args:=[aG a,aG b]) (args':=[Ty.v a,Ty.v b]) (V':=.map 7) (F:=[bS lv,mS S,a.bx,b.bx,mD D,(oT a b (b.n)).bx,(oT b a (a.n)).bx]) (G':=[mD (eI (a.names++b.names))]) kq kq kq kq (Cj a b has hbs) [bS lv,mS S,a.bx,b.bx,mD D,(oT a b (b.n)).bx,(oT b a (a.n)).bx] kq CP CP CP CP CP ?_
 refine dD (args:=[.map 7]) (v:=.fn (.func 138) [] [.ptr 8 0]) (h':=[bS lv,mS S,a.bx,b.bx,mD D,(oT a b (b.n)).bx,(oT b a (a.n)).bx,mD (eI (a.names++b.names)),.box [.map 7]]) [bS lv,mS S,a.bx,b.bx,mD D,(oT a b (b.n)).bx,(oT b a (a.n)).bx,mD (eI (a.names++b.names))] kq kq kq kq kq (kC [7] (Bw (eI (a.names++b.names))) rfl dq zq (by simp [af.belO]) (by simp [dZ,af.ren,bg,lW]) rfl (by simp [b4,aa.ren,bg]) (by simp [aa.ren,b4,bg]) (by simp [dX,cQ,dZ,af.ren,b4,aa.ren,bg,lW])) ?_
 refine dD (args:=[.fn (.func 138) [] [.ptr 8 0]]) (v:=.imm ((iy a b).map aa.str)) (h':=[bS lv,mS S,a.bx,b.bx,mD D,(oT a b (b.n)).bx,(oT b a (a.n)).bx,mD (eI (a.names++b.names)),.box [.map 7]]) [bS lv,mS S,a.bx,b.bx,mD D,(oT a b (b.n)).bx,(oT b a (a.n)).bx,mD (eI (a.names++b.names)),.box [.map 7]] kq kq kq kq kq (Ba 7 8 rfl rfl (DR a b has hbs)) ?_
 apply qR 1 [(0,.ptr 0 0),(4,.ptr 2 0),(5,.ptr 3 0),(12,.ptr 5 0),(13,.ptr 6 0),(14,.imm ((iy a b).map aa.str))] [bS lv,mS S,a.bx,b.bx,mD D,(oT a b (b.n)).bx,(oT b a (a.n)).bx,mD (eI (a.names++b.names)),.box [.map 7]]
 apply ao
 refine cR cxM kq aJ (bq ?_)
 apply qu 7
 rcases hm15:ai (a.n) S with _|x15
 · exact absurd hm15 (aq)
 refine qd (cg (ok:=false) (o:=1) (ek:=iE) (ev:=Vr.v) (l:=S) (k:=(a.n)) (x:=x15) df hm15 kq ip ty3 rfl jw kq) ?_ ?_ ?_ ?_
 apply qu 7
 rcases hm16:ai (b.n) S with _|x16
 · exact absurd hm16 (aq)
 refine qd (cg (ok:=false) (o:=1) (ek:=iE) (ev:=Vr.v) (l:=S) (k:=(b.n)) (x:=x16) df hm16 kq ip ty3 rfl jw kq) ?_ ?_ ?_ ?_
 apply qu 1
 refine qd (Dt (a:=(x15.lv)) (b:=(x16.lv)) (ats:=[3,3]) kq) ?_ ?_ ?_ ?_
 apply qu 2
 refine cC (args:=[.ptr 0 0,.agg [.bool true,.int .i64 (min (x15.lv) (x16.lv)),.bool false,.int .i64 0,.str [],.int .i64 0,.full [],.full [],.imm ((iy a b).map aa.str)]]) (hs:=[bS lv,mS S]) (hs':=[bS lv,mS (aI ((((S.length+1):Nat):Int)) ⟨true,(min (x15.lv) (x16.lv)),false,Ty.zero,(iy a b)⟩ S)]) (aO:=[a.bx,b.bx,mD D,(oT a b (b.n)).bx,(oT b a (a.n)).bx,mD (eI (a.names++b.names)),.box [.map 7]]) (L:=[0,1]) kq kq kq kq kq kq (xd (lv) (min (x15.lv) (x16.lv)) (iy a b) S oq) cL cL rfl cL cL kq rfl rfl ?_
 apply qu 1
 refine cq kq ⟨kq,?_⟩
 apply ab
 refine qZ [(0,.ptr 0 0),(4,.ptr 2 0),(5,.ptr 3 0),(12,.ptr 5 0),(13,.ptr 6 0),(15,nI (S.length+1))] [bS lv,mS (aI ((((S.length+1):Nat):Int)) ⟨true,(min (x15.lv) (x16.lv)),false,Ty.zero,(iy a b)⟩ S),a.bx,b.bx,mD D,(oT a b (b.n)).bx,(oT b a (a.n)).bx,mD (eI (a.names++b.names)),.box [.map 7]] ?_ ?_
 have hnv:dQ S a b=(aI ((((S.length+1):Nat):Int)) ⟨true,(min (x15.lv) (x16.lv)),false,Ty.zero,(iy a b)⟩ S):=by unfold dQ;rw [Dv (S:=S) (n:=a.n) aq,Dv (S:=S) (n:=b.n) aq]
 rw [hnv] at hb1
 apply qz [(0,.ptr 0 0),(4,.ptr 2 0),(5,.ptr 3 0),(12,.ptr 5 0),(13,.ptr 6 0),(15,nI (S.length+1))]
 refine qW 6 [(0,.ptr 0 0),(4,.ptr 2 0),(5,.ptr 3 0),(12,.ptr 5 0),(13,.ptr 6 0)] [bS lv,mS (aI ((((S.length+1):Nat):Int)) ⟨true,(min (x15.lv) (x16.lv)),false,Ty.zero,(iy a b)⟩ S),a.bx,b.bx,mD D,.box [.int .i64 ((oT a b (b.n)).kind),.str (oT a b (b.n)).name,nI (S.length+1),.imm ((oT a b (b.n)).names.map aa.str),.imm ((oT a b (b.n)).kids.map Ty.enc)],.box [.int .i64 ((oT b a (a.n)).kind),.str (oT b a (a.n)).name,nI (S.length+1),.imm ((oT b a (a.n)).names.map aa.str),.imm ((oT b a (a.n)).kids.map Ty.enc)],mD (eI (a.names++b.names)),.box [.map 7]] ?_ ?_
 apply qV 4
 refine aT (args:=[.ptr 0 0,.int .i64 (a.n),.agg [.int .i64 ((oT b a (a.n)).kind),.str (oT b a (a.n)).name,.int .i64 (((S.length+1):Nat):Int),.imm ((oT b a (a.n)).names.map aa.str),.imm ((oT b a (a.n)).kids.map Ty.enc)]]) (hs:=[bS lv,mS (aI ((((S.length+1):Nat):Int)) ⟨true,(min (x15.lv) (x16.lv)),false,Ty.zero,(iy a b)⟩ S)]) (hs':=[bS lv,mS S2]) (aO:=[a.bx,b.bx,mD D,.box [.int .i64 ((oT a b (b.n)).kind),.str (oT a b (b.n)).name,.int .i64 (((S.length+1):Nat):Int),.imm ((oT a b (b.n)).names.map aa.str),.imm ((oT a b (b.n)).kids.map Ty.enc)],.box [.int .i64 ((oT b a (a.n)).kind),.str (oT b a (a.n)).name,.int .i64 (((S.length+1):Nat):Int),.imm ((oT b a (a.n)).names.map aa.str),.imm ((oT b a (a.n)).kids.map Ty.enc)],mD (eI (a.names++b.names)),.box [.map 7]]) kq kq kq kq kq (i2 f (a.n) (Ty.mk ((oT b a (a.n)).kind) ((oT b a (a.n)).name) (((S.length+1):Nat):Int) ((oT b a (a.n)).names) ((oT b a (a.n)).kids)) ((lv)) (aI ((((S.length+1):Nat):Int)) ⟨true,(min (x15.lv) (x16.lv)),false,Ty.zero,(iy a b)⟩ S) S2 ok1 (hg2 _) hb1) cL cL rfl cL cL kq ?_
 apply qr 1
 by_cases hb17:(ok1)=true
 apply qm [169,170] (hb17)
 apply qr 4
 refine aT (args:=[.ptr 0 0,.int .i64 (b.n),.agg [.int .i64 ((oT a b (b.n)).kind),.str (oT a b (b.n)).name,.int .i64 (((S.length+1):Nat):Int),.imm ((oT a b (b.n)).names.map aa.str),.imm ((oT a b (b.n)).kids.map Ty.enc)]]) (hs:=[bS lv,mS S2]) (hs':=[bS lv,mS m']) (aO:=[a.bx,b.bx,mD D,.box [.int .i64 ((oT a b (b.n)).kind),.str (oT a b (b.n)).name,.int .i64 (((S.length+1):Nat):Int),.imm ((oT a b (b.n)).names.map aa.str),.imm ((oT a b (b.n)).kids.map Ty.enc)],.box [.int .i64 ((oT b a (a.n)).kind),.str (oT b a (a.n)).name,.int .i64 (((S.length+1):Nat):Int),.imm ((oT b a (a.n)).names.map aa.str),.imm ((oT b a (a.n)).kids.map Ty.enc)],mD (eI (a.names++b.names)),.box [.map 7]]) kq kq kq kq kq (i2 f (b.n) (Ty.mk ((oT a b (b.n)).kind) ((oT a b (b.n)).name) (((S.length+1):Nat):Int) ((oT a b (b.n)).names) ((oT a b (b.n)).kids)) (((lv))) S2 m' ok (hg1 _) (hb2 aq)) cL cL rfl cL cL kq ?_
 apply qR 2 [(6,.bool (ok))] [bS lv,mS m',a.bx,b.bx,mD D,.box [.int .i64 ((oT a b (b.n)).kind),.str (oT a b (b.n)).name,nI (S.length+1),.imm ((oT a b (b.n)).names.map aa.str),.imm ((oT a b (b.n)).kids.map Ty.enc)],.box [.int .i64 ((oT b a (a.n)).kind),.str (oT b a (a.n)).name,nI (S.length+1),.imm ((oT b a (a.n)).names.map aa.str),.imm ((oT b a (a.n)).kids.map Ty.enc)],mD (eI (a.names++b.names)),.box [.map 7]]
 refine a8 kq ?_
 refine aM (l:=[.bool (ok)]) iq kq (by rfl) fI fI ?_ ?_
 refine Eq.trans (b:=[bS lv,mS m']) kq ?_
 · rfl
 · simp [af.belO,hpS,Ty.v,Vr.v]
 iterate 3 kernel_rfl
 apply qm [169,170] (Bool.eq_false_iff.2 hb17)
 apply qR 7 [(6,.bool false)] [bS lv,mS S2,a.bx,b.bx,mD D,.box [.int .i64 ((oT a b (b.n)).kind),.str (oT a b (b.n)).name,nI (S.length+1),.imm ((oT a b (b.n)).names.map aa.str),.imm ((oT a b (b.n)).kids.map Ty.enc)],.box [.int .i64 ((oT b a (a.n)).kind),.str (oT b a (a.n)).name,nI (S.length+1),.imm ((oT b a (a.n)).names.map aa.str),.imm ((oT b a (a.n)).kids.map Ty.enc)],mD (eI (a.names++b.names)),.box [.map 7]]
 refine a8 kq ?_
 refine aM (l:=[.bool false]) iq kq (by have e:=hb3 aq;rw [← e.1];rfl) fI fI ?_ ?_
 refine Eq.trans (b:=[bS lv,mS S2]) kq ?_
 · have e:=hb3 aq
   rw [← e.2];rfl
 · simp [af.belO,hpS,Ty.v,Vr.v]
 iterate 41 kernel_rfl
 apply qm [97,98] (decide_eq_false hb11)
 apply qR 6 [(0,.ptr 0 0),(4,.ptr 2 0),(5,.ptr 3 0),(12,.ptr 5 0),(13,.ptr 6 0),(83,.bool false)] [bS lv,mS S,a.bx,b.bx,mD D,(oT a b (b.n)).bx,(oT b a (a.n)).bx]
 refine d5 kq kq ?_
 apply qV 2
 refine qy (au (l:=(oT a b (b.n)).names) (enc:=aa.str) kq bi) ?_ ?_ ?_
 apply qr 2
 by_cases hb18:(((oT a b (b.n)).names.length:Nat):Int)=0
 · exfalso;omega
 apply qm [108,109] (beq_eq_false_iff_ne.2 hb18)
 apply qR 5 [(0,.ptr 0 0),(4,.ptr 2 0),(5,.ptr 3 0),(12,.ptr 5 0),(13,.ptr 6 0),(104,.bool false)] [bS lv,mS S,a.bx,b.bx,mD D,(oT a b (b.n)).bx,(oT b a (a.n)).bx]
 refine d5 kq kq ?_
 apply qV 2
 refine qy (au (l:=(oT b a (a.n)).names) (enc:=aa.str) kq bi) ?_ ?_ ?_
 apply qR 2 [(0,.ptr 0 0),(4,.ptr 2 0),(5,.ptr 3 0),(12,.ptr 5 0),(13,.ptr 6 0),(122,.bool ((((oT b a (a.n)).names.length:Nat):Int)==0))] [bS lv,mS S,a.bx,b.bx,mD D,(oT a b (b.n)).bx,(oT b a (a.n)).bx]
 by_cases hb19:(((oT b a (a.n)).names.length:Nat):Int)=0
 apply qt (beq_iff_eq.2 hb19)
 apply qW 4 [(0,.ptr 0 0),(5,.ptr 3 0),(12,.ptr 5 0)] [bS lv,mS S,a.bx,b.bx,mD D,.box [.int .i64 ((oT a b (b.n)).kind),.str (oT a b (b.n)).name,.int .i64 (a.n),.imm ((oT a b (b.n)).names.map aa.str),.imm ((oT a b (b.n)).kids.map Ty.enc)],(oT b a (a.n)).bx]
 apply qV 4
 refine aT (args:=[.ptr 0 0,.int .i64 (b.n),.agg [.int .i64 ((oT a b (b.n)).kind),.str (oT a b (b.n)).name,.int .i64 (a.n),.imm ((oT a b (b.n)).names.map aa.str),.imm ((oT a b (b.n)).kids.map Ty.enc)]]) (hs:=[bS lv,mS S]) (hs':=[bS lv,mS m']) (aO:=[a.bx,b.bx,mD D,.box [.int .i64 ((oT a b (b.n)).kind),.str (oT a b (b.n)).name,.int .i64 (a.n),.imm ((oT a b (b.n)).names.map aa.str),.imm ((oT a b (b.n)).kids.map Ty.enc)],(oT b a (a.n)).bx]) kq kq kq kq kq (i2 f (b.n) (Ty.mk ((oT a b (b.n)).kind) ((oT a b (b.n)).name) (a.n) ((oT a b (b.n)).names) ((oT a b (b.n)).kids)) (lv) S m' ok (hg1 _) (((f3 aq oq).2 oq).1 oq)) cL cL rfl cL cL kq ?_
 apply qR 1 [(6,.bool (ok))] [bS lv,mS m',a.bx,b.bx,mD D,.box [.int .i64 ((oT a b (b.n)).kind),.str (oT a b (b.n)).name,.int .i64 (a.n),.imm ((oT a b (b.n)).names.map aa.str),.imm ((oT a b (b.n)).kids.map Ty.enc)],(oT b a (a.n)).bx]
 refine a8 kq ?_
 apply iR
 apply aR
 refine aM (l:=[.bool (ok)]) iq kq (by rfl) fI fI ?_ ?_
 refine Eq.trans (b:=[bS lv,mS m']) kq ?_
 · rfl
 · simp [af.belO,hpS,Ty.v,Vr.v]
 iterate 4 kernel_rfl
 · exfalso;omega
 iterate 19 kernel_rfl
 apply qm [87,88] (decide_eq_false hb9)
 apply qr 7
 refine qy (au (l:=(oT b a (a.n)).names) (enc:=aa.str) kq bi) ?_ ?_ ?_
 apply qr 2
 by_cases hb20:(((oT b a (a.n)).names.length:Nat):Int) > 0
 apply qm [97,98] (decide_eq_true hb20)
 apply qR 6 [(0,.ptr 0 0),(4,.ptr 2 0),(5,.ptr 3 0),(12,.ptr 5 0),(13,.ptr 6 0),(83,.bool ((a.n)==0))] [bS lv,mS S,a.bx,b.bx,mD D,(oT a b (b.n)).bx,(oT b a (a.n)).bx]
 by_cases hb21:(a.n)=0
 apply qt (beq_iff_eq.2 hb21)
 apply qU 1 [(6,.bool false)]
 refine a8 kq ?_
 apply iR
 apply aR
 refine aM (l:=[.bool false]) iq kq (by have e:=f2 aq oq;rw [← e.1];rfl) fI fI ?_ ?_
 refine Eq.trans (b:=[bS lv,mS S]) kq ?_
 · have e:=f2 aq oq
   rw [← e.2];rfl
 · simp [af.belO,hpS,Ty.v,Vr.v]
 iterate 2 kernel_rfl
 apply qf (beq_eq_false_iff_ne.2 hb21)
 apply qV 2
 refine qy (au (l:=(oT a b (b.n)).names) (enc:=aa.str) kq bi) ?_ ?_ ?_
 apply qr 2
 by_cases hb22:(((oT a b (b.n)).names.length:Nat):Int)=0
 apply qm [108,109] (beq_iff_eq.2 hb22)
 apply qR 5 [(0,.ptr 0 0),(4,.ptr 2 0),(5,.ptr 3 0),(12,.ptr 5 0),(13,.ptr 6 0),(104,.bool ((a.n) != 0))] [bS lv,mS S,a.bx,b.bx,mD D,(oT a b (b.n)).bx,(oT b a (a.n)).bx]
 refine qt (x:=((a.n) != 0)) (bne_iff_ne.2 hb21) ?_ ?_
 apply qW 4 [(0,.ptr 0 0),(4,.ptr 2 0),(13,.ptr 6 0)] [bS lv,mS S,a.bx,b.bx,mD D,(oT a b (b.n)).bx,.box [.int .i64 ((oT b a (a.n)).kind),.str (oT b a (a.n)).name,.int .i64 (b.n),.imm ((oT b a (a.n)).names.map aa.str),.imm ((oT b a (a.n)).kids.map Ty.enc)]]
 apply qV 4
 refine aT (args:=[.ptr 0 0,.int .i64 (a.n),.agg [.int .i64 ((oT b a (a.n)).kind),.str (oT b a (a.n)).name,.int .i64 (b.n),.imm ((oT b a (a.n)).names.map aa.str),.imm ((oT b a (a.n)).kids.map Ty.enc)]]) (hs:=[bS lv,mS S]) (hs':=[bS lv,mS m']) (aO:=[a.bx,b.bx,mD D,(oT a b (b.n)).bx,.box [.int .i64 ((oT b a (a.n)).kind),.str (oT b a (a.n)).name,.int .i64 (b.n),.imm ((oT b a (a.n)).names.map aa.str),.imm ((oT b a (a.n)).kids.map Ty.enc)]]) kq kq kq kq kq (i2 f (a.n) (Ty.mk ((oT b a (a.n)).kind) ((oT b a (a.n)).name) (b.n) ((oT b a (a.n)).names) ((oT b a (a.n)).kids)) (lv) S m' ok (hg2 _) ((f3 aq oq).1 oq)) cL cL rfl cL cL kq ?_
 apply qR 1 [(6,.bool (ok))] [bS lv,mS m',a.bx,b.bx,mD D,(oT a b (b.n)).bx,.box [.int .i64 ((oT b a (a.n)).kind),.str (oT b a (a.n)).name,.int .i64 (b.n),.imm ((oT b a (a.n)).names.map aa.str),.imm ((oT b a (a.n)).kids.map Ty.enc)]]
 refine a8 kq ?_
 apply iR
 apply aR
 refine aM (l:=[.bool (ok)]) iq kq (by rfl) fI fI ?_ ?_
 refine Eq.trans (b:=[bS lv,mS m']) kq ?_
 · rfl
 · simp [af.belO,hpS,Ty.v,Vr.v]
 iterate 6 kernel_rfl
 · exfalso;omega
 iterate 7 kernel_rfl
 apply qm [97,98] (decide_eq_false hb20)
 apply qR 6 [(0,.ptr 0 0),(4,.ptr 2 0),(5,.ptr 3 0),(12,.ptr 5 0),(13,.ptr 6 0),(83,.bool false)] [bS lv,mS S,a.bx,b.bx,mD D,(oT a b (b.n)).bx,(oT b a (a.n)).bx]
 refine d5 kq kq ?_
 apply qV 2
 refine qy (au (l:=(oT a b (b.n)).names) (enc:=aa.str) kq bi) ?_ ?_ ?_
 apply qr 2
 by_cases hb24:(((oT a b (b.n)).names.length:Nat):Int)=0
 apply qm [108,109] (beq_iff_eq.2 hb24)
 apply qR 5 [(0,.ptr 0 0),(4,.ptr 2 0),(5,.ptr 3 0),(12,.ptr 5 0),(13,.ptr 6 0),(104,.bool ((a.n) != 0))] [bS lv,mS S,a.bx,b.bx,mD D,(oT a b (b.n)).bx,(oT b a (a.n)).bx]
 by_cases hb25:(a.n)=0
 refine qf (x:=((a.n) != 0)) (bne_eq_false_iff_eq.2 hb25) ?_ ?_
 apply qV 2
 refine qy (au (l:=(oT b a (a.n)).names) (enc:=aa.str) kq bi) ?_ ?_ ?_
 apply qR 2 [(0,.ptr 0 0),(4,.ptr 2 0),(5,.ptr 3 0),(12,.ptr 5 0),(13,.ptr 6 0),(122,.bool ((((oT b a (a.n)).names.length:Nat):Int)==0))] [bS lv,mS S,a.bx,b.bx,mD D,(oT a b (b.n)).bx,(oT b a (a.n)).bx]
 by_cases hb26:(((oT b a (a.n)).names.length:Nat):Int)=0
 apply qt (beq_iff_eq.2 hb26)
 apply qW 4 [(0,.ptr 0 0),(5,.ptr 3 0),(12,.ptr 5 0)] [bS lv,mS S,a.bx,b.bx,mD D,.box [.int .i64 ((oT a b (b.n)).kind),.str (oT a b (b.n)).name,.int .i64 (a.n),.imm ((oT a b (b.n)).names.map aa.str),.imm ((oT a b (b.n)).kids.map Ty.enc)],(oT b a (a.n)).bx]
 apply qV 4
 refine aT (args:=[.ptr 0 0,.int .i64 (b.n),.agg [.int .i64 ((oT a b (b.n)).kind),.str (oT a b (b.n)).name,.int .i64 (a.n),.imm ((oT a b (b.n)).names.map aa.str),.imm ((oT a b (b.n)).kids.map Ty.enc)]]) (hs:=[bS lv,mS S]) (hs':=[bS lv,mS m']) (aO:=[a.bx,b.bx,mD D,.box [.int .i64 ((oT a b (b.n)).kind),.str (oT a b (b.n)).name,.int .i64 (a.n),.imm ((oT a b (b.n)).names.map aa.str),.imm ((oT a b (b.n)).kids.map Ty.enc)],(oT b a (a.n)).bx]) kq kq kq kq kq (i2 f (b.n) (Ty.mk ((oT a b (b.n)).kind) ((oT a b (b.n)).name) (a.n) ((oT a b (b.n)).names) ((oT a b (b.n)).kids)) (lv) S m' ok (hg1 _) (((f3 aq oq).2 oq).1 oq)) cL cL rfl cL cL kq ?_
 apply qR 1 [(6,.bool (ok))] [bS lv,mS m',a.bx,b.bx,mD D,.box [.int .i64 ((oT a b (b.n)).kind),.str (oT a b (b.n)).name,.int .i64 (a.n),.imm ((oT a b (b.n)).names.map aa.str),.imm ((oT a b (b.n)).kids.map Ty.enc)],(oT b a (a.n)).bx]
 refine a8 kq ?_
 apply iR
 apply aR
 refine aM (l:=[.bool (ok)]) iq kq (by rfl) fI fI ?_ ?_
 refine Eq.trans (b:=[bS lv,mS m']) kq ?_
 · rfl
 · simp [af.belO,hpS,Ty.v,Vr.v]
 iterate 4 kernel_rfl
 · exfalso;omega
 iterate 5 kernel_rfl
 refine qt (x:=((a.n) != 0)) (bne_iff_ne.2 hb25) ?_ ?_
 apply qW 4 [(0,.ptr 0 0),(4,.ptr 2 0),(13,.ptr 6 0)] [bS lv,mS S,a.bx,b.bx,mD D,(oT a b (b.n)).bx,.box [.int .i64 ((oT b a (a.n)).kind),.str (oT b a (a.n)).name,.int .i64 (b.n),.imm ((oT b a (a.n)).names.map aa.str),.imm ((oT b a (a.n)).kids.map Ty.enc)]]
 apply qV 4
 refine aT (args:=[.ptr 0 0,.int .i64 (a.n),.agg [.int .i64 ((oT b a (a.n)).kind),.str (oT b a (a.n)).name,.int .i64 (b.n),.imm ((oT b a (a.n)).names.map aa.str),.imm ((oT b a (a.n)).kids.map Ty.enc)]]) (hs:=[bS lv,mS S]) (hs':=[bS lv,mS m']) (aO:=[a.bx,b.bx,mD D,(oT a b (b.n)).bx,.box [.int .i64 ((oT b a (a.n)).kind),.str (oT b a (a.n)).name,.int .i64 (b.n),.imm ((oT b a (a.n)).names.map aa.str),.imm ((oT b a (a.n)).kids.map Ty.enc)]]) kq kq kq kq kq (i2 f (a.n) (Ty.mk ((oT b a (a.n)).kind) ((oT b a (a.n)).name) (b.n) ((oT b a (a.n)).names) ((oT b a (a.n)).kids)) (lv) S m' ok (hg2 _) ((f3 aq oq).1 oq)) cL cL rfl cL cL kq ?_
 apply qR 1 [(6,.bool (ok))] [bS lv,mS m',a.bx,b.bx,mD D,(oT a b (b.n)).bx,.box [.int .i64 ((oT b a (a.n)).kind),.str (oT b a (a.n)).name,.int .i64 (b.n),.imm ((oT b a (a.n)).names.map aa.str),.imm ((oT b a (a.n)).kids.map Ty.enc)]]
 refine a8 kq ?_
 apply iR
 apply aR
 refine aM (l:=[.bool (ok)]) iq kq (by rfl) fI fI ?_ ?_
 refine Eq.trans (b:=[bS lv,mS m']) kq ?_
 · rfl
 · simp [af.belO,hpS,Ty.v,Vr.v]
 iterate 6 kernel_rfl
 · exfalso;omega
 iterate 38 kernel_rfl
 all_goals
  try dsimp only
  refine ⟨by omega,?_⟩
  first|exact sG hP oq hra.2 (.inl oq)|exact sG hP oq hra.2 (.inr (IV aq aq))|exact hUt aq
theorem Cc {f:Nat} {S S':St} {p q:Ty} {ok:Bool} (h:bt f S p q=some (ok,S')):∃ g a b,f=g+1∧bY g S p=some a∧bY g S q=some b∧a.sz<100000000∧b.sz<100000000 ∧
 (a.kind=6∧b.kind=6∧a.n=b.n→true=ok∧S=S')∧(¬ (a.kind=6∧b.kind=6∧a.n=b.n)→(a.kind=6→b7 g S a.n b=some (ok,S'))∧(¬ a.kind=6→(b.kind=6→b7 g S b.n a=some (ok,S'))∧(¬ b.kind=6 →
  (a.kind≠b.kind∨a.name≠b.name→false=ok∧S=S')∧(¬ (a.kind≠b.kind∨a.name≠b.name)→(a.kind=5→gE g (bt g) S a b=some (ok,S'))∧(¬ a.kind=5→(a.kind=4→(0<a.kids.length∧0<b.kids.length)∧bt g S (a.kids.getD 0 Ty.zero) (b.kids.getD 0 Ty.zero)=some (ok,S'))∧(¬ a.kind=4→true=ok∧S=S')))))):=by
 cases f with
 | zero=>simp [bt] at h
 | succ g =>
  rw [bt] at h
  split at h <;> try (cases h;done)
  rename_i a ha
  split at h <;> try (cases h;done)
  rename_i b hb
  split at h <;> try (cases h;done)
  rename_i hs
  refine ⟨g,a,b,rfl,ha,hb,hs.1,hs.2,fun h1=>?_,fun h1=>⟨fun h2=>?_,fun h2=>⟨fun h3=>?_,fun h3=>⟨fun h4=>?_,fun h4=>⟨fun h5=>?_,fun h5=>⟨fun h6=>?_,fun h6=>?_⟩⟩⟩⟩⟩⟩
  · rw [if_pos h1] at h;cases h;exact ⟨rfl,rfl⟩
  · rw [if_neg h1,if_pos h2] at h;exact h
  · rw [if_neg h1,if_neg h2,if_pos h3] at h;exact h
  · rw [if_neg h1,if_neg h2,if_neg h3,if_pos h4] at h;cases h;exact ⟨rfl,rfl⟩
  · rw [if_neg h1,if_neg h2,if_neg h3,if_neg h4,if_pos h5] at h;exact h
  · rw [if_neg h1,if_neg h2,if_neg h3,if_neg h4,if_neg h5,if_pos h6] at h
    split at h <;> try (cases h;done)
    rename_i hk;exact ⟨hk,h⟩
  · rw [if_neg h1,if_neg h2,if_neg h3,if_neg h4,if_neg h5,if_neg h6] at h;cases h;exact ⟨rfl,rfl⟩
theorem IF {t:Ty} (h4:0<t.kids.length) (hs:t.sz<100000000):(t.kids.getD 0 Ty.zero).sz<100000000:=Nat.lt_trans (cu t 0 h4) hs
theorem rD {a b:Int} {x y:List UInt8} (h1:a=b) (h2:x=y):¬ (a≠b∨x≠y):=fun h=>h.elim (fun h=>h h1) (fun h=>h h2)
noncomputable def c66:Code:=aB Tryz.f66
theorem eW {p:Prop} (h:p:=by simp [af.belO,hpS,Ty.v,Vr.v]):p:=h
theorem jv {p:Prop} (h:p:=by simp [aK]):p:=h
theorem Ij {p:Prop} (h:p:=by have hk4:=((((((u2 oq).2 oq).2 oq).2 (rD aq aq)).2 oq).1 oq).1;omega):p:=h
theorem Eo (f:Nat) (p q:Ty) (lv:Int) (m m':St) (ok:Bool) (hp:p.sz<100000000) (hq:q.sz<100000000) (hb:bt f m p q=some (ok,m')):ar cx 66 [.ptr 0 0,Ty.v p,Ty.v q] (hpS lv m) (fun v h=>v=(.bool (ok))∧h=hpS lv m'):=by
 induction f generalizing p q m m' ok with
 | zero=>simp [bt] at hb
 | succ f ih =>
 have ihU:∀ (S:St) (x y:Ty) (okU:Bool) (SU:St),x.sz<100000000→y.sz<100000000→bt f S x y=some (okU,SU)→ar cx 66 [.ptr 0 0,Ty.v x,Ty.v y] (hpS lv S) (fun v h=>v=.bool okU∧h=hpS lv SU):=fun S x y okU SU h1 h2 h3=>ih x y S SU okU h1 h2 h3
 obtain ⟨g,a,b,e,hha,hhb,hsa,hsb,u1,u2⟩:=Cc hb
 obtain rfl:f=g:=by omega
 have hz3:=cF a
 have hz4:=cF b
 refine am (cx:=cx) 83 2 [(ResultVar.tmp 6)] Tryz.func66 rfl rfl rfl rfl rfl zq ?_
 show wpA cx 83 2 (at_ c66 []) _ _ _
 apply qZ [(0,.ptr 0 0),(1,Ty.v p),(2,Ty.v q)] [bS lv,mS m]
 apply qW 3 [(0,.ptr 0 0),(4,.ptr 2 0),(5,.ptr 3 0)] [bS lv,mS m,p.bx,q.bx]
 apply ao
 refine cR cxM kq aJ (bq ?_)
 apply qu 2
 refine cC (args:=[.ptr 0 0,aG p]) (hs:=[bS lv,mS m]) (hs':=[bS lv,mS m]) (aO:=[p.bx,q.bx]) (L:=[0,1]) kq kq kq kq kq kq (p9 f p a (lv) m hp hha) eW eW rfl eW eW kq rfl rfl ?_
 apply qu 2
 refine cC (args:=[.ptr 0 0,aG q]) (hs:=[bS lv,mS m]) (hs':=[bS lv,mS m]) (aO:=[p.bx,q.bx]) (L:=[0,1]) kq kq kq kq kq kq (p9 f q b ((lv)) m hq hhb) eW eW rfl eW eW kq rfl rfl ?_
 apply qu 2
 refine cq kq ⟨kq,?_⟩
 apply ab
 apply qZ [(0,.ptr 0 0),(4,.ptr 2 0),(5,.ptr 3 0)] [bS lv,mS m,a.bx,b.bx]
 apply ao
 apply qB 0
 apply qV 4
 by_cases hb1:(a.kind)=6
 apply qm [16,17] (beq_iff_eq.2 hb1)
 apply qr 5
 by_cases hb2:(b.kind)=6
 apply qm [20,21,22] (beq_iff_eq.2 hb2)
 apply qR 7 [(0,.ptr 0 0),(4,.ptr 2 0),(5,.ptr 3 0),(13,.bool ((a.n)==(b.n)))] [bS lv,mS m,a.bx,b.bx]
 by_cases hb3:(a.n)=(b.n)
 apply qt (beq_iff_eq.2 hb3)
 apply qU 1 [(6,.bool true)]
 refine a8 kq ?_
 apply iR
 apply aR
 refine aM (l:=[.bool true]) iq kq (by have e:=u1 oq;rw [← e.1];rfl) jv jv ?_ ?_
 refine Eq.trans (b:=[bS lv,mS m]) kq ?_
 · have e:=u1 oq
   rw [← e.2];rfl
 rotate_left
 iterate 2 kernel_rfl
 apply qf (beq_eq_false_iff_ne.2 hb3)
 apply qU 4 [(0,.ptr 0 0),(4,.ptr 2 0),(5,.ptr 3 0),(29,.bool ((a.kind)==6))]
 apply qt (beq_iff_eq.2 hb1)
 apply qV 4
 refine aT (args:=[.ptr 0 0,.int .i64 (a.n),aG b]) (hs:=[bS lv,mS m]) (hs':=[bS lv,mS m']) (aO:=[a.bx,b.bx]) kq kq kq kq kq (i2 f (a.n) b (((lv))) m m' ok hsb ((u2 oq).1 oq)) eW eW rfl eW eW kq ?_
 apply qR 1 [(6,.bool (ok))] [bS lv,mS m',a.bx,b.bx]
 refine a8 kq ?_
 apply iR
 apply aR
 refine aM (l:=[.bool (ok)]) iq kq (by rfl) jv jv ?_ ?_
 refine Eq.trans (b:=[bS lv,mS m']) kq ?_
 · rfl
 rotate_left
 iterate 7 kernel_rfl
 apply qm [20,21,22] (beq_eq_false_iff_ne.2 hb2)
 apply qR 7 [(0,.ptr 0 0),(4,.ptr 2 0),(5,.ptr 3 0),(13,.bool false)] [bS lv,mS m,a.bx,b.bx]
 refine d5 kq kq ?_
 apply qU 4 [(0,.ptr 0 0),(4,.ptr 2 0),(5,.ptr 3 0),(29,.bool ((a.kind)==6))]
 apply qt (beq_iff_eq.2 hb1)
 apply qV 4
 refine aT (args:=[.ptr 0 0,.int .i64 (a.n),aG b]) (hs:=[bS lv,mS m]) (hs':=[bS lv,mS m']) (aO:=[a.bx,b.bx]) kq kq kq kq kq (i2 f (a.n) b (((lv))) m m' ok hsb ((u2 oq).1 oq)) eW eW rfl eW eW kq ?_
 apply qR 1 [(6,.bool (ok))] [bS lv,mS m',a.bx,b.bx]
 refine a8 kq ?_
 apply iR
 apply aR
 refine aM (l:=[.bool (ok)]) iq kq (by rfl) jv jv ?_ ?_
 refine Eq.trans (b:=[bS lv,mS m']) kq ?_
 · rfl
 rotate_left
 iterate 8 kernel_rfl
 apply qm [16,17] (beq_eq_false_iff_ne.2 hb1)
 apply qR 12 [(0,.ptr 0 0),(4,.ptr 2 0),(5,.ptr 3 0),(13,.bool false)] [bS lv,mS m,a.bx,b.bx]
 refine d5 kq kq ?_
 apply qU 4 [(0,.ptr 0 0),(4,.ptr 2 0),(5,.ptr 3 0),(29,.bool ((a.kind)==6))]
 apply qf (beq_eq_false_iff_ne.2 hb1)
 apply qU 4 [(0,.ptr 0 0),(4,.ptr 2 0),(5,.ptr 3 0),(38,.bool ((b.kind)==6))]
 by_cases hb7:(b.kind)=6
 apply qt (beq_iff_eq.2 hb7)
 apply qV 4
 refine aT (args:=[.ptr 0 0,.int .i64 (b.n),aG a]) (hs:=[bS lv,mS m]) (hs':=[bS lv,mS m']) (aO:=[a.bx,b.bx]) kq kq kq kq kq (i2 f (b.n) a (((lv))) m m' ok hsa (((u2 oq).2 oq).1 oq)) eW eW rfl eW eW kq ?_
 apply qR 1 [(6,.bool (ok))] [bS lv,mS m',a.bx,b.bx]
 refine a8 kq ?_
 apply iR
 apply aR
 refine aM (l:=[.bool (ok)]) iq kq (by rfl) jv jv ?_ ?_
 refine Eq.trans (b:=[bS lv,mS m']) kq ?_
 · rfl
 rotate_left
 iterate 3 kernel_rfl
 apply qf (beq_eq_false_iff_ne.2 hb7)
 apply qV 6
 by_cases hb8:(a.kind)=(b.kind)
 refine qm [52,53] (x:=((a.kind) != (b.kind))) (bne_eq_false_iff_eq.2 hb8) ?_ ?_
 apply qR 7 [(0,.ptr 0 0),(4,.ptr 2 0),(5,.ptr 3 0),(47,.bool (!(a.name==b.name)))] [bS lv,mS m,a.bx,b.bx]
 by_cases hb9:a.name=b.name
 refine qf (x:=(!(a.name==b.name))) (congrArg not (beq_iff_eq.2 hb9)) ?_ ?_
 apply qU 4 [(0,.ptr 0 0),(4,.ptr 2 0),(5,.ptr 3 0),(60,.bool ((a.kind)==5))]
 by_cases hb10:(a.kind)=5
 apply qt (beq_iff_eq.2 hb10)
 apply qV 3
 refine aT (args:=[.ptr 0 0,aG a,aG b]) (hs:=[bS lv,mS m]) (hs':=[bS lv,mS m']) (aO:=[a.bx,b.bx]) kq kq kq kq kq (GQ f a b (((lv))) m m' ok hsa hsb (((((u2 oq).2 oq).2 oq).2 (rD aq aq)).1 oq) ihU) eW eW rfl eW eW kq ?_
 apply qR 1 [(6,.bool (ok))] [bS lv,mS m',a.bx,b.bx]
 refine a8 kq ?_
 apply iR
 apply aR
 refine aM (l:=[.bool (ok)]) iq kq (by rfl) jv jv ?_ ?_
 refine Eq.trans (b:=[bS lv,mS m']) kq ?_
 · rfl
 rotate_left
 iterate 3 kernel_rfl
 apply qf (beq_eq_false_iff_ne.2 hb10)
 apply qk
 apply aj
 apply ab
 apply qz [(0,.ptr 0 0),(4,.ptr 2 0),(5,.ptr 3 0)]
 apply ao
 refine cR cxM kq aJ (bq ?_)
 apply qu 4
 by_cases hb11:(a.kind)=4
 refine lj 70 (.bool ((a.kind) != 4)) (.bool false) (kY aJ) kq (congrArg aa.bool (bne_eq_false_iff_eq.2 hb11)) ?_
 refine lj 71 (.bool ((a.kind) != 4)) (.bool false) (kY aJ) kq (congrArg aa.bool (bne_eq_false_iff_eq.2 hb11)) ?_
 apply qu 3
 refine qd ((aA (k:=.i64) (l:=a.kids) (enc:=Ty.enc) (i:=0) Ty.zero kq ba bV bk oq Ij).trans (congrArg (fun cs=>some (aa.pimm cs 0,_)) (aU (a.kids.getD 0 Ty.zero)))) ?_ ?_ ?_ ?_
 apply qu 3
 refine qd ((aA (k:=.i64) (l:=b.kids) (enc:=Ty.enc) (i:=0) Ty.zero kq ba bV bk oq Ij).trans (congrArg (fun cs=>some (aa.pimm cs 0,_)) (aU (b.kids.getD 0 Ty.zero)))) ?_ ?_ ?_ ?_
 apply qu 1
 refine cC (args:=[.ptr 0 0,aG (a.kids.getD 0 Ty.zero),aG (b.kids.getD 0 Ty.zero)]) (hs:=[bS lv,mS m]) (hs':=[bS lv,mS m']) (aO:=[a.bx,b.bx]) (L:=[0,1]) kq kq kq kq kq kq (ihU m (a.kids.getD 0 Ty.zero) (b.kids.getD 0 Ty.zero) ok m' (IF ((((((u2 oq).2 oq).2 oq).2 (rD aq aq)).2 oq).1 oq).1.1 hsa) (IF ((((((u2 oq).2 oq).2 oq).2 (rD aq aq)).2 oq).1 oq).1.2 hsb) ((((((u2 oq).2 oq).2 oq).2 (rD aq aq)).2 oq).1 oq).2) eW eW rfl eW eW kq rfl rfl ?_
 apply qu 2
 refine cq kq ⟨kq,?_⟩
 apply ab
 apply qZ [(6,.bool (ok))] [bS lv,mS m',a.bx,b.bx]
 refine a8 kq ?_
 refine aM (l:=[.bool (ok)]) iq kq (by rfl) jv jv ?_ ?_
 refine Eq.trans (b:=[bS lv,mS m']) kq ?_
 · rfl
 rotate_left
 iterate 11 kernel_rfl
 refine lj 70 (.bool ((a.kind) != 4)) (.bool true) (kY aJ) kq (congrArg aa.bool (bne_iff_ne.2 hb11)) ?_
 refine lj 71 (.bool ((a.kind) != 4)) (.bool true) (kY aJ) kq (congrArg aa.bool (bne_iff_ne.2 hb11)) ?_
 apply qu 12
 refine cq kq ⟨kq,?_⟩
 apply ab
 apply qZ [(6,.bool true)] [bS lv,mS m,a.bx,b.bx]
 refine a8 kq ?_
 refine aM (l:=[.bool true]) iq kq (by have e:=(((((u2 oq).2 oq).2 oq).2 (rD aq aq)).2 oq).2 oq;rw [← e.1];rfl) jv jv ?_ ?_
 refine Eq.trans (b:=[bS lv,mS m]) kq ?_
 · have e:=(((((u2 oq).2 oq).2 oq).2 (rD aq aq)).2 oq).2 oq
   rw [← e.2];rfl
 rotate_left
 iterate 9 kernel_rfl
 refine qt (x:=(!(a.name==b.name))) (congrArg not (beq_eq_false_iff_ne.2 hb9)) ?_ ?_
 apply qU 1 [(6,.bool false)]
 refine a8 kq ?_
 apply iR
 apply aR
 refine aM (l:=[.bool false]) iq kq (by have e:=(((u2 oq).2 oq).2 oq).1 (.inr aq);rw [← e.1];rfl) jv jv ?_ ?_
 refine Eq.trans (b:=[bS lv,mS m]) kq ?_
 · have e:=(((u2 oq).2 oq).2 oq).1 (.inr aq)
   rw [← e.2];rfl
 rotate_left
 iterate 4 kernel_rfl
 refine qm [52,53] (x:=((a.kind) != (b.kind))) (bne_iff_ne.2 hb8) ?_ ?_
 apply qR 7 [(0,.ptr 0 0),(4,.ptr 2 0),(5,.ptr 3 0),(47,.bool true)] [bS lv,mS m,a.bx,b.bx]
 refine cw kq kq ?_
 apply qU 1 [(6,.bool false)]
 refine a8 kq ?_
 apply iR
 apply aR
 refine aM (l:=[.bool false]) iq kq (by have e:=(((u2 oq).2 oq).2 oq).1 (.inl aq);rw [← e.1];rfl) jv jv ?_ ?_
 refine Eq.trans (b:=[bS lv,mS m]) kq ?_
 · have e:=(((u2 oq).2 oq).2 oq).1 (.inl aq)
   rw [← e.2];rfl
 rotate_left
 iterate 21 kernel_rfl
 all_goals
  simp [af.belO,hpS,Ty.v,Vr.v]
theorem o8 {p:Prop} (h:p:=by simp [af.belO,hpS,Ty.v,Vr.v]):p:=h
theorem vH (f:Nat) (p q:Ty) (lv:Int) (m m':St) (hp:p.sz<100000000) (hq:q.sz<100000000) (hm:dn m) (hhp:cT m p=true) (hhq:cT m q=true) (hb:bt f m p q=some (true,m')):ar cx 23 [.ptr 0 0,Ty.v p,Ty.v q] (hpS lv m) (fun v h=>v=(.int .i64 0)∧h=hpS lv m'):=by
 refine am (cx:=cx) 34 2 [(ResultVar.tmp 6)] Tryz.func23 rfl rfl rfl rfl rfl zq ?_
 show wpA cx 34 2 (at_ c23 []) _ _ _
 apply qZ [(0,.ptr 0 0),(1,Ty.v p),(2,Ty.v q)] [bS lv,mS m]
 apply qW 3 [(0,.ptr 0 0),(4,.ptr 2 0),(5,.ptr 3 0)] [bS lv,mS m,p.bx,q.bx]
 apply ao
 apply qV 2
 refine aT (args:=[.ptr 0 0,aG p]) (hs:=[bS lv,mS m]) (hs':=[bS lv,mS m]) (aO:=[p.bx,q.bx]) kq kq kq kq kq (qq p (lv) m oq oq) o8 o8 rfl o8 o8 kq ?_
 apply qr 2
 by_cases hb1:(cT m p)=true
 refine qm [11,12] (x:=(!(cT m p))) (congrArg not (hb1)) ?_ ?_
 apply qr 2
 refine aT (args:=[.ptr 0 0,aG q]) (hs:=[bS lv,mS m]) (hs':=[bS lv,mS m]) (aO:=[p.bx,q.bx]) kq kq kq kq kq (qq q ((lv)) m oq oq) o8 o8 rfl o8 o8 kq ?_
 apply qR 2 [(0,.ptr 0 0),(4,.ptr 2 0),(5,.ptr 3 0),(17,.bool (!(cT m q)))] [bS lv,mS m,p.bx,q.bx]
 by_cases hb2:(cT m q)=true
 refine qf (x:=(!(cT m q))) (congrArg not (hb2)) ?_ ?_
 apply qK
 apply qz [(0,.ptr 0 0),(4,.ptr 2 0),(5,.ptr 3 0)]
 apply qV 4
 refine dD (args:=[.map 1]) (v:=.map 4) (h':=[bS lv,mS m,p.bx,q.bx,mS m]) [bS lv,mS m,p.bx,q.bx] kq kq kq kq kq (mclone65 rfl) ?_
 apply qR 1 [(0,.ptr 0 0),(4,.ptr 2 0),(5,.ptr 3 0),(7,.map 4)] [bS lv,mS m,p.bx,q.bx,mS m]
 apply ao
 apply ao
 refine cR cxM kq aJ (bq ?_)
 apply qu 2
 refine d4 (args:=[aG p]) kq kq kq kq kq (lR p oq) (by intro _;simp [Ty.v,bo,Occ.v]) (by simp [Ty.v]) (by simp [Ty.v,bh]) ?_
 apply qu 1
 refine d4 (args:=[aG q]) kq kq kq kq kq (lR q oq) (by intro _;simp [Ty.v,bo,Occ.v]) (by simp [Ty.v]) (by simp [Ty.v,bh]) ?_
 refine cC (args:=[.ptr 0 0,Ty.v p,Ty.v q]) (hs:=[bS lv,mS m]) (hs':=[bS lv,mS m']) (aO:=[p.bx,q.bx,mS m]) (L:=[0,1]) kq kq kq kq kq kq (Eo f p q (((lv))) m m' true oq oq hb) o8 o8 rfl o8 o8 kq rfl rfl ?_
 apply qu 1
 refine cq kq ⟨kq,?_⟩
 apply ab
 apply qZ [(0,.ptr 0 0),(7,.map 4),(29,.bool false)] [bS lv,mS m',p.bx,q.bx,mS m]
 refine d5 kq kq ?_
 apply qK
 apply qz []
 apply qU 1 [(6,.int .i64 0)]
 refine a8 kq ?_
 refine aM (l:=[.int .i64 0]) iq kq (by rfl) (by simp [aK]) (by simp [aK]) ?_ ?_
 refine Eq.trans (b:=[bS lv,mS m']) kq ?_
 · rfl
 · simp [af.belO,hpS,Ty.v,Vr.v]
 iterate 14 kernel_rfl
 · exfalso;exact hb2 hhq
 iterate 3 kernel_rfl
 · exfalso;exact hb1 hhp
 iterate 5 kernel_rfl
theorem wn {p:Prop} (h:p:=by simp [af.belO,hpS,Ty.v]):p:=h
theorem iZ (f:Nat) (p r:Ty) (lv:Int) (m:St) (hp:p.sz<100000000) (hm:dn m) (hhp:cT m p=true) (hr:dH f m p=some r):ar cx 24 [.ptr 0 0,Ty.v p] (hpS lv m) (fun v h=>v=(Ty.v r)∧h=hpS lv m):=by
 refine am (cx:=cx) 14 2 [(ResultVar.cell 4 25)] Tryz.func24 rfl rfl rfl rfl rfl zq ?_
 show wpA cx 14 2 (at_ c24 []) _ _ _
 apply qZ [(0,.ptr 0 0),(1,Ty.v p)] [bS lv,mS m]
 apply qW 2 [(0,.ptr 0 0),(3,.ptr 2 0),(4,.ptr 3 0)] [bS lv,mS m,p.bx,.box zC]
 apply ao
 apply qV 2
 refine aT (args:=[.ptr 0 0,aG p]) (hs:=[bS lv,mS m]) (hs':=[bS lv,mS m]) (aO:=[p.bx,.box zC]) kq kq kq kq kq (qq p (lv) m oq oq) wn wn rfl wn wn kq ?_
 apply qR 1 [(0,.ptr 0 0),(3,.ptr 2 0),(4,.ptr 3 0),(8,.bool (!(cT m p)))] [bS lv,mS m,p.bx,.box zC]
 by_cases hb1:(cT m p)=true
 refine qf (x:=(!(cT m p))) (congrArg not (hb1)) ?_ ?_
 apply qK
 apply qz [(0,.ptr 0 0),(3,.ptr 2 0),(4,.ptr 3 0)]
 apply qV 2
 refine aT (args:=[.ptr 0 0,aG p]) (hs:=[bS lv,mS m]) (hs':=[bS lv,mS m]) (aO:=[p.bx,.box zC]) kq kq kq kq kq (iA f p r ((lv)) m oq hr) wn wn rfl wn wn kq ?_
 apply qR 1 [(4,.ptr 3 0)] [bS lv,mS m,p.bx,r.bx]
 refine a8 kq ?_
 refine aM (l:=[aG r]) iq kq (by simp [aK,Ty.v,aa.frz,bf]) (by simp [aK]) (by simp [aK]) ?_ ?_
 refine Eq.trans (b:=[bS lv,mS m]) kq ?_
 · rfl
 · simp [af.belO,hpS,Ty.v]
 iterate 5 kernel_rfl
 · exfalso;exact hb1 hhp
 iterate 5 kernel_rfl
theorem Bt (l:Fd) :ar cx 114 [.map 0] [mF l] (fun v h=>v=.fn (.func 127) [] [.ptr 1 0]∧h=[mF l,.box [.map 0]]):=by
 refine dN (cx:=cx) 4 1 [(ResultVar.tmp 2)] Tryz.func114 rfl rfl rfl rfl rfl zq ?_
 show wpA cx 4 1 (at_ IY []) _ _ _
 apply qZ [(0,.map 0)] [mF l]
 apply qW 2 [(1,.ptr 1 0)] [mF l,.box [.map 0]]
 apply qU 2 [(2,.fn (.func 127) [] [.ptr 1 0])]
 refine a8 kq ?_
 refine ee (l:=[.fn (.func 127) [] [.ptr 1 0]]) 2 [mF l,.box [.map 0]] iq kq dq kq (by simp [aK,-List.map_append,-List.map_take,-List.map_drop,-List.append_assoc]) (by simp [af.belO,-List.map_append,-List.map_take,-List.map_drop,-List.append_assoc]) ?_
 · exact ⟨rfl,rfl⟩
 iterate 3 kernel_rfl
theorem zd {l:Fd} {h:ac} (m o:Nat) (ho:h[o]?=some (.box [.map m])) (hm:h[m]?=some (mF l)) (hl:tL l) :
 ar cx 113 [.fn (.func 127) [] [.ptr o 0]] h (fun v h'=>v=.imm ((aD (l.map Prod.fst)).map .str)∧h'=h):=by
 have e:(l.map fun p=>(p.1,p.2.v)).map (·.1)=l.map Prod.fst:=by simp [Function.comp_def]
 have:=gR t7 (h:=h) (m:=m) (o:=o) (kv:=l.map fun p=>(p.1,p.2.v)) ho (by rw [hm];simp [av,mN,Function.comp_def]) (by rw [e];exact hl.1)
  (fun p hp=>by obtain ⟨q,hq,rfl⟩:=List.mem_map.1 hp;exact hl.2.1 q hq) (by rw [List.length_map];have:=hl.2.2;omega)
 rw [e] at this
 exact this
theorem DD (l:List (List UInt8)) (hl:l.length<1000000000):aC cx 84 [.imm (l.map .str)] (.imm (l.map .str)):=g0 (zl l hl) (by rintro _ _ ⟨rfl,rfl⟩;simp [aa.frz]) zq
theorem IL {p:Prop} (h:p:=by simp only [List.length_append,List.length_cons,List.length_nil];omega):p:=h
theorem yI (l:Fd) (n:Int) (hl:tL l):ar cx 83 [.map 0,.int .i64 (n)] [mF l] (fun v h=>v=(Ty.v (recT l n))∧h=[mF l]):=by
 have hsl:=yH hl
 refine am (cx:=cx) 30 1 [(ResultVar.cell 4 25)] Tryz.func83 rfl rfl rfl rfl rfl zq ?_
 show wpA cx 30 1 (at_ c83 []) _ _ _
 apply qZ [(0,.map 0),(1,.int .i64 (n))] [mF l]
 apply qW 1 [(0,.map 0),(1,.int .i64 (n)),(4,.ptr 1 0)] [mF l,.box zC]
 apply qV 2
 refine dD (args:=[.map 0]) (v:=.fn (.func 127) [] [.ptr 2 0]) (h':=[mF l,.box zC,.box [.map 0]]) [mF l,.box zC] kq kq kq kq kq (kC [0] (Bt l) rfl dq zq (by simp [af.belO]) (by simp [dZ,af.ren,bg,gi]) rfl (by simp [b4,aa.ren,bg]) (by simp [aa.ren,b4,bg]) (by simp [dX,cQ,dZ,af.ren,b4,aa.ren,bg,gi])) ?_
 refine dD (args:=[.fn (.func 127) [] [.ptr 2 0]]) (v:=.imm ((aD (l.map Prod.fst)).map aa.str)) (h':=[mF l,.box zC,.box [.map 0]]) [mF l,.box zC,.box [.map 0]] kq kq kq kq kq (zd 0 2 rfl rfl hl) ?_
 apply qR 3 [(0,.map 0),(4,.ptr 1 0),(5,.ptr 3 0)] [mF l,.box zC,.box [.map 0],.box [.int .i64 5,.str [],.int .i64 (n),.imm ((aD (l.map Prod.fst)).map aa.str),.full []]]
 refine mh 3 4 5 (cs:=[.int .i64 5,.str [],.int .i64 (n),.imm ((aD (l.map Prod.fst)).map aa.str),.full []]) [.int .i64 5,.str [],.int .i64 (n),.imm ((aD (l.map Prod.fst)).map aa.str),.own 4 0 0] dq kq kq kq ?_
 apply qZ [(0,.map 0),(4,.ptr 1 0),(5,.ptr 3 0)] [mF l,.box zC,.box [.map 0],.box [.int .i64 5,.str [],.int .i64 (n),.imm ((aD (l.map Prod.fst)).map aa.str),.own 4 0 0],.arr 5 (([]:List (Ty)).map Ty.enc) 0]
 apply ao
 apply qV 2
 refine qy (au (l:=(aD (l.map Prod.fst))) (enc:=aa.str) kq bi) ?_ ?_ ?_
 apply qR 1 [(0,.map 0),(4,.ptr 1 0),(5,.ptr 3 0),(14,.imm ((aD (l.map Prod.fst)).map aa.str)),(15,nI ((aD (l.map Prod.fst)).length)),(16,.int .i64 0)] [mF l,.box zC,.box [.map 0],.box [.int .i64 5,.str [],.int .i64 (n),.imm ((aD (l.map Prod.fst)).map aa.str),.own 4 0 0],.arr 5 (([]:List (Ty)).map Ty.enc) 0]
 apply qB 0
 refine bB (σ:=Nat) (fun k=>[(0,.map 0),(4,.ptr 1 0),(5,.ptr 3 0),(14,.imm ((aD (l.map Prod.fst)).map aa.str)),(15,.int .i64 (((aD (l.map Prod.fst)).length:Nat):Int)),(16,.int .i64 ((k:Nat):Int))]) (fun k=>[mF l,.box zC,.box [.map 0],.box [.int .i64 5,.str [],.int .i64 (n),.imm ((aD (l.map Prod.fst)).map aa.str),.own 4 0 (cb l k).length],.arr 5 ((cb l k).map Ty.enc) 0]) (fun k=>k≤(aD (l.map Prod.fst)).length) (fun k=>(aD (l.map Prod.fst)).length - k) 0 kq (by exact Nat.zero_le _) ⟨⟨kq,kq,kq,kq,kq,kq,trivial⟩,by simp [aQ,aa.bel],by simp,kq,by simp [af.belO,bL,Ty.enc_v]⟩ ?_
 rintro k hk
 have hrl:=vD l k hk
 apply qW 1 [(0,.map 0),(4,.ptr 1 0),(5,.ptr 3 0),(14,.imm ((aD (l.map Prod.fst)).map aa.str)),(15,nI ((aD (l.map Prod.fst)).length)),(16,nI k),(17,.bool (decide (((k:Nat):Int)<(((aD (l.map Prod.fst)).length:Nat):Int))))] [mF l,.box zC,.box [.map 0],.box [.int .i64 5,.str [],.int .i64 (n),.imm ((aD (l.map Prod.fst)).map aa.str),.own 4 0 (cb l k).length],.arr 5 ((cb l k).map Ty.enc) 0]
 apply ao
 by_cases hb1:((k:Nat):Int)<(((aD (l.map Prod.fst)).length:Nat):Int)
 apply qt (decide_eq_true hb1)
 apply qK
 apply qz [(0,.map 0),(4,.ptr 1 0),(5,.ptr 3 0),(14,.imm ((aD (l.map Prod.fst)).map aa.str)),(15,nI ((aD (l.map Prod.fst)).length)),(16,nI k)]
 apply ao
 apply qB 1
 apply qO
 refine qy (aA (k:=.i64) (l:=(aD (l.map Prod.fst))) (enc:=aa.str) (i:=((k:Nat):Int)) [] kq bi ty9 (fun _=>rfl) oq oq) ?_ ?_ ?_
 apply qR 2 [(0,.map 0),(4,.ptr 1 0),(5,.ptr 3 0),(7,.str ((aD (l.map Prod.fst)).getD k [])),(14,.imm ((aD (l.map Prod.fst)).map aa.str)),(15,nI ((aD (l.map Prod.fst)).length)),(16,nI k)] [mF l,.box zC,.box [.map 0],.box [.int .i64 5,.str [],.int .i64 (n),.imm ((aD (l.map Prod.fst)).map aa.str),.own 4 0 (cb l k).length],.arr 5 ((cb l k).map Ty.enc) 0]
 apply qo
 apply qr 4
 rcases hm2:ai ((aD (l.map Prod.fst)).getD k []) l with _|x2
 · exact absurd hm2 (sN oq)
 refine qy (cg (ok:=false) (o:=0) (ek:=aa.str) (ev:=Ty.v) (l:=l) (k:=((aD (l.map Prod.fst)).getD k [])) (x:=x2) qF hm2 kq tz ty9 rfl bV kq) ?_ ?_ ?_
 apply qr 1
 refine qY (bc (o:=4) (len:=((cb l k).length)) (l:=(cb l k)) (xs:=[x2]) (enc:=Ty.enc) (sz:=5) (fr:=0) (x:=(.full [Ty.v x2])) kq ba bV ba rfl kq rfl rfl (Eq.trans (b:=some [Ty.v x2]) kq (by simp [Ty.enc_v])) ⟨by decide,by kernel_rfl⟩ gZ IL IL) ?_ ?_ ?_
 apply qr 2
 apply qe
 apply aj
 apply ab
 apply qZ [(0,.map 0),(4,.ptr 1 0),(5,.ptr 3 0),(14,.imm ((aD (l.map Prod.fst)).map aa.str)),(15,nI ((aD (l.map Prod.fst)).length)),(16,nI k)] [mF l,.box zC,.box [.map 0],.box [.int .i64 5,.str [],.int .i64 (n),.imm ((aD (l.map Prod.fst)).map aa.str),.own 4 0 ((cb l k)++[x2]).length],.arr 5 (((cb l k)++[x2]).map Ty.enc) 0]
 apply qo
 refine qy (aN (a:=((k:Nat):Int)) (b:=1) kq oq oq) ?_ ?_ ?_
 apply qr 1
 apply qe
 refine ab ⟨k+1,?_,?_,⟨⟨kq,kq,kq,kq,kq,kq,trivial⟩,by simp [aQ,aa.bel],by simp,(Eq.trans (b:=[mF l,.box zC,.box [.map 0],.box [.int .i64 5,.str [],.int .i64 (n),.imm ((aD (l.map Prod.fst)).map aa.str),.own 4 0 ((cb l k)++[x2]).length],.arr 5 (((cb l k)++[x2]).map Ty.enc) 0]) kq (by rw [tp oq aq])),by simp [af.belO,bL,Ty.enc_v]⟩⟩
 · omega
 · omega
 iterate 25 kernel_rfl
 apply qf (decide_eq_false hb1)
 refine bn 0 kq kq ?_
 apply ae
 apply ae
 apply ay
 apply ab
 apply qz [(4,.ptr 1 0),(5,.ptr 3 0)]
 refine n8 3 4 4 (cs:=[.int .i64 5,.str [],.int .i64 (n),.imm ((aD (l.map Prod.fst)).map aa.str),.own 4 0 (cb l k).length]) (es:=((cb l k).map Ty.enc)) (off:=0) (len:=((cb l k).length)) (sz:=5) (fr:=0) [.int .i64 5,.str [],.int .i64 (n),.imm ((aD (l.map Prod.fst)).map aa.str),.imm ((cb l k).map Ty.enc)] ((cb l k).map Ty.enc) dq kq kq kq zq kq kq ?_
 apply qZ [(4,.ptr 1 0),(5,.ptr 3 0)] [mF l,.box zC,.box [.map 0],.box [.int .i64 5,.str [],.int .i64 (n),.imm ((aD (l.map Prod.fst)).map aa.str),.imm ((cb l k).map Ty.enc)],.arr 5 ((cb l k).map Ty.enc) ((cb l k).map Ty.enc).length]
 apply qW 2 [(4,.ptr 1 0)] [mF l,.box [.int .i64 5,.str [],.int .i64 (n),.imm ((aD (l.map Prod.fst)).map aa.str),.imm ((cb l k).map Ty.enc)],.box [.map 0],.box [.int .i64 5,.str [],.int .i64 (n),.imm ((aD (l.map Prod.fst)).map aa.str),.imm ((cb l k).map Ty.enc)],.arr 5 ((cb l k).map Ty.enc) ((cb l k).map Ty.enc).length]
 refine a8 kq ?_
 refine aM (l:=[.agg [.int .i64 5,.str [],.int .i64 (n),.imm ((aD (l.map Prod.fst)).map aa.str),.imm ((cb l k).map Ty.enc)]]) iq kq (by have hkk:k=(aD (l.map Prod.fst)).length:=oq;subst hkk;simp [Ty.v,aa.frz,bf,aK,recT]) (by simp [aK]) (by simp [aK]) ?_ ?_
 refine Eq.trans (b:=[mF l]) kq ?_
 · rfl
 · simp [af.belO,hpV,Ty.v]
 iterate 18 kernel_rfl
def ed (ns:List (List UInt8)) (ks:List Ty):Ty:=.mk 5 [] 0 ns ks
def lP (lv:Int) (m:St) (ns:List (List UInt8)):St:=aI ((((m.length+1):Nat):Int)) ⟨true,lv,false,Ty.zero,ns⟩ m
def ju (lv:Int) (m:St):St:=aI ((((m.length+1):Nat):Int)) ⟨false,lv,false,Ty.zero,[]⟩ m
structure I5 (m:St) (ns:List (List UInt8)) (ks:List Ty):Prop where
 len:ns.length=ks.length
 low:∀ i,i<ns.length→cz 2 (ns.getD i [])=true
 has:∀ i,i<ns.length→cT m (ks.getD i Ty.zero)=true
 nd:ns.Nodup
theorem F9 {ns:List (List UInt8)} {ks:List Ty} {k:Nat} (hl:ns.length=ks.length) (hn:ns.Nodup) (hk:k<ns.length):ai (ns.getD k []) (b6 [] (ed ns ks) k)=none:=by
 cases hm:ai (ns.getD k []) (b6 [] (ed ns ks) k) with
 | none=>rfl
 | some x =>
  exfalso
  have key:∀ (z l:Fd) (q:List UInt8×Ty),q∈z.foldl (fun l p=>aI p.1 p.2 l) l→q∈z∨q∈l:=fun z l q=>nT z l
  rcases key _ _ _ (gC hm) with h|h
  · obtain ⟨i,hi,e⟩:=List.getElem_of_mem h
    rw [List.length_take,List.length_zip] at hi
    rw [List.getElem_take,List.getElem_zip] at e
    have e1:=(Prod.mk.inj e).1
    have hi':i<ns.length:=by have h1:(ed ns ks).names=ns:=rfl;have h2:(ed ns ks).kids=ks:=rfl;rw [h1,h2] at hi;omega
    rw [List.getD_eq_getElem?_getD,List.getElem?_eq_getElem hk] at e1
    have:=(List.getElem_inj hn).1 (show ns[i]=ns[k] from e1)
    omega
  · simp at h
theorem xL {l:Fd} {t:Ty} (h:fdI l):∀ k,(b6 l t k).length≤l.length+k
 | 0=>by unfold b6;simp
 | k+1=>by
  have ih:=xL (t:=t) h k
  by_cases hk:k<(t.names.zip t.kids).length
  · have e:b6 l t (k+1)=aI (t.names.zip t.kids)[k].1 (t.names.zip t.kids)[k].2 (b6 l t k):=by
     unfold b6
     rw [List.take_succ_eq_append_getElem hk,List.foldl_append];rfl
    rw [e]
    have h2:=fU (t.names.zip t.kids)[k].1 (t.names.zip t.kids)[k].2 (b6 l t k)
    have h3:=congrArg List.length h2
    rw [List.length_map] at h3
    rw [h3]
    split <;> simp <;> omega
  · have e:b6 l t (k+1)=b6 l t k:=by unfold b6;rw [List.take_of_length_le oq,List.take_of_length_le oq]
    rw [e];omega
theorem EK {ns:List (List UInt8)} {ks:List Ty} (hl:ns.length=ks.length) (hn:ns.length<100000000) (hb:∀ i,(ns.getD i []).length<100000000):tL (dr [] (ed ns ks)):=by
 refine ⟨dv _ zq,fun p hp=>?_,?_⟩
 · rcases d7 hp with h|h
   · obtain ⟨i,hi,e⟩:=List.getElem_of_mem h.1
     have:=hb i
     rw [List.getD_eq_getElem?_getD,List.getElem?_eq_getElem (show i<ns.length from hi)] at this
     rw [← e]
     exact Nat.le_trans (Nat.le_of_lt this) dq
   · simp at h
 · have:=xL (t:=ed ns ks) AV ns.length
   rw [iQ (show (ed ns ks).names.length≤ns.length from Nat.le_refl _)] at this
   simp only [List.length_nil] at this
   omega
def cc (ns:List (List UInt8)) (ks:List Ty) (n:Int):Ty:=recT (dr [] (ed ns ks)) n
theorem wN {p:Prop} (h:p:=by simp [af.belO,Ty.v,hpS]):p:=h
theorem sn (ns:List (List UInt8)) (ks:List Ty) (lv:Int) (m:St) (hn:ns.length<100000000) (hnl:∀ i,(ns.getD i []).length<100000000) (hks:∀ i,(ks.getD i Ty.zero).sz<100000000) (hm:dn m) (hml:m.length<100000000) (hI:I5 m ns ks):ar cx 36 [.ptr 0 0,.imm (ns.map aa.str),.imm (ks.map Ty.enc)] (hpS lv m) (fun v h=>v=(.tup [Ty.v (cc ns ks (((m.length+1:Nat)):Int)),.int .i64 0])∧h=hpS lv (lP lv m (cc ns ks 0).names)):=by
 have hfd:=EK hI.len hn hnl
 have hfl:(cc ns ks 0).names.length<100000000:=yH hfd
 have hil:=hI.len
 refine am (cx:=cx) 76 2 [(ResultVar.cell 6 25),(ResultVar.tmp 7)] Tryz.func36 rfl rfl rfl rfl rfl zq ?_
 show wpA cx 76 2 (at_ c36 []) _ _ _
 apply qZ [(0,.ptr 0 0),(1,.imm (ns.map aa.str)),(2,.imm (ks.map Ty.enc))] [bS lv,mS m]
 apply qW 2 [(0,.ptr 0 0),(1,.imm (ns.map aa.str)),(2,.imm (ks.map Ty.enc)),(6,.ptr 2 0)] [bS lv,mS m,.box zC]
 apply ao
 apply qV 1
 refine qy (au (l:=ns) (enc:=aa.str) kq bi) ?_ ?_ ?_
 apply qr 1
 refine qy (au (l:=ks) (enc:=Ty.enc) kq ba) ?_ ?_ ?_
 apply qR 1 [(0,.ptr 0 0),(1,.imm (ns.map aa.str)),(2,.imm (ks.map Ty.enc)),(6,.ptr 2 0),(19,.bool (((ns.length:Nat):Int) != ((ks.length:Nat):Int)))] [bS lv,mS m,.box zC]
 by_cases hb1:((ns.length:Nat):Int)=((ks.length:Nat):Int)
 refine qf (x:=(((ns.length:Nat):Int) != ((ks.length:Nat):Int))) (bne_eq_false_iff_eq.2 hb1) ?_ ?_
 apply qK
 apply qz [(0,.ptr 0 0),(1,.imm (ns.map aa.str)),(2,.imm (ks.map Ty.enc)),(6,.ptr 2 0)]
 apply qW 2 [(0,.ptr 0 0),(1,.imm (ns.map aa.str)),(2,.imm (ks.map Ty.enc)),(6,.ptr 2 0),(8,.map 3)] [bS lv,mS m,.box zC,mF ([]:List (List UInt8×Ty))]
 apply qU 1 [(0,.ptr 0 0),(1,.imm (ns.map aa.str)),(2,.imm (ks.map Ty.enc)),(6,.ptr 2 0),(8,.map 3),(9,.bool false)]
 apply ao
 apply qV 1
 refine qy (au (l:=ns) (enc:=aa.str) kq bi) ?_ ?_ ?_
 apply qR 1 [(0,.ptr 0 0),(2,.imm (ks.map Ty.enc)),(6,.ptr 2 0),(8,.map 3),(9,.bool false),(22,.imm (ns.map aa.str)),(23,nI ns.length),(24,.int .i64 0)] [bS lv,mS m,.box zC,mF ([]:List (List UInt8×Ty))]
 apply qB 0
 refine bB (σ:=Nat) (fun k=>[(0,.ptr 0 0),(2,.imm (ks.map Ty.enc)),(6,.ptr 2 0),(8,.map 3),(9,.bool false),(22,.imm (ns.map aa.str)),(23,.int .i64 ((ns.length:Nat):Int)),(24,.int .i64 ((k:Nat):Int))]) (fun k=>[bS lv,mS m,.box zC,mF (b6 [] (ed ns ks) k)]) (fun k=>k≤ns.length) (fun k=>ns.length - k) 0 kq (by exact Nat.zero_le _) ⟨⟨kq,kq,kq,kq,kq,kq,kq,kq,trivial⟩,by simp [aQ,aa.bel],by simp,(Eq.trans (b:=[bS lv,mS m,.box zC,mF ([]:List (List UInt8×Ty))]) kq (by rfl)),by simp [af.belO]⟩ ?_
 rintro k hk
 apply qW 1 [(0,.ptr 0 0),(2,.imm (ks.map Ty.enc)),(6,.ptr 2 0),(8,.map 3),(9,.bool false),(22,.imm (ns.map aa.str)),(23,nI ns.length),(24,nI k),(25,.bool (decide (((k:Nat):Int)<((ns.length:Nat):Int))))] [bS lv,mS m,.box zC,mF (b6 [] (ed ns ks) k)]
 apply ao
 by_cases hb2:((k:Nat):Int)<((ns.length:Nat):Int)
 apply qt (decide_eq_true hb2)
 apply qK
 apply qz [(0,.ptr 0 0),(2,.imm (ks.map Ty.enc)),(6,.ptr 2 0),(8,.map 3),(9,.bool false),(22,.imm (ns.map aa.str)),(23,nI ns.length),(24,nI k)]
 apply ao
 apply qB 1
 apply qV 1
 refine qy (aA (k:=.i64) (l:=ns) (enc:=aa.str) (i:=((k:Nat):Int)) [] kq bi ty9 (fun _=>rfl) oq oq) ?_ ?_ ?_
 apply qR 3 [(0,.ptr 0 0),(2,.imm (ks.map Ty.enc)),(6,.ptr 2 0),(8,.map 3),(9,.bool false),(10,nI k),(11,.str (ns.getD k [])),(22,.imm (ns.map aa.str)),(23,nI ns.length),(24,nI k)] [bS lv,mS m,.box zC,mF (b6 [] (ed ns ks) k)]
 apply ao
 apply qV 1
 refine qc [.str (ns.getD k [])] (jX (ns.getD k []) (by have:=hnl k;omega)) ?_ ?_
 apply qr 2
 by_cases hb3:(cz 2 (ns.getD k []))=true
 refine qm [31,32] (x:=(!(cz 2 (ns.getD k [])))) (congrArg not (hb3)) ?_ ?_
 apply qr 3
 refine qy ((aA (k:=.i64) (l:=ks) (enc:=Ty.enc) (i:=((k:Nat):Int)) Ty.zero kq ba bV bk oq oq).trans (congrArg (fun cs=>some (aa.pimm cs 0,_)) (aU (ks.getD k Ty.zero)))) ?_ ?_ ?_
 apply qr 1
 refine aT (args:=[.ptr 0 0,aG (ks.getD k Ty.zero)]) (hs:=[bS lv,mS m]) (hs':=[bS lv,mS m]) (aO:=[.box zC,mF (b6 [] (ed ns ks) k)]) kq kq kq kq kq (qq (ks.getD k Ty.zero) (lv) m (hks _) oq) wN wN rfl wN wN kq ?_
 apply qR 2 [(0,.ptr 0 0),(2,.imm (ks.map Ty.enc)),(6,.ptr 2 0),(8,.map 3),(9,.bool false),(10,nI k),(11,.str (ns.getD k [])),(22,.imm (ns.map aa.str)),(23,nI ns.length),(24,nI k),(33,.ptr 0 0),(34,.imm (ks.map Ty.enc)),(35,nI k),(36,.pimm [.int .i64 ((ks.getD k Ty.zero).kind),.str (ks.getD k Ty.zero).name,.int .i64 ((ks.getD k Ty.zero).n),.imm ((ks.getD k Ty.zero).names.map aa.str),.imm ((ks.getD k Ty.zero).kids.map Ty.enc)] 0),(37,aG (ks.getD k Ty.zero)),(38,.bool (cT m (ks.getD k Ty.zero))),(39,.bool (!(cT m (ks.getD k Ty.zero)))),(40,.bool (!(cT m (ks.getD k Ty.zero))))] [bS lv,mS m,.box zC,mF (b6 [] (ed ns ks) k)]
 by_cases hb4:(cT m (ks.getD k Ty.zero))=true
 refine qf (x:=(!(cT m (ks.getD k Ty.zero)))) (congrArg not (hb4)) ?_ ?_
 apply qK
 apply qz [(0,.ptr 0 0),(2,.imm (ks.map Ty.enc)),(6,.ptr 2 0),(8,.map 3),(9,.bool false),(10,nI k),(11,.str (ns.getD k [])),(22,.imm (ns.map aa.str)),(23,nI ns.length),(24,nI k),(33,.ptr 0 0),(34,.imm (ks.map Ty.enc)),(35,nI k),(36,.pimm [.int .i64 ((ks.getD k Ty.zero).kind),.str (ks.getD k Ty.zero).name,.int .i64 ((ks.getD k Ty.zero).n),.imm ((ks.getD k Ty.zero).names.map aa.str),.imm ((ks.getD k Ty.zero).kids.map Ty.enc)] 0),(37,aG (ks.getD k Ty.zero)),(38,.bool (cT m (ks.getD k Ty.zero))),(39,.bool (!(cT m (ks.getD k Ty.zero))))]
 apply qV 2
 rcases hm5:ai (ns.getD k []) (b6 [] (ed ns ks) k) with _|x5
 refine qy (eO (ok:=true) (o:=3) (ek:=aa.str) (ev:=Ty.v) (l:=(b6 [] (ed ns ks) k)) (k:=(ns.getD k [])) qF hm5 kq tz ty9 rfl bV kq) ?_ ?_ ?_
 apply qR 6 [(0,.ptr 0 0),(2,.imm (ks.map Ty.enc)),(6,.ptr 2 0),(8,.map 3),(9,.bool false),(10,nI k),(11,.str (ns.getD k [])),(13,.bool false),(22,.imm (ns.map aa.str)),(23,nI ns.length),(24,nI k),(33,.ptr 0 0),(34,.imm (ks.map Ty.enc)),(35,nI k),(36,.pimm [.int .i64 ((ks.getD k Ty.zero).kind),.str (ks.getD k Ty.zero).name,.int .i64 ((ks.getD k Ty.zero).n),.imm ((ks.getD k Ty.zero).names.map aa.str),.imm ((ks.getD k Ty.zero).kids.map Ty.enc)] 0),(37,aG (ks.getD k Ty.zero)),(38,.bool (cT m (ks.getD k Ty.zero))),(39,.bool (!(cT m (ks.getD k Ty.zero))))] [bS lv,mS m,.box zC,mF (b6 [] (ed ns ks) k),.box zC]
 apply qU 5 [(0,.ptr 0 0),(2,.imm (ks.map Ty.enc)),(6,.ptr 2 0),(8,.map 3),(9,.bool false),(10,nI k),(11,.str (ns.getD k [])),(22,.imm (ns.map aa.str)),(23,nI ns.length),(24,nI k),(33,.ptr 0 0),(34,.imm (ks.map Ty.enc)),(35,nI k),(36,.pimm [.int .i64 ((ks.getD k Ty.zero).kind),.str (ks.getD k Ty.zero).name,.int .i64 ((ks.getD k Ty.zero).n),.imm ((ks.getD k Ty.zero).names.map aa.str),.imm ((ks.getD k Ty.zero).kids.map Ty.enc)] 0),(37,aG (ks.getD k Ty.zero)),(38,.bool (cT m (ks.getD k Ty.zero))),(39,.bool (!(cT m (ks.getD k Ty.zero)))),(50,.bool false)]
 apply qo
 apply qr 4
 refine qy ((aA (k:=.i64) (l:=ks) (enc:=Ty.enc) (i:=((k:Nat):Int)) Ty.zero kq ba bV bk oq oq).trans (congrArg (fun cs=>some (aa.pimm cs 0,_)) (aU (ks.getD k Ty.zero)))) ?_ ?_ ?_
 apply qr 1
 refine bR (args:=[aG (ks.getD k Ty.zero)]) kq kq kq kq (lR (ks.getD k Ty.zero) (hks _)) (by simp [Ty.v,bo,Occ.v]) (by simp [Ty.v]) (by simp [Ty.v,bh]) ?_
 refine qY (dC (o:=3) (ek:=aa.str) (ev:=Ty.v) (l:=(b6 [] (ed ns ks) k)) (k:=(ns.getD k [])) (x:=(ks.getD k Ty.zero)) qF kq tz ty9 rfl kq kq) ?_ ?_ ?_
 apply qe
 apply aj
 apply ab
 apply qZ [(0,.ptr 0 0),(2,.imm (ks.map Ty.enc)),(6,.ptr 2 0),(8,.map 3),(9,.bool false),(22,.imm (ns.map aa.str)),(23,nI ns.length),(24,nI k),(33,.ptr 0 0),(34,.imm (ks.map Ty.enc)),(35,nI k),(36,.pimm [.int .i64 ((ks.getD k Ty.zero).kind),.str (ks.getD k Ty.zero).name,.int .i64 ((ks.getD k Ty.zero).n),.imm ((ks.getD k Ty.zero).names.map aa.str),.imm ((ks.getD k Ty.zero).kids.map Ty.enc)] 0),(37,aG (ks.getD k Ty.zero)),(38,.bool (cT m (ks.getD k Ty.zero))),(39,.bool (!(cT m (ks.getD k Ty.zero)))),(50,.bool false)] [bS lv,mS m,.box zC,mF (aI (ns.getD k []) (ks.getD k Ty.zero) (b6 [] (ed ns ks) k)),.box zC]
 apply qo
 refine qy (aN (a:=((k:Nat):Int)) (b:=1) kq oq oq) ?_ ?_ ?_
 apply qr 1
 apply qe
 refine ab ⟨k+1,?_,?_,⟨⟨kq,kq,kq,kq,kq,kq,kq,kq,trivial⟩,by simp [aQ,aa.bel],by simp,(Eq.trans (b:=[bS lv,mS m,.box zC,mF (aI (ns.getD k []) (ks.getD k Ty.zero) (b6 [] (ed ns ks) k))]) kq (by rw [← tA (l:=[]) (t:=ed ns ks) (k:=k) (show k<ns.length by omega) hI.len];rfl)),by simp [af.belO]⟩⟩
 · omega
 · omega
 iterate 18 kernel_rfl
 · exact absurd ((hm5).symm.trans (F9 hI.len hI.nd oq)) zq
 iterate 4 kernel_rfl
 · exfalso;exact hb4 (hI.has k oq)
 iterate 6 kernel_rfl
 · exfalso;exact hb3 (hI.low k oq)
 iterate 14 kernel_rfl
 apply qf (decide_eq_false hb2)
 refine bn 0 kq kq ?_
 apply ae
 apply ae
 apply ay
 apply ab
 apply qz [(0,.ptr 0 0),(6,.ptr 2 0),(8,.map 3),(9,.bool false)]
 apply ao
 apply qU 1 [(0,.ptr 0 0),(6,.ptr 2 0),(8,.map 3),(60,.bool false)]
 refine d5 kq kq ?_
 apply qK
 apply qz [(0,.ptr 0 0),(6,.ptr 2 0),(8,.map 3)]
 apply qV 1
 refine dD (args:=[.map 3,.int .i64 0]) (v:=Ty.v (cc ns ks 0)) (h':=[bS lv,mS m,.box zC,mF (b6 [] (ed ns ks) k)]) [bS lv,mS m,.box zC,mF (b6 [] (ed ns ks) k)] kq kq kq kq kq (kC [3] (yI (dr [] (ed ns ks)) 0 hfd) rfl dq zq (by simp [af.belO]) (by rw [← iQ (l:=[]) (t:=ed ns ks) (k:=k) (show ns.length≤k by omega)];simp [dZ,af.ren,bg,gi]) rfl (by simp [b4,aa.ren,bg]) (by simp [Ty.v,aa.ren,b4,cc]) (by rw [← iQ (l:=[]) (t:=ed ns ks) (k:=k) (show ns.length≤k by omega)];simp [dX,cQ,dZ,af.ren,b4,aa.ren,bg,gi])) ?_
 apply qR 2 [(0,.ptr 0 0),(6,.ptr 2 0),(14,.ptr 4 0)] [bS lv,mS m,.box zC,mF (b6 [] (ed ns ks) k),(cc ns ks 0).bx]
 apply ao
 refine cR cxM kq aJ (bq ?_)
 apply qu 7
 refine d4 (args:=[.imm ((cc ns ks 0).names.map aa.str)]) kq kq kq kq kq (DD ((cc ns ks 0).names) oq) (by intro _;simp [Ty.v,bo,Occ.v]) (by simp [Ty.v]) (by simp [Ty.v,bh]) ?_
 apply qu 1
 refine cC (args:=[.ptr 0 0,.agg [.bool true,.int .i64 (lv),.bool false,.int .i64 0,.str [],.int .i64 0,.full [],.full [],.imm (((cc ns ks 0).names).map aa.str)]]) (hs:=[bS lv,mS m]) (hs':=[bS lv,mS (lP (lv) m ((cc ns ks 0).names))]) (aO:=[.box zC,mF (b6 [] (ed ns ks) k),(cc ns ks 0).bx]) (L:=[0,1]) kq kq kq kq kq kq (xd (lv) (lv) ((cc ns ks 0).names) m oq) wN wN rfl wN wN kq rfl rfl ?_
 apply qu 2
 refine cq kq ⟨kq,?_⟩
 apply ab
 apply qZ [(6,.ptr 2 0),(14,.ptr 4 0)] [bS lv,mS (lP (lv) m ((cc ns ks 0).names)),.box zC,mF (b6 [] (ed ns ks) k),.box [.int .i64 ((cc ns ks 0).kind),.str (cc ns ks 0).name,nI (m.length+1),.imm ((cc ns ks 0).names.map aa.str),.imm ((cc ns ks 0).kids.map Ty.enc)]]
 apply qW 3 [(6,.ptr 2 0),(7,.int .i64 0)] [bS lv,mS (lP (lv) m ((cc ns ks 0).names)),.box [.int .i64 ((cc ns ks 0).kind),.str (cc ns ks 0).name,nI (m.length+1),.imm ((cc ns ks 0).names.map aa.str),.imm ((cc ns ks 0).kids.map Ty.enc)],mF (b6 [] (ed ns ks) k),.box [.int .i64 ((cc ns ks 0).kind),.str (cc ns ks 0).name,nI (m.length+1),.imm ((cc ns ks 0).names.map aa.str),.imm ((cc ns ks 0).kids.map Ty.enc)]]
 refine a8 kq ?_
 refine aM (l:=[.agg [.int .i64 ((cc ns ks 0).kind),.str (cc ns ks 0).name,.int .i64 (((m.length+1):Nat):Int),.imm ((cc ns ks 0).names.map aa.str),.imm ((cc ns ks 0).kids.map Ty.enc)],.int .i64 0]) iq kq (by simp [aK,Ty.v,aa.frz,bf,cc,recT]) (by simp [aK]) (by simp [aK]) ?_ ?_
 refine Eq.trans (b:=[bS lv,mS (lP (lv) m ((cc ns ks 0).names))]) kq ?_
 · rfl
 · simp [af.belO,Ty.v,hpS]
 iterate 28 kernel_rfl
 · exfalso;have:=hI.len;omega
 iterate 10 kernel_rfl
structure DH (m:St) (ns:List (List UInt8)) (ks:List Ty):Prop where
 n:ns.length<100000000
 nl:∀ i,(ns.getD i []).length<100000000
 kz:∀ i,(ks.getD i Ty.zero).sz<100000000
 sm:dn m
 ml:m.length<100000000
 ok:I5 m ns ks
abbrev BF:=St→Ty→Nat→Option (Ty×St)
def eE (B:BF) (l:List Int) (t:Ty) (p:Int) (q:Nat):Nat→St→Option (List (List UInt8)×List Ty×St)
 | 0,S=>some ([],[],S)
 | k+1,S=>match eE B l t p q k S with
  | some (ns,ks,T)=>if p > 3∨ap l (q+5+k) 2=0 then (match B T (t.kids.getD k Ty.zero) (q+2+2 * k) with
   | some (r,T')=>some (ns++[t.names.getD k []],ks++[r],T')
   | none=>none) else some (ns,ks,T)
  | none=>none
open Classical in
noncomputable def dY (l:List Int) (lv:Int):Nat→BF
 | 0,_,_,_=>none
 | n+1,S,t,q =>
  if ap l q 6=0 then (if S.length<100000000 then some (.mk 6 [] ((S.length+1:Nat):Int) [] [],ju lv S) else none)
  else if t.kind=4∧t.kids.length=1 then (match dY l lv n S (t.kids.getD 0 Ty.zero) (q+1) with
   | some (r,S')=>some (lsT r,S')
   | none=>none)
  else if ¬ t.kind=5 then some (t,S)
  else if ¬ t.names.length=t.kids.length then none
  else match eE (dY l lv n) l t (ap l q 6) q t.names.length S with
   | some (ns,ks,S')=>if ap l q 6 > 4 then some (.mk 5 [] 0 ns ks,S') else if DH S' ns ks then some (cc ns ks ((S'.length+1:Nat):Int),lP lv S' (cc ns ks 0).names) else none
   | none=>none
theorem yD {l:List Int} {lv:Int} {n q:Nat} {S S':St} {t r:Ty} (h:dY l lv n S t q=some (r,S')):∃ k,n=k+1∧(ap l q 6=0→S.length<100000000∧Ty.mk 6 [] ((S.length+1:Nat):Int) [] []=r∧ju lv S=S') ∧
 (¬ ap l q 6=0→(t.kind=4∧t.kids.length=1→∃ r0,dY l lv k S (t.kids.getD 0 Ty.zero) (q+1)=some (r0,S')∧lsT r0=r)∧(¬ (t.kind=4∧t.kids.length=1)→(¬ t.kind=5→t=r∧S=S') ∧
  (t.kind=5→t.names.length=t.kids.length∧∃ ns ks T,eE (dY l lv k) l t (ap l q 6) q t.names.length S=some (ns,ks,T)∧(ap l q 6 > 4→Ty.mk 5 [] 0 ns ks=r∧T=S')∧(¬ ap l q 6 > 4→DH T ns ks∧cc ns ks ((T.length+1:Nat):Int)=r∧lP lv T (cc ns ks 0).names=S')))):=by
 cases n with
 | zero=>simp [dY] at h
 | succ k =>
  rw [dY] at h
  refine ⟨k,rfl,fun h0=>?_,fun h0=>⟨fun h1=>?_,fun h1=>⟨fun h2=>?_,fun h2=>?_⟩⟩⟩
  · rw [if_pos h0] at h
    split at h <;> cases h
    rename_i hs;exact ⟨hs,rfl,rfl⟩
  · rw [if_neg h0,if_pos h1] at h
    split at h <;> cases h
    rename_i r0 S0 hb;exact ⟨_,hb,rfl⟩
  · rw [if_neg h0,if_neg h1,if_pos h2] at h;cases h;exact ⟨rfl,rfl⟩
  · rw [if_neg h0,if_neg h1,if_neg (fun hc=>hc h2)] at h
    by_cases hl:t.names.length=t.kids.length
    · rw [if_neg (fun hc=>hc hl)] at h
      split at h <;> try (cases h;done)
      rename_i ns ks T hk
      refine ⟨hl,ns,ks,T,hk,fun h4=>?_,fun h4=>?_⟩
      · rw [if_pos h4] at h;cases h;exact ⟨rfl,rfl⟩
      · rw [if_neg h4] at h
        split at h <;> cases h
        rename_i hg;exact ⟨hg,rfl,rfl⟩
    · rw [if_pos hl] at h;cases h
theorem xP {B:BF} {l:List Int} {t:Ty} {p:Int} {q:Nat} {S:St}:∀ (j k:Nat),(eE B l t p q (k+j) S).isSome=true→(eE B l t p q k S).isSome=true
 | 0,k,h=>h
 | j+1,k,h=>by
  refine xP j k ?_
  rw [← Nat.add_assoc,eE] at h
  split at h
  · rename_i e;rw [e];rfl
  · cases h
theorem kK {B:BF} {l:List Int} {t:Ty} {p:Int} {q k:Nat} {S T:St} {ns:List (List UInt8)} {ks:List Ty} {R:List (List UInt8)×List Ty×St} (hR:eE B l t p q t.names.length S=some R) (h:eE B l t p q k S=some (ns,ks,T)) (hk:k<t.names.length) (hc:p > 3∨ap l (q+5+k) 2=0) :
 ∃ r T',B T (t.kids.getD k Ty.zero) (q+2+2 * k)=some (r,T')∧eE B l t p q (k+1) S=some (ns++[t.names.getD k []],ks++[r],T'):=by
 have hs:=xP (B:=B) (l:=l) (t:=t) (p:=p) (q:=q) (S:=S) (t.names.length - (k+1)) (k+1) (by rw [show k+1+(t.names.length - (k+1))=t.names.length by omega,hR];rfl)
 rw [eE,h] at hs ⊢
 simp only [if_pos hc] at hs ⊢
 split at hs
 · rename_i r T' hb;exact ⟨r,T',hb,rfl⟩
 · cases hs
theorem Ds {B:BF} {l:List Int} {t:Ty} {p:Int} {q k:Nat} {S T:St} {ns:List (List UInt8)} {ks:List Ty} (h:eE B l t p q k S=some (ns,ks,T)) (hc:¬ (p > 3∨ap l (q+5+k) 2=0)):eE B l t p q (k+1) S=some (ns,ks,T):=by
 rw [eE,h];simp only [if_neg hc]
theorem nH {B:BF} {l:List Int} {t:Ty} {p:Int} {q:Nat} {S:St}:∀ {k:Nat} {ns:List (List UInt8)} {ks:List Ty} {T:St},eE B l t p q k S=some (ns,ks,T)→ns.length≤k∧ks.length≤k
 | 0,ns,ks,T,h=>by cases h;simp
 | k+1,ns,ks,T,h=>by
  rw [eE] at h
  split at h <;> try (cases h;done)
  rename_i hb
  have ih:=nH hb
  split at h
  · split at h <;> cases h
    simp only [List.length_append,List.length_cons,List.length_nil];omega
  · cases h;omega
theorem pc {t:Ty} {k:Nat} (hk:k<t.names.length) (hkk:k<t.kids.length):(t.kids.getD k Ty.zero).sz+t.names.length+2≤t.sz:=by
 have e:=gT t
 have h1:=tG t.names
 have h2:=mP t.kids k hkk
 omega
noncomputable def c22:Code:=aB Tryz.f22
theorem k7 {p:Prop} (h:p:=by simp only [List.length_append,List.length_cons,List.length_nil];omega):p:=h
theorem ej {p:Prop} (h:p:=by simp [af.belO,hpS,Ty.v]):p:=h
theorem If {p:Prop} (h:p:=by obtain rfl:k=t.names.length:=oq;rw [hKF] at hK;cases hK;have e:=hF1 oq;rw [← e.1];simp [aK,Ty.v,aa.frz,bf,Ty.enc_v,lsT,Ty.kind,Ty.name,Ty.n,Ty.names,Ty.kids]):p:=h
theorem lk {p:Prop} (h:p:=by simp [aK]):p:=h
theorem I9 {p:Prop} (h:p:=by obtain rfl:k=t.names.length:=oq;rw [hKF] at hK;cases hK;have e:=hF2 oq;rw [← e.2.1];simp [aK,aa.frz,bf,Ty.v]):p:=h
theorem Jp {p:Prop} (h:p:=by have e:=((u2 oq).2 oq).1 aq;rw [← e.1];simp [aK,aa.frz,bf,Ty.v]):p:=h
theorem EX {p:Prop} (h:p:=by simp [Ty.v,bo,Occ.v]):p:=h
theorem Fl {p:Prop} (h:p:=by simp [Ty.v,bh]):p:=h
theorem Hp (l:List Int) (n q:Nat) (t r:Ty) (lv:Int) (m m':St) (hl:sg l) (hs:t.sz<100000000) (hq:q+3 * t.sz<1000000000) (hb:dY l lv n m t q=some (r,m')):ar cx 22 [.ptr 0 0,Ty.v t,.imm (l.map iE),.int .i64 ((q:Nat):Int)] (hpS lv m) (fun v h=>v=(Ty.v r)∧h=hpS lv m'):=by
 induction n generalizing m m' t q r with
 | zero=>simp [dY] at hb
 | succ n ih =>
 have ihB:∀ (S T:St) (x:Ty) (z:Nat) (r:Ty),x.sz<100000000→z+3 * x.sz<1000000000→dY l lv n S x z=some (r,T)→ar cx 22 [.ptr 0 0,Ty.v x,.imm (l.map iE),.int .i64 ((z:Nat):Int)] (hpS lv S) (fun v h=>v=r.v∧h=hpS lv T):=fun S T x z r h1 h2 h3=>ih z x r S T h1 h2 h3
 obtain ⟨n0,en,u1,u2⟩:=yD hb
 obtain rfl:n=n0:=by omega
 have hr00:∃ r0,¬ ap l q 6=0→t.kind=4∧t.kids.length=1→dY l lv n m (t.kids.getD 0 Ty.zero) (q+1)=some (r0,m')∧lsT r0=r:=by
  by_cases hc:¬ ap l q 6=0∧t.kind=4∧t.kids.length=1
  · obtain ⟨r0,h0⟩:=(u2 hc.1).1 hc.2;exact ⟨r0,fun _ _=>h0⟩
  · exact ⟨Ty.zero,fun h1 h2=>absurd ⟨h1,h2⟩ hc⟩
 obtain ⟨r0,hr0⟩:=hr00
 have hz1:=bP t
 have hz2:=cF t
 have hz3:∀ k,k<t.kids.length→(t.kids.getD k Ty.zero).sz<t.sz:=fun k hk=>cu t k hk
 have hz4:=hz3 0
 have hpk:=d6 l q 6 dq
 refine am (cx:=cx) 100 2 [(ResultVar.cell 8 25)] Tryz.func22 rfl rfl rfl rfl rfl zq ?_
 show wpA cx 100 2 (at_ c22 []) _ _ _
 apply qZ [(0,.ptr 0 0),(1,Ty.v t),(2,.imm (l.map iE)),(3,nI q)] [bS lv,mS m]
 apply qW 2 [(0,.ptr 0 0),(2,.imm (l.map iE)),(3,nI q),(5,.ptr 2 0),(8,.ptr 3 0)] [bS lv,mS m,t.bx,.box zC]
 apply qV 2
 refine bR (args:=[.imm (l.map iE),.int .i64 ((q:Nat):Int),.int .i64 6]) kq kq kq kq (iN l q 6 oq oq) EX (by simp [Ty.v]) Fl ?_
 have hv1:=d6 l q 6 dq
 apply qR 1 [(0,.ptr 0 0),(2,.imm (l.map iE)),(3,nI q),(5,.ptr 2 0),(8,.ptr 3 0),(9,.int .i64 (ap l q 6))] [bS lv,mS m,t.bx,.box zC]
 apply ao
 apply qU 2 [(0,.ptr 0 0),(2,.imm (l.map iE)),(3,nI q),(5,.ptr 2 0),(8,.ptr 3 0),(9,.int .i64 (ap l q 6)),(19,.bool ((ap l q 6)==0))]
 by_cases hb2:(ap l q 6)=0
 apply qt (beq_iff_eq.2 hb2)
 apply qV 1
 refine aT (args:=[.ptr 0 0]) (hs:=[bS lv,mS m]) (hs':=[bS lv,mS (aI ((((m.length+1):Nat):Int)) ⟨false,(lv),false,Ty.zero,[]⟩ m)]) (aO:=[t.bx,.box zC]) kq kq kq kq kq (uV (lv) m (u1 oq).1) ej ej rfl ej ej kq ?_
 refine qR 1 [(8,.ptr 3 0)] [bS lv,mS (aI ((((m.length+1):Nat):Int)) ⟨false,(lv),false,Ty.zero,[]⟩ m),t.bx,.box [.int .i64 6,.str [],nI (m.length+1),.imm [],.imm []]] ?_ ?_
 refine a8 kq ?_
 apply aR
 refine aM (l:=[.agg [.int .i64 6,.str [],.int .i64 (((m.length+1):Nat):Int),.imm [],.imm []]]) iq kq (by have e:=(u1 oq).2;rw [← e.1];simp [aK,aa.frz,bf,Ty.v]) lk lk ?_ ?_
 refine Eq.trans (b:=[bS lv,mS (aI ((((m.length+1):Nat):Int)) ⟨false,(lv),false,Ty.zero,[]⟩ m)]) kq ?_
 · have e:=(u1 oq).2
   rw [← e.2];rfl
 · simp [af.belO,hpS,Ty.v]
 iterate 3 kernel_rfl
 apply qf (beq_eq_false_iff_ne.2 hb2)
 apply qK
 apply qz [(0,.ptr 0 0),(2,.imm (l.map iE)),(3,nI q),(5,.ptr 2 0),(8,.ptr 3 0),(9,.int .i64 (ap l q 6))]
 apply ao
 apply qV 4
 by_cases hb3:(t.kind)=4
 apply qm [24,25] (beq_iff_eq.2 hb3)
 apply qr 2
 refine qy (au (l:=t.kids) (enc:=Ty.enc) kq ba) ?_ ?_ ?_
 apply qR 2 [(0,.ptr 0 0),(2,.imm (l.map iE)),(3,nI q),(5,.ptr 2 0),(8,.ptr 3 0),(9,.int .i64 (ap l q 6)),(30,.bool (((t.kids.length:Nat):Int)==1))] [bS lv,mS m,t.bx,.box zC]
 by_cases hb4:((t.kids.length:Nat):Int)=1
 apply qt (beq_iff_eq.2 hb4)
 apply qV 3
 refine qy ((aA (k:=.i64) (l:=t.kids) (enc:=Ty.enc) (i:=0) Ty.zero kq ba bV bk oq oq).trans (congrArg (fun cs=>some (aa.pimm cs 0,_)) (aU (t.kids.getD 0 Ty.zero)))) ?_ ?_ ?_
 apply qr 3
 refine qy (aN (a:=((q:Nat):Int)) (b:=1) kq oq oq) ?_ ?_ ?_
 refine aT (args:=[.ptr 0 0,aG (t.kids.getD 0 Ty.zero),.imm (l.map iE),.int .i64 (((q+1):Nat):Int)]) (hs:=[bS lv,mS m]) (hs':=[bS lv,mS m']) (aO:=[t.bx,.box zC]) kq kq kq kq kq (ihB m m' (t.kids.getD 0 Ty.zero) (q+1) r0 oq oq (hr0 oq oq).1) ej ej rfl ej ej kq ?_
 refine bR (args:=[Ty.v r0]) kq kq kq kq (Cy r0) EX (by simp [Ty.v]) Fl ?_
 apply qR 1 [(8,.ptr 3 0)] [bS lv,mS m',t.bx,(lsT r0).bx]
 refine a8 kq ?_
 apply aR
 refine aM (l:=[aG (lsT r0)]) iq kq (by rw [← (hr0 oq oq).2];simp [aK,aa.frz,bf,Ty.v]) lk lk ?_ ?_
 refine Eq.trans (b:=[bS lv,mS m']) kq ?_
 · rfl
 · simp [af.belO,hpS,Ty.v]
 iterate 8 kernel_rfl
 apply qf (beq_eq_false_iff_ne.2 hb4)
 apply qK
 apply qz [(0,.ptr 0 0),(2,.imm (l.map iE)),(3,nI q),(5,.ptr 2 0),(8,.ptr 3 0),(9,.int .i64 (ap l q 6))]
 apply ao
 apply qU 3 [(0,.ptr 0 0),(2,.imm (l.map iE)),(3,nI q),(5,.ptr 2 0),(8,.ptr 3 0),(9,.int .i64 (ap l q 6)),(43,.bool ((t.kind) != 5))]
 by_cases hb5:(t.kind)=5
 refine qf (x:=((t.kind) != 5)) (bne_eq_false_iff_eq.2 hb5) ?_ ?_
 apply qK
 apply qz [(0,.ptr 0 0),(2,.imm (l.map iE)),(3,nI q),(5,.ptr 2 0),(8,.ptr 3 0),(9,.int .i64 (ap l q 6))]
 apply qU 1 [(0,.ptr 0 0),(2,.imm (l.map iE)),(3,nI q),(5,.ptr 2 0),(8,.ptr 3 0),(9,.int .i64 (ap l q 6)),(10,.full [])]
 apply qU 1 [(0,.ptr 0 0),(2,.imm (l.map iE)),(3,nI q),(5,.ptr 2 0),(8,.ptr 3 0),(9,.int .i64 (ap l q 6)),(10,.full []),(11,.full [])]
 apply ao
 apply qU 1 [(0,.ptr 0 0),(2,.imm (l.map iE)),(3,nI q),(5,.ptr 2 0),(8,.ptr 3 0),(9,.int .i64 (ap l q 6)),(10,.full []),(11,.full []),(12,.int .i64 0)]
 obtain ⟨hlen,nsF,ksF,SF,hKF,hF1,hF2⟩:=((u2 oq).2 oq).2 oq
 apply qz [(0,.ptr 0 0),(2,.imm (l.map iE)),(3,nI q),(5,.ptr 2 0),(8,.ptr 3 0),(9,.int .i64 (ap l q 6)),(10,.full []),(11,.full []),(12,.int .i64 0)]
 apply qB 0
 refine rK 10 1 dq kq ?_
 refine rK 11 5 dq kq ?_
 apply qZ [(0,.ptr 0 0),(2,.imm (l.map iE)),(3,nI q),(5,.ptr 2 0),(8,.ptr 3 0),(9,.int .i64 (ap l q 6)),(10,.own 4 0 0),(11,.own 5 0 0),(12,.int .i64 0)] [bS lv,mS m,t.bx,.box zC,.arr 1 (([]:List (List UInt8)).map aa.str) 0,.arr 5 (([]:List (Ty)).map Ty.enc) 0]
 refine bB (σ:=(Nat×List (List UInt8)×List Ty×St)) (fun ⟨k,ns,ks,S⟩=>[(0,.ptr 0 0),(2,.imm (l.map iE)),(3,.int .i64 ((q:Nat):Int)),(5,.ptr 2 0),(8,.ptr 3 0),(9,.int .i64 (ap l q 6)),(10,.own 4 0 ns.length),(11,.own 5 0 ks.length),(12,.int .i64 ((k:Nat):Int))]) (fun ⟨k,ns,ks,S⟩=>[bS lv,mS S,t.bx,.box zC,.arr 1 (ns.map aa.str) 0,.arr 5 (ks.map Ty.enc) 0]) (fun ⟨k,ns,ks,S⟩=>k≤t.names.length∧eE (dY l lv n) l t (ap l q 6) q k m=some (ns,ks,S)) (fun ⟨k,ns,ks,S⟩=>t.names.length - k) (0,([]:List (List UInt8)),([]:List Ty),m) kq (by exact ⟨Nat.zero_le _,rfl⟩) ⟨⟨kq,kq,kq,kq,kq,kq,kq,kq,kq,trivial⟩,by simp [aQ,aa.bel],by simp,kq,by simp [af.belO,bL,Ty.enc_v]⟩ ?_
 rintro ⟨k,ns,ks,S⟩ ⟨hk,hK⟩
 have hbl:=nH hK
 apply qZ [(0,.ptr 0 0),(2,.imm (l.map iE)),(3,nI q),(5,.ptr 2 0),(8,.ptr 3 0),(9,.int .i64 (ap l q 6)),(10,.own 4 0 ns.length),(11,.own 5 0 ks.length),(12,nI k)] [bS lv,mS S,t.bx,.box zC,.arr 1 (ns.map aa.str) 0,.arr 5 (ks.map Ty.enc) 0]
 apply ao
 apply qV 3
 refine qy (au (l:=t.names) (enc:=aa.str) kq bi) ?_ ?_ ?_
 apply qR 1 [(0,.ptr 0 0),(2,.imm (l.map iE)),(3,nI q),(5,.ptr 2 0),(8,.ptr 3 0),(9,.int .i64 (ap l q 6)),(10,.own 4 0 ns.length),(11,.own 5 0 ks.length),(12,nI k),(49,.bool (decide (((k:Nat):Int)<((t.names.length:Nat):Int))))] [bS lv,mS S,t.bx,.box zC,.arr 1 (ns.map aa.str) 0,.arr 5 (ks.map Ty.enc) 0]
 by_cases hb6:((k:Nat):Int)<((t.names.length:Nat):Int)
 apply qt (decide_eq_true hb6)
 apply qK
 apply qz [(0,.ptr 0 0),(2,.imm (l.map iE)),(3,nI q),(5,.ptr 2 0),(8,.ptr 3 0),(9,.int .i64 (ap l q 6)),(10,.own 4 0 ns.length),(11,.own 5 0 ks.length),(12,nI k)]
 apply ao
 apply qB 1
 apply qV 3
 by_cases hb7:(ap l q 6) > 3
 apply qm [53,54] (decide_eq_true hb7)
 apply qR 8 [(0,.ptr 0 0),(2,.imm (l.map iE)),(3,nI q),(5,.ptr 2 0),(8,.ptr 3 0),(9,.int .i64 (ap l q 6)),(10,.own 4 0 ns.length),(11,.own 5 0 ks.length),(12,nI k),(55,.tup []),(56,.tup []),(57,.tup []),(58,.tup []),(59,.tup []),(60,.tup []),(61,.tup []),(62,.bool true)] [bS lv,mS S,t.bx,.box zC,.arr 1 (ns.map aa.str) 0,.arr 5 (ks.map Ty.enc) 0]
 refine cw kq kq ?_
 apply qV 4
 refine qy (aA (k:=.i64) (l:=t.names) (enc:=aa.str) (i:=((k:Nat):Int)) [] kq bi ty9 (fun _=>rfl) oq oq) ?_ ?_ ?_
 apply qr 2
 refine qY (bc (o:=4) (len:=ns.length) (l:=ns) (xs:=[(t.names.getD k [])]) (enc:=aa.str) (sz:=1) (fr:=0) (x:=(.full [.str (t.names.getD k [])])) kq bi ty9 bi rfl kq rfl rfl kq ⟨by decide,by kernel_rfl⟩ (fun _=>rfl) k7 k7) ?_ ?_ ?_
 apply qR 1 [(0,.ptr 0 0),(2,.imm (l.map iE)),(3,nI q),(5,.ptr 2 0),(8,.ptr 3 0),(9,.int .i64 (ap l q 6)),(10,.own 4 0 (ns++[(t.names.getD k [])]).length),(11,.own 5 0 ks.length),(12,nI k),(55,.tup []),(56,.tup []),(57,.tup []),(58,.tup []),(59,.tup []),(60,.tup []),(61,.tup [])] [bS lv,mS S,t.bx,.box zC,.arr 1 ((ns++[(t.names.getD k [])]).map aa.str) 0,.arr 5 (ks.map Ty.enc) 0]
 obtain ⟨rB,SB,hB,hB2⟩:=kK hKF hK oq oq
 have hstp:=pc (t:=t) (k:=k) oq oq
 apply qz [(0,.ptr 0 0),(2,.imm (l.map iE)),(3,nI q),(5,.ptr 2 0),(8,.ptr 3 0),(9,.int .i64 (ap l q 6)),(10,.own 4 0 (ns++[(t.names.getD k [])]).length),(11,.own 5 0 ks.length),(12,nI k),(55,.tup []),(56,.tup []),(57,.tup []),(58,.tup []),(59,.tup []),(60,.tup []),(61,.tup [])]
 apply qo
 apply qr 5
 refine qy ((aA (k:=.i64) (l:=t.kids) (enc:=Ty.enc) (i:=((k:Nat):Int)) Ty.zero kq ba bV bk oq oq).trans (congrArg (fun cs=>some (aa.pimm cs 0,_)) (aU (t.kids.getD k Ty.zero)))) ?_ ?_ ?_
 apply qr 3
 refine qy (aN (a:=((q:Nat):Int)) (b:=2) kq oq oq) ?_ ?_ ?_
 apply qr 1
 refine qy (xF (a:=2) (b:=((k:Nat):Int)) kq oq oq) ?_ ?_ ?_
 refine qy (aN (a:=(((q+2):Nat):Int)) (b:=(((2 * k):Nat):Int)) kq oq oq) ?_ ?_ ?_
 refine aT (args:=[.ptr 0 0,aG (t.kids.getD k Ty.zero),.imm (l.map iE),.int .i64 ((((q+2)+(2 * k)):Nat):Int)]) (hs:=[bS lv,mS S]) (hs':=[bS lv,mS SB]) (aO:=[t.bx,.box zC,.arr 1 ((ns++[(t.names.getD k [])]).map aa.str) 0,.arr 5 (ks.map Ty.enc) 0]) kq kq kq kq kq (ihB S SB (t.kids.getD k Ty.zero) ((q+2)+(2 * k)) rB oq oq hB) ej ej rfl ej ej kq ?_
 apply qr 1
 refine qY (bc (o:=5) (len:=ks.length) (l:=ks) (xs:=[rB]) (enc:=Ty.enc) (sz:=5) (fr:=0) (x:=(.full [Ty.v rB])) kq ba bV ba rfl kq rfl rfl (Eq.trans (b:=some [Ty.v rB]) kq (by simp [Ty.enc_v])) ⟨by decide,by kernel_rfl⟩ gZ k7 k7) ?_ ?_ ?_
 apply qr 1
 apply qe
 apply aj
 apply ab
 apply qZ [(0,.ptr 0 0),(2,.imm (l.map iE)),(3,nI q),(5,.ptr 2 0),(8,.ptr 3 0),(9,.int .i64 (ap l q 6)),(10,.own 4 0 (ns++[(t.names.getD k [])]).length),(11,.own 5 0 (ks++[rB]).length),(12,nI k),(55,.tup []),(56,.tup []),(57,.tup []),(58,.tup []),(59,.tup []),(60,.tup []),(61,.tup [])] [bS lv,mS SB,t.bx,.box zC,.arr 1 ((ns++[(t.names.getD k [])]).map aa.str) 0,.arr 5 ((ks++[rB]).map Ty.enc) 0]
 apply qo
 apply qr 1
 refine qy (aN (a:=((k:Nat):Int)) (b:=1) kq oq oq) ?_ ?_ ?_
 apply qr 1
 apply qe
 refine ab ⟨(k+1,(ns++[(t.names.getD k [])]),(ks++[rB]),SB),?_,?_,⟨⟨kq,kq,kq,kq,kq,kq,kq,kq,kq,trivial⟩,by simp [aQ,aa.bel],by simp,kq,by simp [af.belO,bL,Ty.enc_v]⟩⟩
 · try dsimp only
   omega
 rotate_left
 iterate 34 kernel_rfl
 apply qm [53,54] (decide_eq_false hb7)
 apply qr 2
 refine qy (aN (a:=((q:Nat):Int)) (b:=5) kq oq oq) ?_ ?_ ?_
 apply qr 1
 refine qy (aN (a:=(((q+5):Nat):Int)) (b:=((k:Nat):Int)) kq oq oq) ?_ ?_ ?_
 refine bR (args:=[.imm (l.map iE),.int .i64 ((((q+5)+k):Nat):Int),.int .i64 2]) kq kq kq kq (iN l ((q+5)+k) 2 oq oq) EX (by simp [Ty.v]) Fl ?_
 have hv8:=d6 l ((q+5)+k) 2 dq
 apply qR 2 [(0,.ptr 0 0),(2,.imm (l.map iE)),(3,nI q),(5,.ptr 2 0),(8,.ptr 3 0),(9,.int .i64 (ap l q 6)),(10,.own 4 0 ns.length),(11,.own 5 0 ks.length),(12,nI k),(55,.imm (l.map iE)),(56,nI q),(57,nI (q+5)),(58,nI k),(59,nI (((q+5)+k))),(60,.int .i64 (ap l ((q+5)+k) 2)),(61,.bool ((ap l ((q+5)+k) 2)==0)),(62,.bool ((ap l ((q+5)+k) 2)==0))] [bS lv,mS S,t.bx,.box zC,.arr 1 (ns.map aa.str) 0,.arr 5 (ks.map Ty.enc) 0]
 by_cases hb9:(ap l ((q+5)+k) 2)=0
 apply qt (beq_iff_eq.2 hb9)
 apply qV 4
 refine qy (aA (k:=.i64) (l:=t.names) (enc:=aa.str) (i:=((k:Nat):Int)) [] kq bi ty9 (fun _=>rfl) oq oq) ?_ ?_ ?_
 apply qr 2
 refine qY (bc (o:=4) (len:=ns.length) (l:=ns) (xs:=[(t.names.getD k [])]) (enc:=aa.str) (sz:=1) (fr:=0) (x:=(.full [.str (t.names.getD k [])])) kq bi ty9 bi rfl kq rfl rfl kq ⟨by decide,by kernel_rfl⟩ (fun _=>rfl) k7 k7) ?_ ?_ ?_
 apply qR 1 [(0,.ptr 0 0),(2,.imm (l.map iE)),(3,nI q),(5,.ptr 2 0),(8,.ptr 3 0),(9,.int .i64 (ap l q 6)),(10,.own 4 0 (ns++[(t.names.getD k [])]).length),(11,.own 5 0 ks.length),(12,nI k),(55,.imm (l.map iE)),(56,nI q),(57,nI (q+5)),(58,nI k),(59,nI (((q+5)+k))),(60,.int .i64 (ap l ((q+5)+k) 2)),(61,.bool ((ap l ((q+5)+k) 2)==0))] [bS lv,mS S,t.bx,.box zC,.arr 1 ((ns++[(t.names.getD k [])]).map aa.str) 0,.arr 5 (ks.map Ty.enc) 0]
 obtain ⟨rB,SB,hB,hB2⟩:=kK hKF hK oq oq
 have hstp:=pc (t:=t) (k:=k) oq oq
 apply qz [(0,.ptr 0 0),(2,.imm (l.map iE)),(3,nI q),(5,.ptr 2 0),(8,.ptr 3 0),(9,.int .i64 (ap l q 6)),(10,.own 4 0 (ns++[(t.names.getD k [])]).length),(11,.own 5 0 ks.length),(12,nI k),(55,.imm (l.map iE)),(56,nI q),(57,nI (q+5)),(58,nI k),(59,nI (((q+5)+k))),(60,.int .i64 (ap l ((q+5)+k) 2)),(61,.bool ((ap l ((q+5)+k) 2)==0))]
 apply qo
 apply qr 5
 refine qy ((aA (k:=.i64) (l:=t.kids) (enc:=Ty.enc) (i:=((k:Nat):Int)) Ty.zero kq ba bV bk oq oq).trans (congrArg (fun cs=>some (aa.pimm cs 0,_)) (aU (t.kids.getD k Ty.zero)))) ?_ ?_ ?_
 apply qr 3
 refine qy (aN (a:=((q:Nat):Int)) (b:=2) kq oq oq) ?_ ?_ ?_
 apply qr 1
 refine qy (xF (a:=2) (b:=((k:Nat):Int)) kq oq oq) ?_ ?_ ?_
 refine qy (aN (a:=(((q+2):Nat):Int)) (b:=(((2 * k):Nat):Int)) kq oq oq) ?_ ?_ ?_
 refine aT (args:=[.ptr 0 0,aG (t.kids.getD k Ty.zero),.imm (l.map iE),.int .i64 ((((q+2)+(2 * k)):Nat):Int)]) (hs:=[bS lv,mS S]) (hs':=[bS lv,mS SB]) (aO:=[t.bx,.box zC,.arr 1 ((ns++[(t.names.getD k [])]).map aa.str) 0,.arr 5 (ks.map Ty.enc) 0]) kq kq kq kq kq (ihB S SB (t.kids.getD k Ty.zero) ((q+2)+(2 * k)) rB oq oq hB) ej ej rfl ej ej kq ?_
 apply qr 1
 refine qY (bc (o:=5) (len:=ks.length) (l:=ks) (xs:=[rB]) (enc:=Ty.enc) (sz:=5) (fr:=0) (x:=(.full [Ty.v rB])) kq ba bV ba rfl kq rfl rfl (Eq.trans (b:=some [Ty.v rB]) kq (by simp [Ty.enc_v])) ⟨by decide,by kernel_rfl⟩ gZ k7 k7) ?_ ?_ ?_
 apply qr 1
 apply qe
 apply aj
 apply ab
 apply qZ [(0,.ptr 0 0),(2,.imm (l.map iE)),(3,nI q),(5,.ptr 2 0),(8,.ptr 3 0),(9,.int .i64 (ap l q 6)),(10,.own 4 0 (ns++[(t.names.getD k [])]).length),(11,.own 5 0 (ks++[rB]).length),(12,nI k),(55,.imm (l.map iE)),(56,nI q),(57,nI (q+5)),(58,nI k),(59,nI (((q+5)+k))),(60,.int .i64 (ap l ((q+5)+k) 2)),(61,.bool ((ap l ((q+5)+k) 2)==0))] [bS lv,mS SB,t.bx,.box zC,.arr 1 ((ns++[(t.names.getD k [])]).map aa.str) 0,.arr 5 ((ks++[rB]).map Ty.enc) 0]
 apply qo
 apply qr 1
 refine qy (aN (a:=((k:Nat):Int)) (b:=1) kq oq oq) ?_ ?_ ?_
 apply qr 1
 apply qe
 refine ab ⟨(k+1,(ns++[(t.names.getD k [])]),(ks++[rB]),SB),?_,?_,⟨⟨kq,kq,kq,kq,kq,kq,kq,kq,kq,trivial⟩,by simp [aQ,aa.bel],by simp,kq,by simp [af.belO,bL,Ty.enc_v]⟩⟩
 · try dsimp only
   omega
 rotate_left
 iterate 33 kernel_rfl
 apply qf (beq_eq_false_iff_ne.2 hb9)
 apply qk
 apply aj
 apply ab
 apply qz [(0,.ptr 0 0),(2,.imm (l.map iE)),(3,nI q),(5,.ptr 2 0),(8,.ptr 3 0),(9,.int .i64 (ap l q 6)),(10,.own 4 0 ns.length),(11,.own 5 0 ks.length),(12,nI k),(55,.imm (l.map iE)),(56,nI q),(57,nI (q+5)),(58,nI k),(59,nI (((q+5)+k))),(60,.int .i64 (ap l ((q+5)+k) 2)),(61,.bool ((ap l ((q+5)+k) 2)==0))]
 apply qo
 apply qr 1
 refine qy (aN (a:=((k:Nat):Int)) (b:=1) kq oq oq) ?_ ?_ ?_
 apply qr 1
 apply qe
 refine ab ⟨(k+1,ns,ks,S),?_,?_,⟨⟨kq,kq,kq,kq,kq,kq,kq,kq,kq,trivial⟩,by simp [aQ,aa.bel],by simp,kq,by simp [af.belO,bL,Ty.enc_v]⟩⟩
 · try dsimp only
   omega
 rotate_left
 iterate 24 kernel_rfl
 apply qf (decide_eq_false hb6)
 refine bn 0 kq kq ?_
 apply ae
 apply ae
 apply ay
 apply ab
 apply qz [(0,.ptr 0 0),(8,.ptr 3 0),(9,.int .i64 (ap l q 6)),(10,.own 4 0 ns.length),(11,.own 5 0 ks.length)]
 refine wR 10 4 (es:=(ns.map aa.str)) (off:=0) (len:=ns.length) (sz:=1) (fr:=0) (ns.map aa.str) kq kq zq kq ?_
 refine wR 11 5 (es:=(ks.map Ty.enc)) (off:=0) (len:=ks.length) (sz:=5) (fr:=0) (ks.map Ty.enc) kq kq zq kq ?_
 apply qZ [(0,.ptr 0 0),(8,.ptr 3 0),(9,.int .i64 (ap l q 6)),(10,.imm (ns.map aa.str)),(11,.imm (ks.map Ty.enc))] [bS lv,mS S,t.bx,.box zC,.arr 1 (ns.map aa.str) (ns.map aa.str).length,.arr 5 (ks.map Ty.enc) (ks.map Ty.enc).length]
 apply ao
 apply qU 2 [(0,.ptr 0 0),(8,.ptr 3 0),(10,.imm (ns.map aa.str)),(11,.imm (ks.map Ty.enc)),(88,.bool (decide ((ap l q 6) > 4)))]
 by_cases hb10:(ap l q 6) > 4
 apply qt (decide_eq_true hb10)
 apply qW 4 [(8,.ptr 3 0)] [bS lv,mS S,t.bx,.box [.int .i64 5,.str [],.int .i64 0,.imm (ns.map aa.str),.imm (ks.map Ty.enc)],.arr 1 (ns.map aa.str) (ns.map aa.str).length,.arr 5 (ks.map Ty.enc) (ks.map Ty.enc).length]
 refine a8 kq ?_
 apply aR
 refine aM (l:=[.agg [.int .i64 5,.str [],.int .i64 0,.imm (ns.map aa.str),.imm (ks.map Ty.enc)]]) iq kq If lk lk ?_ ?_
 refine Eq.trans (b:=[bS lv,mS S]) kq ?_
 · obtain rfl:k=t.names.length:=oq
   rw [hKF] at hK
   cases hK
   have e:=hF1 oq
   rw [← e.2];rfl
 · simp [af.belO,hpS,Ty.v]
 iterate 2 kernel_rfl
 apply qf (decide_eq_false hb10)
 apply qK
 apply qz [(0,.ptr 0 0),(8,.ptr 3 0),(10,.imm (ns.map aa.str)),(11,.imm (ks.map Ty.enc))]
 have hg:DH S ns ks:=by obtain rfl:k=t.names.length:=oq;rw [hKF] at hK;cases hK;exact (hF2 oq).1
 apply qz [(0,.ptr 0 0),(8,.ptr 3 0),(10,.imm (ns.map aa.str)),(11,.imm (ks.map Ty.enc))]
 apply qV 3
 refine aT (args:=[.ptr 0 0,.imm (ns.map aa.str),.imm (ks.map Ty.enc)]) (hs:=[bS lv,mS S]) (hs':=[bS lv,mS (lP (lv) S (cc ns ks 0).names)]) (aO:=[t.bx,.box zC,.arr 1 (ns.map aa.str) (ns.map aa.str).length,.arr 5 (ks.map Ty.enc) (ks.map Ty.enc).length]) kq kq kq kq kq (sn ns ks (lv) S hg.n hg.nl hg.kz hg.sm hg.ml hg.ok) ej ej rfl ej ej kq ?_
 apply qR 6 [(8,.ptr 3 0),(13,.ptr 6 0)] [bS lv,mS (lP (lv) S (cc ns ks 0).names),t.bx,.box zC,.arr 1 (ns.map aa.str) (ns.map aa.str).length,.arr 5 (ks.map Ty.enc) (ks.map Ty.enc).length,(cc ns ks (((S.length+1:Nat)):Int)).bx]
 apply qW 2 [(8,.ptr 3 0)] [bS lv,mS (lP (lv) S (cc ns ks 0).names),t.bx,(cc ns ks (((S.length+1:Nat)):Int)).bx,.arr 1 (ns.map aa.str) (ns.map aa.str).length,.arr 5 (ks.map Ty.enc) (ks.map Ty.enc).length,(cc ns ks (((S.length+1:Nat)):Int)).bx]
 refine a8 kq ?_
 refine aM (l:=[aG (cc ns ks (((S.length+1:Nat)):Int))]) iq kq I9 lk lk ?_ ?_
 refine Eq.trans (b:=[bS lv,mS (lP (lv) S (cc ns ks 0).names)]) kq ?_
 · obtain rfl:k=t.names.length:=oq
   rw [hKF] at hK
   cases hK
   have e:=hF2 oq
   rw [← e.2.2];rfl
 · simp [af.belO,hpS,Ty.v]
 iterate 29 kernel_rfl
 refine qt (x:=((t.kind) != 5)) (bne_iff_ne.2 hb5) ?_ ?_
 apply qW 2 [(8,.ptr 3 0)] [bS lv,mS m,t.bx,t.bx]
 refine a8 kq ?_
 apply aR
 refine aM (l:=[aG t]) iq kq Jp lk lk ?_ ?_
 refine Eq.trans (b:=[bS lv,mS m]) kq ?_
 · have e:=((u2 oq).2 oq).1 aq
   rw [← e.2];rfl
 · simp [af.belO,hpS,Ty.v]
 iterate 12 kernel_rfl
 apply qm [24,25] (beq_eq_false_iff_ne.2 hb3)
 apply qR 5 [(0,.ptr 0 0),(2,.imm (l.map iE)),(3,nI q),(5,.ptr 2 0),(8,.ptr 3 0),(9,.int .i64 (ap l q 6)),(30,.bool false)] [bS lv,mS m,t.bx,.box zC]
 refine d5 kq kq ?_
 apply qK
 apply qz [(0,.ptr 0 0),(2,.imm (l.map iE)),(3,nI q),(5,.ptr 2 0),(8,.ptr 3 0),(9,.int .i64 (ap l q 6))]
 apply ao
 apply qU 3 [(0,.ptr 0 0),(2,.imm (l.map iE)),(3,nI q),(5,.ptr 2 0),(8,.ptr 3 0),(9,.int .i64 (ap l q 6)),(43,.bool ((t.kind) != 5))]
 by_cases hb11:(t.kind)=5
 refine qf (x:=((t.kind) != 5)) (bne_eq_false_iff_eq.2 hb11) ?_ ?_
 apply qK
 apply qz [(0,.ptr 0 0),(2,.imm (l.map iE)),(3,nI q),(5,.ptr 2 0),(8,.ptr 3 0),(9,.int .i64 (ap l q 6))]
 apply qU 1 [(0,.ptr 0 0),(2,.imm (l.map iE)),(3,nI q),(5,.ptr 2 0),(8,.ptr 3 0),(9,.int .i64 (ap l q 6)),(10,.full [])]
 apply qU 1 [(0,.ptr 0 0),(2,.imm (l.map iE)),(3,nI q),(5,.ptr 2 0),(8,.ptr 3 0),(9,.int .i64 (ap l q 6)),(10,.full []),(11,.full [])]
 apply ao
 apply qU 1 [(0,.ptr 0 0),(2,.imm (l.map iE)),(3,nI q),(5,.ptr 2 0),(8,.ptr 3 0),(9,.int .i64 (ap l q 6)),(10,.full []),(11,.full []),(12,.int .i64 0)]
 obtain ⟨hlen,nsF,ksF,SF,hKF,hF1,hF2⟩:=((u2 oq).2 oq).2 oq
 apply qz [(0,.ptr 0 0),(2,.imm (l.map iE)),(3,nI q),(5,.ptr 2 0),(8,.ptr 3 0),(9,.int .i64 (ap l q 6)),(10,.full []),(11,.full []),(12,.int .i64 0)]
 apply qB 0
 refine rK 10 1 dq kq ?_
 refine rK 11 5 dq kq ?_
 apply qZ [(0,.ptr 0 0),(2,.imm (l.map iE)),(3,nI q),(5,.ptr 2 0),(8,.ptr 3 0),(9,.int .i64 (ap l q 6)),(10,.own 4 0 0),(11,.own 5 0 0),(12,.int .i64 0)] [bS lv,mS m,t.bx,.box zC,.arr 1 (([]:List (List UInt8)).map aa.str) 0,.arr 5 (([]:List (Ty)).map Ty.enc) 0]
 refine bB (σ:=(Nat×List (List UInt8)×List Ty×St)) (fun ⟨k,ns,ks,S⟩=>[(0,.ptr 0 0),(2,.imm (l.map iE)),(3,.int .i64 ((q:Nat):Int)),(5,.ptr 2 0),(8,.ptr 3 0),(9,.int .i64 (ap l q 6)),(10,.own 4 0 ns.length),(11,.own 5 0 ks.length),(12,.int .i64 ((k:Nat):Int))]) (fun ⟨k,ns,ks,S⟩=>[bS lv,mS S,t.bx,.box zC,.arr 1 (ns.map aa.str) 0,.arr 5 (ks.map Ty.enc) 0]) (fun ⟨k,ns,ks,S⟩=>k≤t.names.length∧eE (dY l lv n) l t (ap l q 6) q k m=some (ns,ks,S)) (fun ⟨k,ns,ks,S⟩=>t.names.length - k) (0,([]:List (List UInt8)),([]:List Ty),m) kq (by exact ⟨Nat.zero_le _,rfl⟩) ⟨⟨kq,kq,kq,kq,kq,kq,kq,kq,kq,trivial⟩,by simp [aQ,aa.bel],by simp,kq,by simp [af.belO,bL,Ty.enc_v]⟩ ?_
 rintro ⟨k,ns,ks,S⟩ ⟨hk,hK⟩
 have hbl:=nH hK
 apply qZ [(0,.ptr 0 0),(2,.imm (l.map iE)),(3,nI q),(5,.ptr 2 0),(8,.ptr 3 0),(9,.int .i64 (ap l q 6)),(10,.own 4 0 ns.length),(11,.own 5 0 ks.length),(12,nI k)] [bS lv,mS S,t.bx,.box zC,.arr 1 (ns.map aa.str) 0,.arr 5 (ks.map Ty.enc) 0]
 apply ao
 apply qV 3
 refine qy (au (l:=t.names) (enc:=aa.str) kq bi) ?_ ?_ ?_
 apply qR 1 [(0,.ptr 0 0),(2,.imm (l.map iE)),(3,nI q),(5,.ptr 2 0),(8,.ptr 3 0),(9,.int .i64 (ap l q 6)),(10,.own 4 0 ns.length),(11,.own 5 0 ks.length),(12,nI k),(49,.bool (decide (((k:Nat):Int)<((t.names.length:Nat):Int))))] [bS lv,mS S,t.bx,.box zC,.arr 1 (ns.map aa.str) 0,.arr 5 (ks.map Ty.enc) 0]
 by_cases hb12:((k:Nat):Int)<((t.names.length:Nat):Int)
 apply qt (decide_eq_true hb12)
 apply qK
 apply qz [(0,.ptr 0 0),(2,.imm (l.map iE)),(3,nI q),(5,.ptr 2 0),(8,.ptr 3 0),(9,.int .i64 (ap l q 6)),(10,.own 4 0 ns.length),(11,.own 5 0 ks.length),(12,nI k)]
 apply ao
 apply qB 1
 apply qV 3
 by_cases hb13:(ap l q 6) > 3
 apply qm [53,54] (decide_eq_true hb13)
 apply qR 8 [(0,.ptr 0 0),(2,.imm (l.map iE)),(3,nI q),(5,.ptr 2 0),(8,.ptr 3 0),(9,.int .i64 (ap l q 6)),(10,.own 4 0 ns.length),(11,.own 5 0 ks.length),(12,nI k),(55,.tup []),(56,.tup []),(57,.tup []),(58,.tup []),(59,.tup []),(60,.tup []),(61,.tup []),(62,.bool true)] [bS lv,mS S,t.bx,.box zC,.arr 1 (ns.map aa.str) 0,.arr 5 (ks.map Ty.enc) 0]
 refine cw kq kq ?_
 apply qV 4
 refine qy (aA (k:=.i64) (l:=t.names) (enc:=aa.str) (i:=((k:Nat):Int)) [] kq bi ty9 (fun _=>rfl) oq oq) ?_ ?_ ?_
 apply qr 2
 refine qY (bc (o:=4) (len:=ns.length) (l:=ns) (xs:=[(t.names.getD k [])]) (enc:=aa.str) (sz:=1) (fr:=0) (x:=(.full [.str (t.names.getD k [])])) kq bi ty9 bi rfl kq rfl rfl kq ⟨by decide,by kernel_rfl⟩ (fun _=>rfl) k7 k7) ?_ ?_ ?_
 apply qR 1 [(0,.ptr 0 0),(2,.imm (l.map iE)),(3,nI q),(5,.ptr 2 0),(8,.ptr 3 0),(9,.int .i64 (ap l q 6)),(10,.own 4 0 (ns++[(t.names.getD k [])]).length),(11,.own 5 0 ks.length),(12,nI k),(55,.tup []),(56,.tup []),(57,.tup []),(58,.tup []),(59,.tup []),(60,.tup []),(61,.tup [])] [bS lv,mS S,t.bx,.box zC,.arr 1 ((ns++[(t.names.getD k [])]).map aa.str) 0,.arr 5 (ks.map Ty.enc) 0]
 obtain ⟨rB,SB,hB,hB2⟩:=kK hKF hK oq oq
 have hstp:=pc (t:=t) (k:=k) oq oq
 apply qz [(0,.ptr 0 0),(2,.imm (l.map iE)),(3,nI q),(5,.ptr 2 0),(8,.ptr 3 0),(9,.int .i64 (ap l q 6)),(10,.own 4 0 (ns++[(t.names.getD k [])]).length),(11,.own 5 0 ks.length),(12,nI k),(55,.tup []),(56,.tup []),(57,.tup []),(58,.tup []),(59,.tup []),(60,.tup []),(61,.tup [])]
 apply qo
 apply qr 5
 refine qy ((aA (k:=.i64) (l:=t.kids) (enc:=Ty.enc) (i:=((k:Nat):Int)) Ty.zero kq ba bV bk oq oq).trans (congrArg (fun cs=>some (aa.pimm cs 0,_)) (aU (t.kids.getD k Ty.zero)))) ?_ ?_ ?_
 apply qr 3
 refine qy (aN (a:=((q:Nat):Int)) (b:=2) kq oq oq) ?_ ?_ ?_
 apply qr 1
 refine qy (xF (a:=2) (b:=((k:Nat):Int)) kq oq oq) ?_ ?_ ?_
 refine qy (aN (a:=(((q+2):Nat):Int)) (b:=(((2 * k):Nat):Int)) kq oq oq) ?_ ?_ ?_
 refine aT (args:=[.ptr 0 0,aG (t.kids.getD k Ty.zero),.imm (l.map iE),.int .i64 ((((q+2)+(2 * k)):Nat):Int)]) (hs:=[bS lv,mS S]) (hs':=[bS lv,mS SB]) (aO:=[t.bx,.box zC,.arr 1 ((ns++[(t.names.getD k [])]).map aa.str) 0,.arr 5 (ks.map Ty.enc) 0]) kq kq kq kq kq (ihB S SB (t.kids.getD k Ty.zero) ((q+2)+(2 * k)) rB oq oq hB) ej ej rfl ej ej kq ?_
 apply qr 1
 refine qY (bc (o:=5) (len:=ks.length) (l:=ks) (xs:=[rB]) (enc:=Ty.enc) (sz:=5) (fr:=0) (x:=(.full [Ty.v rB])) kq ba bV ba rfl kq rfl rfl (Eq.trans (b:=some [Ty.v rB]) kq (by simp [Ty.enc_v])) ⟨by decide,by kernel_rfl⟩ gZ k7 k7) ?_ ?_ ?_
 apply qr 1
 apply qe
 apply aj
 apply ab
 apply qZ [(0,.ptr 0 0),(2,.imm (l.map iE)),(3,nI q),(5,.ptr 2 0),(8,.ptr 3 0),(9,.int .i64 (ap l q 6)),(10,.own 4 0 (ns++[(t.names.getD k [])]).length),(11,.own 5 0 (ks++[rB]).length),(12,nI k),(55,.tup []),(56,.tup []),(57,.tup []),(58,.tup []),(59,.tup []),(60,.tup []),(61,.tup [])] [bS lv,mS SB,t.bx,.box zC,.arr 1 ((ns++[(t.names.getD k [])]).map aa.str) 0,.arr 5 ((ks++[rB]).map Ty.enc) 0]
 apply qo
 apply qr 1
 refine qy (aN (a:=((k:Nat):Int)) (b:=1) kq oq oq) ?_ ?_ ?_
 apply qr 1
 apply qe
 refine ab ⟨(k+1,(ns++[(t.names.getD k [])]),(ks++[rB]),SB),?_,?_,⟨⟨kq,kq,kq,kq,kq,kq,kq,kq,kq,trivial⟩,by simp [aQ,aa.bel],by simp,kq,by simp [af.belO,bL,Ty.enc_v]⟩⟩
 · try dsimp only
   omega
 rotate_left
 iterate 34 kernel_rfl
 apply qm [53,54] (decide_eq_false hb13)
 apply qr 2
 refine qy (aN (a:=((q:Nat):Int)) (b:=5) kq oq oq) ?_ ?_ ?_
 apply qr 1
 refine qy (aN (a:=(((q+5):Nat):Int)) (b:=((k:Nat):Int)) kq oq oq) ?_ ?_ ?_
 refine bR (args:=[.imm (l.map iE),.int .i64 ((((q+5)+k):Nat):Int),.int .i64 2]) kq kq kq kq (iN l ((q+5)+k) 2 oq oq) EX (by simp [Ty.v]) Fl ?_
 have hv14:=d6 l ((q+5)+k) 2 dq
 apply qR 2 [(0,.ptr 0 0),(2,.imm (l.map iE)),(3,nI q),(5,.ptr 2 0),(8,.ptr 3 0),(9,.int .i64 (ap l q 6)),(10,.own 4 0 ns.length),(11,.own 5 0 ks.length),(12,nI k),(55,.imm (l.map iE)),(56,nI q),(57,nI (q+5)),(58,nI k),(59,nI (((q+5)+k))),(60,.int .i64 (ap l ((q+5)+k) 2)),(61,.bool ((ap l ((q+5)+k) 2)==0)),(62,.bool ((ap l ((q+5)+k) 2)==0))] [bS lv,mS S,t.bx,.box zC,.arr 1 (ns.map aa.str) 0,.arr 5 (ks.map Ty.enc) 0]
 by_cases hb15:(ap l ((q+5)+k) 2)=0
 apply qt (beq_iff_eq.2 hb15)
 apply qV 4
 refine qy (aA (k:=.i64) (l:=t.names) (enc:=aa.str) (i:=((k:Nat):Int)) [] kq bi ty9 (fun _=>rfl) oq oq) ?_ ?_ ?_
 apply qr 2
 refine qY (bc (o:=4) (len:=ns.length) (l:=ns) (xs:=[(t.names.getD k [])]) (enc:=aa.str) (sz:=1) (fr:=0) (x:=(.full [.str (t.names.getD k [])])) kq bi ty9 bi rfl kq rfl rfl kq ⟨by decide,by kernel_rfl⟩ (fun _=>rfl) k7 k7) ?_ ?_ ?_
 apply qR 1 [(0,.ptr 0 0),(2,.imm (l.map iE)),(3,nI q),(5,.ptr 2 0),(8,.ptr 3 0),(9,.int .i64 (ap l q 6)),(10,.own 4 0 (ns++[(t.names.getD k [])]).length),(11,.own 5 0 ks.length),(12,nI k),(55,.imm (l.map iE)),(56,nI q),(57,nI (q+5)),(58,nI k),(59,nI (((q+5)+k))),(60,.int .i64 (ap l ((q+5)+k) 2)),(61,.bool ((ap l ((q+5)+k) 2)==0))] [bS lv,mS S,t.bx,.box zC,.arr 1 ((ns++[(t.names.getD k [])]).map aa.str) 0,.arr 5 (ks.map Ty.enc) 0]
 obtain ⟨rB,SB,hB,hB2⟩:=kK hKF hK oq oq
 have hstp:=pc (t:=t) (k:=k) oq oq
 apply qz [(0,.ptr 0 0),(2,.imm (l.map iE)),(3,nI q),(5,.ptr 2 0),(8,.ptr 3 0),(9,.int .i64 (ap l q 6)),(10,.own 4 0 (ns++[(t.names.getD k [])]).length),(11,.own 5 0 ks.length),(12,nI k),(55,.imm (l.map iE)),(56,nI q),(57,nI (q+5)),(58,nI k),(59,nI (((q+5)+k))),(60,.int .i64 (ap l ((q+5)+k) 2)),(61,.bool ((ap l ((q+5)+k) 2)==0))]
 apply qo
 apply qr 5
 refine qy ((aA (k:=.i64) (l:=t.kids) (enc:=Ty.enc) (i:=((k:Nat):Int)) Ty.zero kq ba bV bk oq oq).trans (congrArg (fun cs=>some (aa.pimm cs 0,_)) (aU (t.kids.getD k Ty.zero)))) ?_ ?_ ?_
 apply qr 3
 refine qy (aN (a:=((q:Nat):Int)) (b:=2) kq oq oq) ?_ ?_ ?_
 apply qr 1
 refine qy (xF (a:=2) (b:=((k:Nat):Int)) kq oq oq) ?_ ?_ ?_
 refine qy (aN (a:=(((q+2):Nat):Int)) (b:=(((2 * k):Nat):Int)) kq oq oq) ?_ ?_ ?_
 refine aT (args:=[.ptr 0 0,aG (t.kids.getD k Ty.zero),.imm (l.map iE),.int .i64 ((((q+2)+(2 * k)):Nat):Int)]) (hs:=[bS lv,mS S]) (hs':=[bS lv,mS SB]) (aO:=[t.bx,.box zC,.arr 1 ((ns++[(t.names.getD k [])]).map aa.str) 0,.arr 5 (ks.map Ty.enc) 0]) kq kq kq kq kq (ihB S SB (t.kids.getD k Ty.zero) ((q+2)+(2 * k)) rB oq oq hB) ej ej rfl ej ej kq ?_
 apply qr 1
 refine qY (bc (o:=5) (len:=ks.length) (l:=ks) (xs:=[rB]) (enc:=Ty.enc) (sz:=5) (fr:=0) (x:=(.full [Ty.v rB])) kq ba bV ba rfl kq rfl rfl (Eq.trans (b:=some [Ty.v rB]) kq (by simp [Ty.enc_v])) ⟨by decide,by kernel_rfl⟩ gZ k7 k7) ?_ ?_ ?_
 apply qr 1
 apply qe
 apply aj
 apply ab
 apply qZ [(0,.ptr 0 0),(2,.imm (l.map iE)),(3,nI q),(5,.ptr 2 0),(8,.ptr 3 0),(9,.int .i64 (ap l q 6)),(10,.own 4 0 (ns++[(t.names.getD k [])]).length),(11,.own 5 0 (ks++[rB]).length),(12,nI k),(55,.imm (l.map iE)),(56,nI q),(57,nI (q+5)),(58,nI k),(59,nI (((q+5)+k))),(60,.int .i64 (ap l ((q+5)+k) 2)),(61,.bool ((ap l ((q+5)+k) 2)==0))] [bS lv,mS SB,t.bx,.box zC,.arr 1 ((ns++[(t.names.getD k [])]).map aa.str) 0,.arr 5 ((ks++[rB]).map Ty.enc) 0]
 apply qo
 apply qr 1
 refine qy (aN (a:=((k:Nat):Int)) (b:=1) kq oq oq) ?_ ?_ ?_
 apply qr 1
 apply qe
 refine ab ⟨(k+1,(ns++[(t.names.getD k [])]),(ks++[rB]),SB),?_,?_,⟨⟨kq,kq,kq,kq,kq,kq,kq,kq,kq,trivial⟩,by simp [aQ,aa.bel],by simp,kq,by simp [af.belO,bL,Ty.enc_v]⟩⟩
 · try dsimp only
   omega
 rotate_left
 iterate 33 kernel_rfl
 apply qf (beq_eq_false_iff_ne.2 hb15)
 apply qk
 apply aj
 apply ab
 apply qz [(0,.ptr 0 0),(2,.imm (l.map iE)),(3,nI q),(5,.ptr 2 0),(8,.ptr 3 0),(9,.int .i64 (ap l q 6)),(10,.own 4 0 ns.length),(11,.own 5 0 ks.length),(12,nI k),(55,.imm (l.map iE)),(56,nI q),(57,nI (q+5)),(58,nI k),(59,nI (((q+5)+k))),(60,.int .i64 (ap l ((q+5)+k) 2)),(61,.bool ((ap l ((q+5)+k) 2)==0))]
 apply qo
 apply qr 1
 refine qy (aN (a:=((k:Nat):Int)) (b:=1) kq oq oq) ?_ ?_ ?_
 apply qr 1
 apply qe
 refine ab ⟨(k+1,ns,ks,S),?_,?_,⟨⟨kq,kq,kq,kq,kq,kq,kq,kq,kq,trivial⟩,by simp [aQ,aa.bel],by simp,kq,by simp [af.belO,bL,Ty.enc_v]⟩⟩
 · try dsimp only
   omega
 rotate_left
 iterate 24 kernel_rfl
 apply qf (decide_eq_false hb12)
 refine bn 0 kq kq ?_
 apply ae
 apply ae
 apply ay
 apply ab
 apply qz [(0,.ptr 0 0),(8,.ptr 3 0),(9,.int .i64 (ap l q 6)),(10,.own 4 0 ns.length),(11,.own 5 0 ks.length)]
 refine wR 10 4 (es:=(ns.map aa.str)) (off:=0) (len:=ns.length) (sz:=1) (fr:=0) (ns.map aa.str) kq kq zq kq ?_
 refine wR 11 5 (es:=(ks.map Ty.enc)) (off:=0) (len:=ks.length) (sz:=5) (fr:=0) (ks.map Ty.enc) kq kq zq kq ?_
 apply qZ [(0,.ptr 0 0),(8,.ptr 3 0),(9,.int .i64 (ap l q 6)),(10,.imm (ns.map aa.str)),(11,.imm (ks.map Ty.enc))] [bS lv,mS S,t.bx,.box zC,.arr 1 (ns.map aa.str) (ns.map aa.str).length,.arr 5 (ks.map Ty.enc) (ks.map Ty.enc).length]
 apply ao
 apply qU 2 [(0,.ptr 0 0),(8,.ptr 3 0),(10,.imm (ns.map aa.str)),(11,.imm (ks.map Ty.enc)),(88,.bool (decide ((ap l q 6) > 4)))]
 by_cases hb16:(ap l q 6) > 4
 apply qt (decide_eq_true hb16)
 apply qW 4 [(8,.ptr 3 0)] [bS lv,mS S,t.bx,.box [.int .i64 5,.str [],.int .i64 0,.imm (ns.map aa.str),.imm (ks.map Ty.enc)],.arr 1 (ns.map aa.str) (ns.map aa.str).length,.arr 5 (ks.map Ty.enc) (ks.map Ty.enc).length]
 refine a8 kq ?_
 apply aR
 refine aM (l:=[.agg [.int .i64 5,.str [],.int .i64 0,.imm (ns.map aa.str),.imm (ks.map Ty.enc)]]) iq kq If lk lk ?_ ?_
 refine Eq.trans (b:=[bS lv,mS S]) kq ?_
 · obtain rfl:k=t.names.length:=oq
   rw [hKF] at hK
   cases hK
   have e:=hF1 oq
   rw [← e.2];rfl
 · simp [af.belO,hpS,Ty.v]
 iterate 2 kernel_rfl
 apply qf (decide_eq_false hb16)
 apply qK
 apply qz [(0,.ptr 0 0),(8,.ptr 3 0),(10,.imm (ns.map aa.str)),(11,.imm (ks.map Ty.enc))]
 have hg:DH S ns ks:=by obtain rfl:k=t.names.length:=oq;rw [hKF] at hK;cases hK;exact (hF2 oq).1
 apply qz [(0,.ptr 0 0),(8,.ptr 3 0),(10,.imm (ns.map aa.str)),(11,.imm (ks.map Ty.enc))]
 apply qV 3
 refine aT (args:=[.ptr 0 0,.imm (ns.map aa.str),.imm (ks.map Ty.enc)]) (hs:=[bS lv,mS S]) (hs':=[bS lv,mS (lP (lv) S (cc ns ks 0).names)]) (aO:=[t.bx,.box zC,.arr 1 (ns.map aa.str) (ns.map aa.str).length,.arr 5 (ks.map Ty.enc) (ks.map Ty.enc).length]) kq kq kq kq kq (sn ns ks (lv) S hg.n hg.nl hg.kz hg.sm hg.ml hg.ok) ej ej rfl ej ej kq ?_
 apply qR 6 [(8,.ptr 3 0),(13,.ptr 6 0)] [bS lv,mS (lP (lv) S (cc ns ks 0).names),t.bx,.box zC,.arr 1 (ns.map aa.str) (ns.map aa.str).length,.arr 5 (ks.map Ty.enc) (ks.map Ty.enc).length,(cc ns ks (((S.length+1:Nat)):Int)).bx]
 apply qW 2 [(8,.ptr 3 0)] [bS lv,mS (lP (lv) S (cc ns ks 0).names),t.bx,(cc ns ks (((S.length+1:Nat)):Int)).bx,.arr 1 (ns.map aa.str) (ns.map aa.str).length,.arr 5 (ks.map Ty.enc) (ks.map Ty.enc).length,(cc ns ks (((S.length+1:Nat)):Int)).bx]
 refine a8 kq ?_
 refine aM (l:=[aG (cc ns ks (((S.length+1:Nat)):Int))]) iq kq I9 lk lk ?_ ?_
 refine Eq.trans (b:=[bS lv,mS (lP (lv) S (cc ns ks 0).names)]) kq ?_
 · obtain rfl:k=t.names.length:=oq
   rw [hKF] at hK
   cases hK
   have e:=hF2 oq
   rw [← e.2.2];rfl
 · simp [af.belO,hpS,Ty.v]
 iterate 29 kernel_rfl
 refine qt (x:=((t.kind) != 5)) (bne_iff_ne.2 hb11) ?_ ?_
 apply qW 2 [(8,.ptr 3 0)] [bS lv,mS m,t.bx,t.bx]
 refine a8 kq ?_
 apply aR
 refine aM (l:=[aG t]) iq kq Jp lk lk ?_ ?_
 refine Eq.trans (b:=[bS lv,mS m]) kq ?_
 · have e:=((u2 oq).2 oq).1 aq
   rw [← e.2];rfl
 · simp [af.belO,hpS,Ty.v]
 iterate 19 kernel_rfl
 all_goals
  try dsimp only
  refine ⟨by omega,?_⟩
  first|exact hB2|exact Ds hK oq
theorem vF (x:Ty) (hx:x.sz<100000000):aC cx 16 [x.v,x.v] (.bool true):=by
 have:=wG x x hx
 rwa [beq_refl] at this
noncomputable def c5:Code:=aB Tryz.f5
mutual
theorem w8 (f:Int→Int):∀ t:Ty,(renT f t).sz=t.sz
 | .mk k x n l ks=>by rw [renT,Ty.sz,Ty.sz,sH f ks]
theorem sH (f:Int→Int):∀ l:List Ty,Ty.szL (dG f l)=Ty.szL l
 | []=>rfl
 | t::l=>by rw [dG,Ty.szL,Ty.szL,w8 f t,sH f l]
end
theorem mB (l:List Ty):(bu l).length=l.length:=by simp [bu]
theorem Gb {l:List Ty} (h:okT l) (i:Nat):((bu l).getD i Ty.zero).sz<100000000:=by
 by_cases hi:i<l.length
 · have:=h.2 i
   rw [List.getD_eq_getElem?_getD,List.getElem?_eq_getElem hi] at this
   rw [List.getD_eq_getElem?_getD,List.getElem?_eq_getElem (by rw [mB];exact hi)]
   simp only [bu,List.getElem_map,Option.getD_some] at this ⊢
   rw [w8];exact this
 · rw [List.getD_eq_getElem?_getD,List.getElem?_eq_none (by rw [mB];omega)]
   simp [Ty.zero,Ty.sz,szS,Ty.szL]
noncomputable def c25:Code:=aB Tryz.f25
theorem BB (l1 l2:List Ty) (h1:okT l1) (h2:okT l2) (he:bu l1=bu l2):aC cx 25 [.imm (l1.map Ty.enc),.imm (l2.map Ty.enc)] (.bool true):=by
 have hs1:=Gb h1
 have hn1:=mB l1
 have hn2:=mB l2
 have hnn:=congrArg List.length he
 have h18:=h1.1
 refine am (cx:=cx) 33 0 [(ResultVar.tmp 4)] Tryz.func25 rfl rfl rfl rfl rfl zq ?_
 show wpA cx 33 0 (at_ c25 []) _ _ _
 apply qZ [(0,.imm (l1.map Ty.enc)),(1,.imm (l2.map Ty.enc))] []
 apply qU 1 [(0,.imm (l1.map Ty.enc)),(1,.imm (l2.map Ty.enc))]
 apply qV 1
 refine bR (args:=[.imm (l1.map Ty.enc)]) kq kq kq kq (oM l1 aq) (by simp [Ty.v,bo,Occ.v]) (by simp [Ty.v]) (by simp [Ty.v,bh]) ?_
 apply qR 1 [(1,.imm (l2.map Ty.enc)),(5,.imm ((bu l1).map Ty.enc))] []
 apply qV 1
 refine bR (args:=[.imm (l2.map Ty.enc)]) kq kq kq kq (oM l2 aq) (by simp [Ty.v,bo,Occ.v]) (by simp [Ty.v]) (by simp [Ty.v,bh]) ?_
 apply qR 1 [(5,.imm ((bu l1).map Ty.enc)),(6,.imm ((bu l2).map Ty.enc))] []
 apply ao
 apply qV 1
 refine qy (au (l:=(bu l1)) (enc:=Ty.enc) kq ba) ?_ ?_ ?_
 apply qr 1
 refine qy (au (l:=(bu l2)) (enc:=Ty.enc) kq ba) ?_ ?_ ?_
 apply qR 1 [(5,.imm ((bu l1).map Ty.enc)),(6,.imm ((bu l2).map Ty.enc)),(16,.bool ((((bu l1).length:Nat):Int) != (((bu l2).length:Nat):Int)))] []
 by_cases hb1:(((bu l1).length:Nat):Int)=(((bu l2).length:Nat):Int)
 refine qf (x:=((((bu l1).length:Nat):Int) != (((bu l2).length:Nat):Int))) (bne_eq_false_iff_eq.2 hb1) ?_ ?_
 apply qK
 apply qz [(5,.imm ((bu l1).map Ty.enc)),(6,.imm ((bu l2).map Ty.enc))]
 apply ao
 apply qU 1 [(5,.imm ((bu l1).map Ty.enc)),(6,.imm ((bu l2).map Ty.enc)),(7,.int .i64 0)]
 apply qB 0
 refine bB (σ:=Nat) (fun k=>[(5,.imm ((bu l1).map Ty.enc)),(6,.imm ((bu l2).map Ty.enc)),(7,.int .i64 ((k:Nat):Int))]) (fun k=>[]) (fun k=>k≤(bu l1).length) (fun k=>(bu l1).length - k) 0 kq (by exact Nat.zero_le _) ⟨⟨kq,kq,kq,trivial⟩,by simp [aQ,aa.bel],by simp,kq,by simp [af.belO]⟩ ?_
 rintro k hk
 apply ao
 apply qV 2
 refine qy (au (l:=(bu l1)) (enc:=Ty.enc) kq ba) ?_ ?_ ?_
 apply qR 1 [(5,.imm ((bu l1).map Ty.enc)),(6,.imm ((bu l2).map Ty.enc)),(7,nI k),(20,.bool (decide (((k:Nat):Int)<(((bu l1).length:Nat):Int))))] []
 by_cases hb2:((k:Nat):Int)<(((bu l1).length:Nat):Int)
 apply qt (decide_eq_true hb2)
 apply qK
 apply qz [(5,.imm ((bu l1).map Ty.enc)),(6,.imm ((bu l2).map Ty.enc)),(7,nI k)]
 apply ao
 apply qB 1
 apply ao
 refine cR cxM kq aJ (bq ?_)
 apply qu 2
 refine qd ((aA (k:=.i64) (l:=(bu l1)) (enc:=Ty.enc) (i:=((k:Nat):Int)) Ty.zero kq ba bV bk oq oq).trans (congrArg (fun cs=>some (aa.pimm cs 0,_)) (aU ((bu l1).getD k Ty.zero)))) ?_ ?_ ?_ ?_
 apply qu 3
 refine qd ((aA (k:=.i64) (l:=(bu l2)) (enc:=Ty.enc) (i:=((k:Nat):Int)) Ty.zero kq ba bV bk oq oq).trans (congrArg (fun cs=>some (aa.pimm cs 0,_)) (aU ((bu l2).getD k Ty.zero)))) ?_ ?_ ?_ ?_
 apply qu 1
 refine d4 (args:=[aG ((bu l1).getD k Ty.zero),aG ((bu l2).getD k Ty.zero)]) kq kq kq kq kq (xr ((bu l1).getD k Ty.zero) ((bu l2).getD k Ty.zero) (hs1 _)) (by intro _;simp [Ty.v,bo,Occ.v]) (by simp [Ty.v]) (by simp [Ty.v,bh]) ?_
 apply qu 1
 refine cq kq ⟨kq,?_⟩
 apply ab
 apply qZ [(5,.imm ((bu l1).map Ty.enc)),(6,.imm ((bu l2).map Ty.enc)),(7,nI k),(32,.bool (!(((bu l1).getD k Ty.zero).beq ((bu l2).getD k Ty.zero))))] []
 by_cases hb3:(((bu l1).getD k Ty.zero).beq ((bu l2).getD k Ty.zero))=true
 refine qf (x:=(!(((bu l1).getD k Ty.zero).beq ((bu l2).getD k Ty.zero)))) (congrArg not (hb3)) ?_ ?_
 apply qk
 apply aj
 apply ab
 apply qz [(5,.imm ((bu l1).map Ty.enc)),(6,.imm ((bu l2).map Ty.enc)),(7,nI k)]
 apply qo
 apply qr 1
 refine qy (aN (a:=((k:Nat):Int)) (b:=1) kq oq oq) ?_ ?_ ?_
 apply qr 1
 apply qe
 refine ab ⟨k+1,?_,?_,⟨⟨kq,kq,kq,trivial⟩,by simp [aQ,aa.bel],by simp,kq,by simp [af.belO]⟩⟩
 · omega
 · omega
 iterate 9 kernel_rfl
 · exfalso;first|omega|(simp_all [beq_refl])
 iterate 18 kernel_rfl
 apply qf (decide_eq_false hb2)
 refine bn 0 kq kq ?_
 apply ae
 apply ae
 apply ay
 apply ab
 apply qz []
 apply qV 1
 apply qT
 refine aL (b:=true) iq kq ?_
 · rfl
 iterate 16 kernel_rfl
 · exfalso;first|omega|(simp_all [beq_refl])
 iterate 14 kernel_rfl
noncomputable def c39:Code:=aB Tryz.f39
theorem EA (lv:Int) (m:St) (hv:0≤lv∧lv≤1000):ar cx 39 [.ptr 0 0] (hpS lv m) (fun v h=>v=(.tup [])∧h=hpS (lv+1) m):=by
 refine am (cx:=cx) 9 2 [] Tryz.func39 rfl rfl rfl rfl rfl zq ?_
 show wpA cx 9 2 (at_ c39 []) _ _ _
 apply qZ [(0,.ptr 0 0)] [bS lv,mS m]
 apply qo
 apply qr 4
 refine qy (aN (a:=(lv)) (b:=1) kq oq oq) ?_ ?_ ?_
 apply qr 3
 apply qe
 refine aM (l:=[]) jq kq (by rfl) (by simp [aK]) (by simp [aK]) ?_ ?_
 refine Eq.trans (b:=[.box [.int .i64 ((lv)+1),.map 1],mS m]) kq ?_
 · rfl
 · simp [af.belO,hpS]
 iterate 7 kernel_rfl
noncomputable def c41:Code:=aB Tryz.f41
theorem Gf (m:St) :ar cx 41 [.ptr 0 0] (hpS 1 m) (fun v h=>v=(.tup [])∧h=hpS 0 m):=by
 refine am (cx:=cx) 11 2 [] Tryz.func41 rfl rfl rfl rfl rfl zq ?_
 show wpA cx 11 2 (at_ c41 []) _ _ _
 apply qZ [(0,.ptr 0 0)] [bS 1,mS m]
 apply qo
 apply qr 10
 apply qe
 refine aM (l:=[]) jq kq (by rfl) (by simp [aK]) (by simp [aK]) ?_ ?_
 refine Eq.trans (b:=[bS 0,mS m]) kq ?_
 · rfl
 · simp [af.belO,hpS]
 iterate 4 kernel_rfl
noncomputable def c50:Code:=aB Tryz.f50
theorem Cb (l:List Int) (hl:l.length<100000000):aC cx 50 [.imm (l.map iE),.imm (l.map iE)] (.bool true):=by
 refine am (cx:=cx) 26 0 [(ResultVar.tmp 4)] Tryz.func50 rfl rfl rfl rfl rfl zq ?_
 show wpA cx 26 0 (at_ c50 []) _ _ _
 apply qZ [(0,.imm (l.map iE)),(1,.imm (l.map iE))] []
 apply qU 1 [(0,.imm (l.map iE)),(1,.imm (l.map iE))]
 apply ao
 apply qV 1
 refine qy (au (l:=l) (enc:=iE) kq cU) ?_ ?_ ?_
 apply qr 1
 refine qy (au (l:=l) (enc:=iE) kq cU) ?_ ?_ ?_
 apply qR 1 [(0,.imm (l.map iE)),(1,.imm (l.map iE)),(10,.bool (((l.length:Nat):Int) != ((l.length:Nat):Int)))] []
 by_cases hb1:((l.length:Nat):Int)=((l.length:Nat):Int)
 refine qf (x:=(((l.length:Nat):Int) != ((l.length:Nat):Int))) (bne_eq_false_iff_eq.2 hb1) ?_ ?_
 apply qK
 apply qz [(0,.imm (l.map iE)),(1,.imm (l.map iE))]
 apply ao
 apply qU 1 [(0,.imm (l.map iE)),(1,.imm (l.map iE)),(5,.int .i64 0)]
 apply qB 0
 refine bB (σ:=Nat) (fun k=>[(0,.imm (l.map iE)),(1,.imm (l.map iE)),(5,.int .i64 ((k:Nat):Int))]) (fun k=>[]) (fun k=>k≤l.length) (fun k=>l.length - k) 0 kq (by exact Nat.zero_le _) ⟨⟨kq,kq,kq,trivial⟩,by simp [aQ,aa.bel],by simp,kq,by simp [af.belO]⟩ ?_
 rintro k hk
 apply ao
 apply qV 2
 refine qy (au (l:=l) (enc:=iE) kq cU) ?_ ?_ ?_
 apply qR 1 [(0,.imm (l.map iE)),(1,.imm (l.map iE)),(5,nI k),(14,.bool (decide (((k:Nat):Int)<((l.length:Nat):Int))))] []
 by_cases hb2:((k:Nat):Int)<((l.length:Nat):Int)
 apply qt (decide_eq_true hb2)
 apply qK
 apply qz [(0,.imm (l.map iE)),(1,.imm (l.map iE)),(5,nI k)]
 apply ao
 apply qB 1
 apply ao
 refine cR cxM kq aJ (bq ?_)
 apply qu 2
 refine qd (aA (k:=.i64) (l:=l) (enc:=iE) (i:=((k:Nat):Int)) 0 kq cU ty3 (fun _=>rfl) oq oq) ?_ ?_ ?_ ?_
 apply qu 3
 refine qd (aA (k:=.i64) (l:=l) (enc:=iE) (i:=((k:Nat):Int)) 0 kq cU ty3 (fun _=>rfl) oq oq) ?_ ?_ ?_ ?_
 apply qu 2
 refine cq kq ⟨kq,?_⟩
 apply ab
 apply qZ [(0,.imm (l.map iE)),(1,.imm (l.map iE)),(5,nI k),(25,.bool (((l.getD k 0)) != ((l.getD k 0))))] []
 by_cases hb3:((l.getD k 0))=((l.getD k 0))
 refine qf (x:=(((l.getD k 0)) != ((l.getD k 0)))) (bne_eq_false_iff_eq.2 hb3) ?_ ?_
 apply qk
 apply aj
 apply ab
 apply qz [(0,.imm (l.map iE)),(1,.imm (l.map iE)),(5,nI k)]
 apply qo
 apply qr 1
 refine qy (aN (a:=((k:Nat):Int)) (b:=1) kq oq oq) ?_ ?_ ?_
 apply qr 1
 apply qe
 refine ab ⟨k+1,?_,?_,⟨⟨kq,kq,kq,trivial⟩,by simp [aQ,aa.bel],by simp,kq,by simp [af.belO]⟩⟩
 · omega
 · omega
 iterate 9 kernel_rfl
 · exfalso;simp_all
 iterate 17 kernel_rfl
 apply qf (decide_eq_false hb2)
 refine bn 0 kq kq ?_
 apply ae
 apply ae
 apply ay
 apply ab
 apply qz []
 apply qV 1
 apply qT
 refine aL (b:=true) iq kq ?_
 · rfl
 iterate 16 kernel_rfl
 · exfalso;simp_all
 iterate 10 kernel_rfl
@[simp] theorem Ed (k:Nat):∀ n,bN k (List.replicate n aa.any)=true
 | 0=>rfl
 | n+1=>by simp [List.replicate_succ,bN,Ed k n,aa.bel]
noncomputable def c86:Code:=aB Tryz.f86
theorem lc {p:Prop} (h:p:=by simp [aK]):p:=h
theorem lJ (n lv:Int) (m:St) :ar cx 86 [.int .i64 (n),.ptr 2 0] [bS lv,mS m,pB] (fun v h=>v=(.bool (decide (fD m n≤lv)))∧h=[bS lv,mS m,pB]):=by
 refine am (cx:=cx) 16 3 [(ResultVar.tmp 3)] Tryz.func86 rfl rfl rfl rfl rfl zq ?_
 show wpA cx 16 3 (at_ c86 []) _ _ _
 apply qZ [(0,.int .i64 (n)),(1,.ptr 2 0)] [bS lv,mS m,pB]
 apply qU 1 [(0,.int .i64 (n)),(1,.ptr 2 0)]
 apply ao
 refine cR cxM kq aJ (bq ?_)
 apply qu 5
 rcases hm1:ai (n) m with _|x1
 refine qd (eO (ok:=false) (o:=1) (ek:=iE) (ev:=Vr.v) (l:=m) (k:=(n)) df hm1 kq ip ty3 rfl jw kq) ?_ ?_ ?_ ?_
 apply qu 7
 refine cq kq ⟨kq,?_⟩
 apply ab
 apply qZ [(3,.bool (decide (0≤(lv))))] [bS lv,mS m,pB]
 refine a8 kq ?_
 refine aM (l:=[.bool (decide (0≤(lv)))]) iq kq (by simp [aK,aa.frz,fD, *]) lc lc ?_ ?_
 refine Eq.trans (b:=[bS lv,mS m,pB]) kq ?_
 · rfl
 · simp [af.belO]
 iterate 5 kernel_rfl
 refine qd (cg (ok:=false) (o:=1) (ek:=iE) (ev:=Vr.v) (l:=m) (k:=(n)) (x:=x1) df hm1 kq ip ty3 rfl jw kq) ?_ ?_ ?_ ?_
 apply qu 7
 refine cq kq ⟨kq,?_⟩
 apply ab
 apply qZ [(3,.bool (decide ((x1.lv)≤(lv))))] [bS lv,mS m,pB]
 refine a8 kq ?_
 refine aM (l:=[.bool (decide ((x1.lv)≤(lv)))]) iq kq (by simp [aK,aa.frz,fD, *]) lc lc ?_ ?_
 refine Eq.trans (b:=[bS lv,mS m,pB]) kq ?_
 · rfl
 · simp [af.belO]
 iterate 9 kernel_rfl
noncomputable def IW:Code:=aB Tryz.f115
theorem iS {p:Prop} (h:p:=by simp [af.belO,Ty.v]):p:=h
theorem GZ (l:List Int) (lv:Int) (m:St) (u:Ty) (hl:l.length<100000000) (hA:∀ i,i<l.length→¬ fD m (l.getD (0+i) 0)≤lv):ar cx 115 [.own 4 0 l.length,.fn (.func 86) [] [.ptr 2 0]] [bS lv,mS m,pB,u.bx,.arr 1 (l.map iE) 0] (fun v h=>v=(.int .i64 (-1))∧h=[bS lv,mS m,pB,u.bx,.arr 1 (l.map iE) 0]):=by
 refine am (cx:=cx) 19 5 [(ResultVar.tmp 4)] Tryz.func115 rfl rfl rfl rfl rfl zq ?_
 show wpA cx 19 5 (at_ IW []) _ _ _
 apply qZ [(0,.own 4 0 l.length),(1,.fn (.func 86) [] [.ptr 2 0])] [bS lv,mS m,pB,u.bx,.arr 1 (l.map iE) 0]
 apply qU 1 [(0,.own 4 0 l.length),(1,.fn (.func 86) [] [.ptr 2 0])]
 apply ao
 apply qV 1
 refine qy (d8 (o:=4) (off:=0) (len:=l.length) (sz:=1) (es:=(l.map iE)) (fr:=0) kq cU kq zq) ?_ ?_ ?_
 apply qR 1 [(0,.own 4 0 l.length),(1,.fn (.func 86) [] [.ptr 2 0]),(7,nI l.length),(8,.int .i64 0)] [bS lv,mS m,pB,u.bx,.arr 1 (l.map iE) 0]
 apply qB 0
 refine bB (σ:=Nat) (fun k=>[(0,.own 4 0 l.length),(1,.fn (.func 86) [] [.ptr 2 0]),(7,.int .i64 ((l.length:Nat):Int)),(8,.int .i64 ((k:Nat):Int))]) (fun k=>[bS lv,mS m,pB,u.bx,.arr 1 (l.map iE) 0]) (fun k=>k≤l.length) (fun k=>l.length - k) 0 kq (by exact Nat.zero_le _) ⟨⟨kq,kq,kq,kq,trivial⟩,by simp [aQ,aa.bel],by simp,kq,by simp [af.belO,Ty.v]⟩ ?_
 rintro k hk
 apply qW 1 [(0,.own 4 0 l.length),(1,.fn (.func 86) [] [.ptr 2 0]),(7,nI l.length),(8,nI k),(9,.bool (decide (((k:Nat):Int)<((l.length:Nat):Int))))] [bS lv,mS m,pB,u.bx,.arr 1 (l.map iE) 0]
 apply ao
 by_cases hb1:((k:Nat):Int)<((l.length:Nat):Int)
 apply qt (decide_eq_true hb1)
 apply qK
 apply qz [(0,.own 4 0 l.length),(1,.fn (.func 86) [] [.ptr 2 0]),(7,nI l.length),(8,nI k)]
 apply ao
 apply qB 1
 apply qU 2 [(0,.own 4 0 l.length),(1,.fn (.func 86) [] [.ptr 2 0]),(5,nI k),(7,nI l.length),(8,nI k)]
 apply qV 3
 refine qy (dO (k:=.i64) (i:=((k:Nat):Int)) (o:=4) (off:=0) (len:=l.length) (sz:=1) (fr:=0) (es:=(l.map iE)) kq cU ty3 kq rfl zq oq oq) ?_ ?_ ?_
 refine qy (fH (t:=3) (o:=4) (idx:=(0+k)) (off:=0) (k:=((l.map iE).length)) (sz:=1) (fr:=0) (es:=(l.map iE)) (x:=iE (l.getD (0+k) 0)) (v:=.int .i64 ((l.getD (0+k) 0))) kq kq zq (fS _ _ _ _ oq) kq) ?_ ?_ ?_
 refine aT (args:=[.int .i64 ((l.getD (0+k) 0)),.ptr 2 0]) (hs:=[bS lv,mS m,pB]) (hs':=[bS lv,mS m,pB]) (aO:=[u.bx,.arr 1 (l.map iE) 0]) kq kq kq kq kq (lJ ((l.getD (0+k) 0)) (lv) m) iS iS rfl iS iS kq ?_
 apply qN [(0,.own 4 0 l.length),(1,.fn (.func 86) [] [.ptr 2 0]),(5,nI k),(7,nI l.length),(8,nI k),(16,.bool (decide (fD m ((l.getD (0+k) 0))≤(lv))))] [bS lv,mS m,pB,u.bx,.arr 1 (l.map iE) 0]
 by_cases hb2:fD m ((l.getD (0+k) 0))≤(lv)
 · exfalso;exact hA k oq hb2
 apply qf (decide_eq_false hb2)
 apply qk
 apply aj
 apply ab
 apply qz [(0,.own 4 0 l.length),(1,.fn (.func 86) [] [.ptr 2 0]),(7,nI l.length),(8,nI k)]
 apply qo
 refine qy (aN (a:=((k:Nat):Int)) (b:=1) kq oq oq) ?_ ?_ ?_
 apply qr 1
 apply qe
 refine ab ⟨k+1,?_,?_,⟨⟨kq,kq,kq,kq,trivial⟩,by simp [aQ,aa.bel],by simp,kq,by simp [af.belO,Ty.v]⟩⟩
 · omega
 · omega
 iterate 21 kernel_rfl
 apply qf (decide_eq_false hb1)
 refine bn 0 kq kq ?_
 apply ae
 apply ae
 apply ay
 apply ab
 apply qz []
 apply qU 1 [(4,.int .i64 (-1))]
 refine a8 kq ?_
 refine aM (l:=[.int .i64 (-1)]) iq kq (by rfl) lc lc ?_ ?_
 refine Eq.trans (b:=[bS lv,mS m,pB,u.bx,.arr 1 (l.map iE) 0]) kq ?_
 · rfl
 · simp [af.belO,Ty.v]
 iterate 14 kernel_rfl
theorem ES (l:List Int) (lv:Int) (m:St) (u:Ty) (hl:l.length<100000000) (h0:0<l.length) (hA:∀ i,i<l.length→fD m (l.getD (0+i) 0)≤lv):ar cx 115 [.own 4 0 l.length,.fn (.func 86) [] [.ptr 2 0]] [bS lv,mS m,pB,u.bx,.arr 1 (l.map iE) 0] (fun v h=>v=(.int .i64 0)∧h=[bS lv,mS m,pB,u.bx,.arr 1 (l.map iE) 0]):=by
 refine am (cx:=cx) 19 5 [(ResultVar.tmp 4)] Tryz.func115 rfl rfl rfl rfl rfl zq ?_
 show wpA cx 19 5 (at_ IW []) _ _ _
 apply qZ [(0,.own 4 0 l.length),(1,.fn (.func 86) [] [.ptr 2 0])] [bS lv,mS m,pB,u.bx,.arr 1 (l.map iE) 0]
 apply qU 1 [(0,.own 4 0 l.length),(1,.fn (.func 86) [] [.ptr 2 0])]
 apply ao
 apply qV 1
 refine qy (d8 (o:=4) (off:=0) (len:=l.length) (sz:=1) (es:=(l.map iE)) (fr:=0) kq cU kq zq) ?_ ?_ ?_
 apply qR 1 [(0,.own 4 0 l.length),(1,.fn (.func 86) [] [.ptr 2 0]),(7,nI l.length),(8,.int .i64 0)] [bS lv,mS m,pB,u.bx,.arr 1 (l.map iE) 0]
 apply qB 0
 refine bB (σ:=Nat) (fun k=>[(0,.own 4 0 l.length),(1,.fn (.func 86) [] [.ptr 2 0]),(7,.int .i64 ((l.length:Nat):Int)),(8,.int .i64 ((k:Nat):Int))]) (fun k=>[bS lv,mS m,pB,u.bx,.arr 1 (l.map iE) 0]) (fun k=>k=0) (fun k=>l.length - k) 0 kq (by rfl) ⟨⟨kq,kq,kq,kq,trivial⟩,by simp [aQ,aa.bel],by simp,kq,by simp [af.belO,Ty.v]⟩ ?_
 rintro k hk
 apply qW 1 [(0,.own 4 0 l.length),(1,.fn (.func 86) [] [.ptr 2 0]),(7,nI l.length),(8,nI k),(9,.bool (decide (((k:Nat):Int)<((l.length:Nat):Int))))] [bS lv,mS m,pB,u.bx,.arr 1 (l.map iE) 0]
 apply ao
 by_cases hb1:((k:Nat):Int)<((l.length:Nat):Int)
 apply qt (decide_eq_true hb1)
 apply qK
 apply qz [(0,.own 4 0 l.length),(1,.fn (.func 86) [] [.ptr 2 0]),(7,nI l.length),(8,nI k)]
 apply ao
 apply qB 1
 apply qU 2 [(0,.own 4 0 l.length),(1,.fn (.func 86) [] [.ptr 2 0]),(5,nI k),(7,nI l.length),(8,nI k)]
 apply qV 3
 refine qy (dO (k:=.i64) (i:=((k:Nat):Int)) (o:=4) (off:=0) (len:=l.length) (sz:=1) (fr:=0) (es:=(l.map iE)) kq cU ty3 kq rfl zq oq oq) ?_ ?_ ?_
 refine qy (fH (t:=3) (o:=4) (idx:=(0+k)) (off:=0) (k:=((l.map iE).length)) (sz:=1) (fr:=0) (es:=(l.map iE)) (x:=iE (l.getD (0+k) 0)) (v:=.int .i64 ((l.getD (0+k) 0))) kq kq zq (fS _ _ _ _ oq) kq) ?_ ?_ ?_
 refine aT (args:=[.int .i64 ((l.getD (0+k) 0)),.ptr 2 0]) (hs:=[bS lv,mS m,pB]) (hs':=[bS lv,mS m,pB]) (aO:=[u.bx,.arr 1 (l.map iE) 0]) kq kq kq kq kq (lJ ((l.getD (0+k) 0)) (lv) m) iS iS rfl iS iS kq ?_
 apply qN [(0,.own 4 0 l.length),(1,.fn (.func 86) [] [.ptr 2 0]),(5,nI k),(7,nI l.length),(8,nI k),(16,.bool (decide (fD m ((l.getD (0+k) 0))≤(lv))))] [bS lv,mS m,pB,u.bx,.arr 1 (l.map iE) 0]
 by_cases hb2:fD m ((l.getD (0+k) 0))≤(lv)
 apply qt (decide_eq_true hb2)
 apply qU 2 [(4,nI k)]
 refine a8 kq ?_
 apply iR
 apply aR
 apply aR
 apply iR
 apply aR
 refine aM (l:=[.int .i64 ((k:Nat):Int)]) iq kq (by subst hk;rfl) lc lc ?_ ?_
 refine Eq.trans (b:=[bS lv,mS m,pB,u.bx,.arr 1 (l.map iE) 0]) kq ?_
 · rfl
 · simp [af.belO,Ty.v]
 iterate 2 kernel_rfl
 · exfalso;exact hb2 (hA k oq)
 iterate 13 kernel_rfl
 · exfalso;omega
 iterate 11 kernel_rfl
noncomputable def c85:Code:=aB Tryz.f85
theorem Ff {p:Prop} (h:p:=by simp [aK,aa.frz,bf]):p:=h
theorem HF (l:List Int) (lv:Int) (m:St) (u:Ty) (hl:l.length<100000000) (hA:∀ i,i<l.length→¬ fD m (l.getD (0+i) 0)≤lv):ar cx 85 [.own 4 0 l.length,.fn (.func 86) [] [.ptr 2 0]] [bS lv,mS m,pB,u.bx,.arr 1 (l.map iE) 0] (fun v h=>v=(.imm (l.map iE))∧h=[bS lv,mS m,pB,u.bx,.arr 1 (l.map iE) (l.map iE).length]):=by
 refine am (cx:=cx) 42 5 [(ResultVar.tmp 4)] Tryz.func85 rfl rfl rfl rfl rfl zq ?_
 show wpA cx 42 5 (at_ c85 []) _ _ _
 apply qZ [(0,.own 4 0 l.length),(1,.fn (.func 86) [] [.ptr 2 0])] [bS lv,mS m,pB,u.bx,.arr 1 (l.map iE) 0]
 apply qU 1 [(0,.own 4 0 l.length),(1,.fn (.func 86) [] [.ptr 2 0])]
 apply qV 2
 refine aT (args:=[.own 4 0 l.length,.fn (.func 86) [] [.ptr 2 0]]) (hs:=[bS lv,mS m,pB,u.bx,.arr 1 (l.map iE) 0]) (hs':=[bS lv,mS m,pB,u.bx,.arr 1 (l.map iE) 0]) (aO:=[]) kq kq kq kq kq (GZ l (lv) m u hl hA) iS iS rfl iS iS kq ?_
 apply qR 1 [(0,.own 4 0 l.length),(1,.fn (.func 86) [] [.ptr 2 0]),(5,.int .i64 (-1))] [bS lv,mS m,pB,u.bx,.arr 1 (l.map iE) 0]
 apply ao
 apply qU 2 [(0,.own 4 0 l.length),(1,.fn (.func 86) [] [.ptr 2 0]),(5,.int .i64 (-1)),(12,.bool true)]
 refine cw kq kq ?_
 apply qU 2 [(4,.own 4 0 l.length)]
 refine wR 4 4 (es:=(l.map iE)) (off:=0) (len:=l.length) (sz:=1) (fr:=0) (l.map iE) kq kq zq kq ?_
 apply qZ [(4,.imm (l.map iE))] [bS lv,mS m,pB,u.bx,.arr 1 (l.map iE) (l.map iE).length]
 refine a8 kq ?_
 apply aR
 refine aM (l:=[.imm (l.map iE)]) iq kq Ff lc lc ?_ ?_
 refine Eq.trans (b:=[bS lv,mS m,pB,u.bx,.arr 1 (l.map iE) (l.map iE).length]) kq ?_
 · rfl
 · simp [af.belO,Ty.v]
 iterate 8 kernel_rfl
theorem Gk (l:List Int) (lv:Int) (m:St) (u:Ty) (hl:l.length<100000000) (h0:0<l.length) (hA:∀ i,i<l.length→fD m (l.getD (0+i) 0)≤lv):ar cx 85 [.own 4 0 l.length,.fn (.func 86) [] [.ptr 2 0]] [bS lv,mS m,pB,u.bx,.arr 1 (l.map iE) 0] (fun v h=>v=(.imm [])∧h=[bS lv,mS m,pB,u.bx,.arr 1 (List.replicate l.length aa.any) 0]):=by
 refine am (cx:=cx) 42 5 [(ResultVar.tmp 4)] Tryz.func85 rfl rfl rfl rfl rfl zq ?_
 show wpA cx 42 5 (at_ c85 []) _ _ _
 apply qZ [(0,.own 4 0 l.length),(1,.fn (.func 86) [] [.ptr 2 0])] [bS lv,mS m,pB,u.bx,.arr 1 (l.map iE) 0]
 apply qU 1 [(0,.own 4 0 l.length),(1,.fn (.func 86) [] [.ptr 2 0])]
 apply qV 2
 refine aT (args:=[.own 4 0 l.length,.fn (.func 86) [] [.ptr 2 0]]) (hs:=[bS lv,mS m,pB,u.bx,.arr 1 (l.map iE) 0]) (hs':=[bS lv,mS m,pB,u.bx,.arr 1 (l.map iE) 0]) (aO:=[]) kq kq kq kq kq (ES l (lv) m u hl h0 hA) iS iS rfl iS iS kq ?_
 apply qR 1 [(0,.own 4 0 l.length),(1,.fn (.func 86) [] [.ptr 2 0]),(5,.int .i64 0)] [bS lv,mS m,pB,u.bx,.arr 1 (l.map iE) 0]
 apply ao
 apply qU 2 [(0,.own 4 0 l.length),(1,.fn (.func 86) [] [.ptr 2 0]),(5,.int .i64 0),(12,.bool false)]
 refine d5 kq kq ?_
 apply qK
 apply qz [(0,.own 4 0 l.length),(1,.fn (.func 86) [] [.ptr 2 0]),(5,.int .i64 0)]
 apply ao
 apply qU 3 [(0,.own 4 0 l.length),(1,.fn (.func 86) [] [.ptr 2 0]),(5,.int .i64 0),(6,.int .i64 1)]
 apply qB 0
 refine bB (σ:=Nat) (fun k=>[(0,.own 4 0 l.length),(1,.fn (.func 86) [] [.ptr 2 0]),(5,.int .i64 0),(6,.int .i64 ((k:Nat):Int))]) (fun k=>[bS lv,mS m,pB,u.bx,.arr 1 (l.map iE) 0]) (fun k=>1≤k∧k≤l.length) (fun k=>l.length - k) 1 kq oq ⟨⟨kq,kq,kq,kq,trivial⟩,by simp [aQ,aa.bel],by simp,kq,by simp [af.belO,Ty.v]⟩ ?_
 rintro k ⟨hk1,hk⟩
 apply ao
 apply qV 2
 refine qy (d8 (o:=4) (off:=0) (len:=l.length) (sz:=1) (es:=(l.map iE)) (fr:=0) kq cU kq zq) ?_ ?_ ?_
 apply qR 1 [(0,.own 4 0 l.length),(1,.fn (.func 86) [] [.ptr 2 0]),(5,.int .i64 0),(6,nI k),(19,.bool (decide (((k:Nat):Int)<((l.length:Nat):Int))))] [bS lv,mS m,pB,u.bx,.arr 1 (l.map iE) 0]
 by_cases hb1:((k:Nat):Int)<((l.length:Nat):Int)
 apply qt (decide_eq_true hb1)
 apply qK
 apply qz [(0,.own 4 0 l.length),(1,.fn (.func 86) [] [.ptr 2 0]),(5,.int .i64 0),(6,nI k)]
 apply ao
 apply qB 1
 apply qV 2
 refine qy (dO (k:=.i64) (i:=((k:Nat):Int)) (o:=4) (off:=0) (len:=l.length) (sz:=1) (fr:=0) (es:=(l.map iE)) kq cU ty3 kq rfl zq oq oq) ?_ ?_ ?_
 refine qy (fH (t:=3) (o:=4) (idx:=(0+k)) (off:=0) (k:=((l.map iE).length)) (sz:=1) (fr:=0) (es:=(l.map iE)) (x:=iE (l.getD (0+k) 0)) (v:=.int .i64 ((l.getD (0+k) 0))) kq kq zq (fS _ _ _ _ oq) kq) ?_ ?_ ?_
 apply qR 1 [(0,.own 4 0 l.length),(1,.fn (.func 86) [] [.ptr 2 0]),(5,.int .i64 0),(6,nI k),(7,.int .i64 ((l.getD (0+k) 0)))] [bS lv,mS m,pB,u.bx,.arr 1 (l.map iE) 0]
 apply qV 2
 refine aT (args:=[.int .i64 ((l.getD (0+k) 0)),.ptr 2 0]) (hs:=[bS lv,mS m,pB]) (hs':=[bS lv,mS m,pB]) (aO:=[u.bx,.arr 1 (l.map iE) 0]) kq kq kq kq kq (lJ ((l.getD (0+k) 0)) ((lv)) m) iS iS rfl iS iS kq ?_
 apply qR 1 [(0,.own 4 0 l.length),(1,.fn (.func 86) [] [.ptr 2 0]),(5,.int .i64 0),(6,nI k),(7,.int .i64 ((l.getD (0+k) 0))),(29,.bool (!(decide (fD m ((l.getD (0+k) 0))≤((lv))))))] [bS lv,mS m,pB,u.bx,.arr 1 (l.map iE) 0]
 by_cases hb2:fD m ((l.getD (0+k) 0))≤((lv))
 refine qf (x:=(!(decide (fD m ((l.getD (0+k) 0))≤((lv)))))) (congrArg not (decide_eq_true hb2)) ?_ ?_
 apply qk
 apply aj
 apply ab
 apply qz [(0,.own 4 0 l.length),(1,.fn (.func 86) [] [.ptr 2 0]),(5,.int .i64 0),(6,nI k)]
 apply qo
 apply qr 1
 refine qy (aN (a:=((k:Nat):Int)) (b:=1) kq oq oq) ?_ ?_ ?_
 apply qr 1
 apply qe
 refine ab ⟨k+1,?_,?_,⟨⟨kq,kq,kq,kq,trivial⟩,by simp [aQ,aa.bel],by simp,kq,by simp [af.belO,Ty.v]⟩⟩
 · omega
 · omega
 iterate 9 kernel_rfl
 · exfalso;exact hb2 (hA k oq)
 iterate 14 kernel_rfl
 apply qf (decide_eq_false hb1)
 refine bn 0 kq kq ?_
 apply ae
 apply ae
 apply ay
 apply ab
 apply qz [(0,.own 4 0 l.length),(5,.int .i64 0)]
 apply qV 2
 refine qy (Hu (o:=4) (len:=l.length) (sz:=1) (fr:=0) (es:=(l.map iE)) (k:=.i64) kq cU ty3 kq zq rfl) ?_ ?_ ?_
 refine Hw (o:=4) (off:=0) (len:=l.length) (es:=(l.map iE)) (fr:=0) (H':=[bS lv,mS m,pB,u.bx,.arr 1 (List.replicate l.length aa.any) 0]) kq kq kq cU ty3 kq zq dq dq kq ?_
 apply qN [(0,.own 4 0 l.length),(5,.int .i64 0)] [bS lv,mS m,pB,u.bx,.arr 1 (List.replicate l.length aa.any) 0]
 apply qV 2
 refine qy (Dk (o:=4) (len:=l.length) (sz:=1) (fr:=0) (es:=(List.replicate l.length aa.any)) (k:=.i64) kq cU ty3 kq zq rfl) ?_ ?_ ?_
 apply qR 1 [(4,.imm [])] [bS lv,mS m,pB,u.bx,.arr 1 (List.replicate l.length aa.any) 0]
 refine a8 kq ?_
 refine aM (l:=[.imm []]) iq kq Ff lc lc ?_ ?_
 refine Eq.trans (b:=[bS lv,mS m,pB,u.bx,.arr 1 (List.replicate l.length aa.any) 0]) kq ?_
 · rfl
 · simp [af.belO,Ty.v]
 iterate 27 kernel_rfl
theorem r7 {p:Prop} (h:p:=by simp [aa.frz,bf,aa.ren,b4,dZ,af.ren,bg,cd,aV,aa.owns,Ty.v,xj,vr]):p:=h
theorem ld {p:Prop} (h:p:=by simp [af.belO,hpS,Ty.v]):p:=h
theorem sO (f:Nat) (t r:Ty) (lv:Int) (m:St) (hs:t.sz<100000000) (hz:r.sz<100000000) (hm:dn m) (hh:cT m t=true) (hr:dH f m t=some r) (hA:∀ i,i<(aw [] r).length→¬ fD m ((aw [] r).getD (0+i) 0)≤lv):ar cx 37 [.ptr 0 0,Ty.v t] (hpS lv m) (fun v h=>v=(.imm ((aw [] r).map iE))∧h=hpS lv m):=by
 have hl:=ix [] r
 simp only [List.length_nil] at hl
 refine am (cx:=cx) 15 2 [(ResultVar.tmp 4)] Tryz.func37 rfl rfl rfl rfl rfl zq ?_
 show wpA cx 15 2 (at_ c37 []) _ _ _
 apply qZ [(0,.ptr 0 0),(1,Ty.v t)] [bS lv,mS m]
 apply qW 3 [(2,.ptr 2 0),(3,.ptr 3 0)] [bS lv,mS m,pB,t.bx]
 apply ao
 apply qV 2
 refine aT (args:=[.ptr 0 0,aG t]) (hs:=[bS lv,mS m]) (hs':=[bS lv,mS m]) (aO:=[pB,t.bx]) kq kq kq kq kq (qq t (lv) m oq oq) ld ld rfl ld ld kq ?_
 apply qR 1 [(2,.ptr 2 0),(3,.ptr 3 0),(8,.bool (!(cT m t)))] [bS lv,mS m,pB,t.bx]
 by_cases hb1:(cT m t)=true
 refine qf (x:=(!(cT m t))) (congrArg not (hb1)) ?_ ?_
 apply qK
 apply qz [(2,.ptr 2 0),(3,.ptr 3 0)]
 apply qV 2
 refine aT (args:=[.ptr 0 0,aG t]) (hs:=[bS lv,mS m]) (hs':=[bS lv,mS m]) (aO:=[pB,t.bx]) kq kq kq kq kq (iA f t r ((lv)) m hs hr) ld ld rfl ld ld kq ?_
 refine nj (args:=[Ty.v r]) (args':=[Ty.v r]) (V':=.own 4 0 (aw [] r).length) (F:=[bS lv,mS m,pB,t.bx]) (G':=[.arr 1 ((aw [] r).map iE) 0]) kq kq kq kq (kg r hz) [bS lv,mS m,pB,t.bx] kq r7 r7 r7 r7 r7 ?_
 apply qr 1
 refine dD (args:=[.own 4 0 (aw [] r).length,.fn (.func 86) [] [.ptr 2 0]]) (v:=.imm ((aw [] r).map iE)) (h':=[bS lv,mS m,pB,t.bx,.arr 1 ((aw [] r).map iE) ((aw [] r).map iE).length]) [bS lv,mS m,pB,t.bx,.arr 1 ((aw [] r).map iE) 0] kq kq kq kq kq (HF (aw [] r) lv m t oq hA) ?_
 apply qR 1 [(4,.imm ((aw [] r).map iE))] [bS lv,mS m,pB,t.bx,.arr 1 ((aw [] r).map iE) ((aw [] r).map iE).length]
 refine a8 kq ?_
 refine aM (l:=[.imm ((aw [] r).map iE)]) iq kq Ff lc lc ?_ ?_
 refine Eq.trans (b:=[bS lv,mS m]) kq ?_
 · rfl
 · simp [af.belO,hpS,Ty.v]
 iterate 6 kernel_rfl
 · exfalso;exact absurd hh aq
 iterate 5 kernel_rfl
theorem CD (f:Nat) (t r:Ty) (lv:Int) (m:St) (hs:t.sz<100000000) (hz:r.sz<100000000) (hm:dn m) (hh:cT m t=true) (hr:dH f m t=some r) (h0:0<(aw [] r).length) (hA:∀ i,i<(aw [] r).length→fD m ((aw [] r).getD (0+i) 0)≤lv):ar cx 37 [.ptr 0 0,Ty.v t] (hpS lv m) (fun v h=>v=(.imm [])∧h=hpS lv m):=by
 have hl:=ix [] r
 simp only [List.length_nil] at hl
 refine am (cx:=cx) 15 2 [(ResultVar.tmp 4)] Tryz.func37 rfl rfl rfl rfl rfl zq ?_
 show wpA cx 15 2 (at_ c37 []) _ _ _
 apply qZ [(0,.ptr 0 0),(1,Ty.v t)] [bS lv,mS m]
 apply qW 3 [(2,.ptr 2 0),(3,.ptr 3 0)] [bS lv,mS m,pB,t.bx]
 apply ao
 apply qV 2
 refine aT (args:=[.ptr 0 0,aG t]) (hs:=[bS lv,mS m]) (hs':=[bS lv,mS m]) (aO:=[pB,t.bx]) kq kq kq kq kq (qq t (lv) m oq oq) ld ld rfl ld ld kq ?_
 apply qR 1 [(2,.ptr 2 0),(3,.ptr 3 0),(8,.bool (!(cT m t)))] [bS lv,mS m,pB,t.bx]
 by_cases hb1:(cT m t)=true
 refine qf (x:=(!(cT m t))) (congrArg not (hb1)) ?_ ?_
 apply qK
 apply qz [(2,.ptr 2 0),(3,.ptr 3 0)]
 apply qV 2
 refine aT (args:=[.ptr 0 0,aG t]) (hs:=[bS lv,mS m]) (hs':=[bS lv,mS m]) (aO:=[pB,t.bx]) kq kq kq kq kq (iA f t r ((lv)) m hs hr) ld ld rfl ld ld kq ?_
 refine nj (args:=[Ty.v r]) (args':=[Ty.v r]) (V':=.own 4 0 (aw [] r).length) (F:=[bS lv,mS m,pB,t.bx]) (G':=[.arr 1 ((aw [] r).map iE) 0]) kq kq kq kq (kg r hz) [bS lv,mS m,pB,t.bx] kq r7 r7 r7 r7 r7 ?_
 apply qr 1
 refine dD (args:=[.own 4 0 (aw [] r).length,.fn (.func 86) [] [.ptr 2 0]]) (v:=.imm []) (h':=[bS lv,mS m,pB,t.bx,.arr 1 (List.replicate (aw [] r).length aa.any) 0]) [bS lv,mS m,pB,t.bx,.arr 1 ((aw [] r).map iE) 0] kq kq kq kq kq (Gk (aw [] r) lv m t oq h0 hA) ?_
 apply qR 1 [(4,.imm [])] [bS lv,mS m,pB,t.bx,.arr 1 (List.replicate (aw [] r).length aa.any) 0]
 refine a8 kq ?_
 refine aM (l:=[.imm []]) iq kq Ff lc lc ?_ ?_
 refine Eq.trans (b:=[bS lv,mS m]) kq ?_
 · rfl
 · simp [af.belO,hpS,Ty.v]
 iterate 6 kernel_rfl
 · exfalso;exact absurd hh aq
 iterate 5 kernel_rfl
theorem sk (f:Nat) (t r:Ty) (lv:Int) (m:St) (hs:t.sz<100000000) (hz:r.sz<100000000) (hm:dn m) (hh:cT m t=true) (hr:dH f m t=some r) (hA:∀ i,i<(aw [] r).length→fD m ((aw [] r).getD (0+i) 0)≤lv):ar cx 37 [.ptr 0 0,Ty.v t] (hpS lv m) (fun v h=>v=.imm []∧h=hpS lv m):=by
 rcases Nat.eq_zero_or_pos (aw [] r).length with h0|h0
 · have:=sO f t r lv m hs hz hm hh hr fun i hi=>by omega
   rw [List.length_eq_zero_iff.1 h0] at this
   exact this
 · exact CD f t r lv m hs hz hm hh hr h0 hA
inductive Cl:Nat→Ty→Prop
 | base (b:Nat) (k:Int) (x:List UInt8) (hf:fmd (.mk k x 0 [] [])=true) (h4:k≠4) (h5:k≠5) (h6:k≠6) (hx:x.length≤10):Cl b (.mk k x 0 [] [])
 | list (b:Nat) (t:Ty) (h:Cl b t):Cl (b+1) (.mk 4 [] 0 [] [t])
 | rcd (b:Nat) (ns:List (List UInt8)) (ks:List Ty) (hs:ns.Pairwise (fun a b=>a<b)) (hm:∀ s∈ns,s∈nm4) (hl:ns.length=ks.length) (hk:∀ k∈ks,Cl b k):Cl (b+1) (.mk 5 [] 0 ns ks)
theorem x7:∀ s∈nm4,cz 2 s=true:=by
 intro s hs
 simp only [nm4,List.mem_cons,List.not_mem_nil,or_false] at hs
 rcases hs with rfl|rfl|rfl|rfl <;> kernel_rfl
theorem Bj:∀ s∈nm4,s.length≤2:=by
 intro s hs
 simp only [nm4,List.mem_cons,List.not_mem_nil,or_false] at hs
 rcases hs with rfl|rfl|rfl|rfl <;> decide
theorem E3 {ns:List (List UInt8)} (hs:ns.Pairwise (fun a b=>a<b)) (hm:∀ s∈ns,s∈nm4):pC ns=true:=by
 refine tl fun i hi=>?_
 unfold nx
 have e:ns.getD i []=ns[i]:=by rw [List.getD_eq_getElem?_getD,List.getElem?_eq_getElem hi];rfl
 rw [e,x7 _ (hm _ (List.getElem_mem hi)),Bool.true_and,Bool.or_eq_true]
 by_cases h0:i=0
 · exact .inl (by simp [h0])
 · right
   have hi':i - 1<ns.length:=by omega
   rw [List.getD_eq_getElem?_getD,List.getElem?_eq_getElem hi',qh,decide_eq_true_eq]
   exact List.pairwise_iff_getElem.1 hs (i - 1) i hi' hi oq
theorem pp {n:Int} {ns:List (List UInt8)} {ks:List Ty} (h0:0≤n) (hs:ns.Pairwise (fun a b=>a<b)) (hm:∀ s∈ns,s∈nm4) (hl:ns.length=ks.length):fmd (.mk 5 [] n ns ks)=true:=by
 unfold fmd
 simp [E3 hs hm,h0,hl]
theorem mn {l:List Ty} (h:∀ k∈l,whl k=true):kh l=true:=by rw [xI,List.all_eq_true];exact h
structure tyN (S:St) (t:Ty):Prop where
 gt:Gt t
 wh:whl t=true
 oc:∀ o∈az t,∃ x,ai o.n S=some x∧x.row=o.row∧x.names=o.names
theorem tyN.s {S:St} {t:Ty} (h:tyN S t):tyS S t:=⟨h.gt,fun o ho=>by obtain ⟨x,h1,h2,h3⟩:=h.oc o ho;exact ⟨x,h1,h2,fun _=>h3⟩⟩
theorem tyN.up {S S':St} {t:Ty} (h:tyN S t) (hf:∀ m x,ai m S=some x→ai m S'=some x):tyN S' t:=⟨h.gt,h.wh,fun o ho=>by obtain ⟨x,h1,h2,h3⟩:=h.oc o ho;exact ⟨x,hf _ x h1,h2,h3⟩⟩
theorem tyN.ext {S S':St} {t:Ty} (h:tyN S t) (hf:Ext S S'):tyN S' t:=⟨h.gt,h.wh,fun o ho=>by obtain ⟨x,h1,h2,h3⟩:=h.oc o ho;obtain ⟨x',k1,k2,k3⟩:=hf _ x h1;exact ⟨x',k1,k2.trans h2,k3.trans h3⟩⟩
mutual
theorem AH {S:St}:∀ (t:Ty),(∀ o∈az t,∃ x,ai o.n S=some x∧x.row=o.row∧x.names=o.names)→i3 S t=true
 | .mk k x n l ks,h=>by
  have ih:=xC ks fun o ho=>h o (by rw [az,List.mem_append,List.mem_append];exact .inl (.inr ho))
  rw [i3,ih,Bool.and_true]
  by_cases hv:isV k n=true
  · have hv':=hv
    simp only [isV,Bool.or_eq_true,decide_eq_true_eq,Bool.and_eq_true] at hv
    rcases hv with rfl|⟨rfl,hn⟩
    · obtain ⟨y,h1,h2,h3⟩:=h ⟨n,false,[]⟩ cE
      rw [As (t:=.mk 6 x n l ks) hv' h1,h2];rfl
    · obtain ⟨y,h1,h2,h3⟩:=h ⟨n,true,l⟩ (cm hn)
      rw [As (t:=.mk 5 x n l ks) hv' h1,h2,h3]
      simp
  · exact GD (t:=.mk k x n l ks) hv
theorem xC {S:St}:∀ (l:List Ty),(∀ o∈aF l,∃ x,ai o.n S=some x∧x.row=o.row∧x.names=o.names)→cr S l=true
 | [],_=>rfl
 | t::l,h=>by
  rw [cr,AH t fun o ho=>h o (by rw [aF,List.mem_append];exact .inl ho),xC l fun o ho=>h o (by rw [aF,List.mem_append];exact .inr ho)];rfl
end
theorem xO {l:List Occ} {i:Nat} (hi:i<l.length):l.getD i Occ.zero∈l:=by
 rw [List.getD_eq_getElem?_getD,List.getElem?_eq_getElem hi];exact List.getElem_mem hi
theorem tyN.has {S:St} {t:Ty} (h:tyN S t):cT S t=true:=by
 rw [cT,Bool.and_eq_true]
 refine ⟨?_,AH t h.oc⟩
 rw [yk,tJ,h.wh,Bool.true_and]
 refine zI fun i hi k hk=>?_
 obtain ⟨x,h1,h2,h3⟩:=h.oc _ (xO hi)
 obtain ⟨y,k1,k2,k3⟩:=h.oc _ (xO (show k<(az t).length by omega))
 unfold pJ
 by_cases e:((az t).getD i Occ.zero).n=((az t).getD k Occ.zero).n
 · rw [e,k1] at h1
   cases h1
   rw [← h2,← k2,← h3,← k3];simp
 · rw [beq_eq_false_iff_ne.2 e];rfl
theorem Cl.gt {b:Nat} {t:Ty} (h:Cl b t):Gt t:=by
 induction h with
 | base b k x hf h4 h5 h6 hx=>exact .leaf k x h4 h5 h6
 | list b t h ih=>exact .list t ih
 | rcd b ns ks hs hm hl hk ih=>exact .rcd 0 ns ks dq hs hl ih
theorem Cl.oc {b:Nat} {t:Ty} (h:Cl b t):∀ o,o∉az t:=by
 induction h with
 | base b k x hf h4 h5 h6 hx =>
  intro o ho
  rcases bD ho with h|h|⟨t',ht,_⟩
  · exact h6 h.1
  · exact h5 h.1
  · simp at ht
 | list b t h ih=>intro o ho;exact ih o (Gt.occ_list ho)
 | rcd b ns ks hs hm hl hk ih =>
  intro o ho
  rcases dU (t:=.mk 5 [] 0 ns ks) rfl ho with ⟨hn,_⟩|⟨k,hk',ho⟩
  · exact hn rfl
  · exact ih k hk' o ho
theorem Cl.wh {b:Nat} {t:Ty} (h:Cl b t):whl t=true:=by
 induction h with
 | base b k x hf h4 h5 h6 hx=>rw [eJ,hf];rfl
 | list b t h ih=>rw [eJ];simp [kh,ih,fmd]
 | rcd b ns ks hs hm hl hk ih=>rw [eJ,pp dq hs hm hl];exact mn ih
theorem Cl.ft {h':Int→Nat} {b:Nat} {t:Ty} (h:Cl b t):Ft h' b t:=by
 induction h with
 | base b k x hf h4 h5 h6 hx=>exact .leaf b k x ⟨hx,hf⟩ h5 h6
 | list b t h ih=>exact .list b t ih
 | rcd b ns ks hs hm hl hk ih=>exact .rcd b 0 ns ks (fun h=>absurd rfl h) (aE hs) hm hl ih
theorem Cl.tyN {S:St} {b:Nat} {t:Ty} (h:Cl b t):tyN S t:=⟨h.gt,h.wh,fun o ho=>absurd ho (h.oc o)⟩
theorem Cl.sub {σ:Int→Ty} {b:Nat} {t:Ty} (h:Cl b t):sub σ t=t:=q9 h.gt fun o ho=>absurd ho (h.oc o)
theorem Cl.up {b:Nat} {t:Ty} (h:Cl b t):Cl (b+1) t:=by
 induction h with
 | base b k x hf h4 h5 h6 hx=>exact .base _ k x hf h4 h5 h6 hx
 | list b t h ih=>exact .list _ t ih
 | rcd b ns ks hs hm hl hk ih=>exact .rcd _ ns ks hs hm hl ih
theorem ww {b:Nat} {k:Int} (h0:0≤k) (h5:k<5):Cl b (j5 k):=by
 have:k=0∨k=1∨k=2∨k=3∨k=4:=by omega
 rcases this with rfl|rfl|rfl|rfl|rfl
 · exact .base b 0 [] kq dq dq dq dq
 · exact .base b 1 [] kq dq dq dq dq
 · exact .base b 2 [] kq dq dq dq dq
 · exact .base b 3 [67,111,108,111,114] kq dq dq dq dq
 · exact .base b 3 [83,104,97,112,101] kq dq dq dq dq
theorem sF {s:List UInt8}:∀ {l:List (List UInt8)},(∀ x∈l,x<s)→ig l s=l.length
 | [],_=>rfl
 | x::l,h=>by
  have hx:aY x s=true:=by rw [qh,decide_eq_true_eq];exact h x List.mem_cons_self
  have ih:=sF (l:=l) fun y hy=>h y (List.mem_cons_of_mem _ hy)
  unfold ig at ih ⊢
  rw [List.takeWhile_cons,if_pos hx,List.length_cons,List.length_cons,ih]
theorem Ek {t x:Ty} {s:List UInt8} (hl:t.names.length=t.kids.length) (h:∀ y∈t.names,y<s):mQ t s x=.mk 5 [] t.n (t.names++[s]) (t.kids++[x]):=by
 unfold mQ o7 jT
 rw [sF h,hl]
 simp [List.take_of_length_le,← hl]
theorem G3 {i j:Nat} (h:i<j) (hj:j<4):nms.getD i []<nms.getD j []:=by
 have:(i=0∧j=1)∨(i=0∧j=2)∨(i=0∧j=3)∨(i=1∧j=2)∨(i=1∧j=3)∨(i=2∧j=3):=by omega
 rcases this with ⟨rfl,rfl⟩|⟨rfl,rfl⟩|⟨rfl,rfl⟩|⟨rfl,rfl⟩|⟨rfl,rfl⟩|⟨rfl,rfl⟩ <;> decide
structure rcI (b i:Nat) (o:Ty):Prop where
 cl:Cl (b+1) o
 k5:o.kind=5
 lt:∀ y∈o.names,∃ j,j<i∧y=nms.getD j []
theorem Ak {b:Nat} {kid:Nat→Ty} (hk:∀ i,Cl b (kid i)):∀ (f i:Nat) (w:Int) (o:Ty),i+f≤4→rcI b i o→Cl (b+1) (nU kid f i w o)
 | 0,i,w,o,_,h=>h.cl
 | f+1,i,w,o,hi,h=>by
  rw [nU]
  refine Ak hk f (i+1) _ _ oq ?_
  split
  · obtain ⟨hc,h5,hlt⟩:=h
    have key:∀ y∈o.names,y<nms.getD i []:=fun y hy=>by obtain ⟨j,hj,rfl⟩:=hlt y hy;exact G3 hj oq
    cases hc with
    | base _ k x hf h4 h5' h6 hx=>exact absurd h5 h5'
    | list b t h=>exact absurd h5 zq
    | rcd b ns ks hs hm hl hkk =>
     have e:=Ek (t:=.mk 5 [] 0 ns ks) (x:=kid i) hl key
     simp only [Ty.n_mk,Ty.names_mk,Ty.kids_mk] at e key hlt
     rw [e]
     refine ⟨.rcd b _ _ ?_ ?_ (by simp [hl]) ?_,rfl,?_⟩
     · rw [List.pairwise_append]
       exact ⟨hs,by simp,fun a ha c hc=>by simp only [List.mem_singleton] at hc;subst hc;exact key a ha⟩
     · intro s hs'
       rcases List.mem_append.1 hs' with h|h
       · exact hm s h
       · rw [List.mem_singleton.1 h]
         have:i=0∨i=1∨i=2∨i=3:=by omega
         rcases this with rfl|rfl|rfl|rfl <;> decide
     · intro k hk'
       rcases List.mem_append.1 hk' with h|h
       · exact hkk k h
       · rw [List.mem_singleton.1 h];exact hk i
     · intro y hy
       simp only [Ty.names_mk] at hy
       rcases List.mem_append.1 hy with h|h
       · obtain ⟨j,hj,e⟩:=hlt y h;exact ⟨j,by omega,e⟩
       · exact ⟨i,by omega,List.mem_singleton.1 h⟩
  · exact ⟨h.cl,h.k5,fun y hy=>by obtain ⟨j,hj,e⟩:=h.lt y hy;exact ⟨j,by omega,e⟩⟩
theorem rC (l:List Int):∀ d q,Cl d (bb l d q)
 | 0,q=>by
  have:=px (d6 l q 8 dq).1 (show (0:Int)<5 by decide)
  exact ww this.1 this.2
 | d+1,q=>by
  have ih:=rC l d
  have h0:=(d6 l q 8 dq).1
  unfold bb
  split
  · rename_i h;exact ww h0 h
  · split
    · exact .list d _ (ih _)
    · exact Ak (fun i=>ih _) 4 0 _ y7 dq ⟨.rcd d [] [] .nil zq rfl zq,rfl,fun y hy=>by simp [y7] at hy⟩
structure Bl (lv:Int) (S S':St) (h h':Int→Nat) (d:Nat) (σ σ':Int→Ty) (r t:Ty):Prop where
 inv:Inv S'
 sol:Sol S' σ'
 agr:∀ n x,ai n S=some x→σ' n=σ n
 old:∀ n x,ai n S=some x→h' n=h n
 stf:StF S' h'
 ft:Ft h' d r
 eq:sub σ' r=t
 ty:tyN S' r
 sm:dn S'
 len:S'.length≤S.length+t.sz
 fix:∀ m x,ai m S=some x→ai m S'=some x
 nw:∀ m x,ai m S'=some x→ai m S=some x∨(x.lv=lv∧x.bd=false∧(x.row=false→x.names=[]))
theorem pj {S:St} (wf:Wf S) {v:Vr} (hb:v.bd=false) (hs:v.names.Pairwise (fun a b=>a<b)):New S (aI ((S.length+1:Nat):Int) v S) v :=
 ⟨iF wf.fresh,by rw [aP,if_pos rfl],fun m hm=>by rw [aP,if_neg hm],hb,hs⟩
theorem tI {S S':St} {v:Vr} (wf:Wf S) (h:New S S' v):∀ m x,ai m S=some x→ai m S'=some x:=fun m x hx=>by rw [h.oth m (wf.ne hx)];exact hx
theorem C1 {S S':St} {v:Vr} {lv:Int} (h:New S S' v) (hl:v.lv=lv) (hz:v.row=false→v.names=[]):∀ m x,ai m S'=some x→ai m S=some x∨(x.lv=lv∧x.bd=false∧(x.row=false→x.names=[])):=fun m x hx=>by
 by_cases e:m=((S.length+1:Nat):Int)
 · rw [e,h.at_] at hx;cases hx;exact .inr ⟨hl,h.bd,hz⟩
 · rw [h.oth m e] at hx;exact .inl hx
theorem un {S S':St} {v:Vr} {h:Int→Nat} {b:Nat} (wf:Wf S) (hn:New S S' v) (hF:StF S h):StF S' (fun m=>if m=((S.length+1:Nat):Int) then b else h m):=fun m y hy hyb=>by
 by_cases e:m=((S.length+1:Nat):Int)
 · rw [e,hn.at_] at hy;cases hy;rw [hn.bd] at hyb;cases hyb
 · rw [hn.oth m e] at hy
   simp only
   rw [if_neg e]
   exact (hF m y hy hyb).in (fun n x hx=>if_neg (wf.ne hx)) (tV wf hy hyb).2
theorem zt {S S':St} {v:Vr} (h:New S S' v) (hs:dn S) (hv:v.names.length<100000000):dn S':=fun m x hx=>by
 by_cases e:m=((S.length+1:Nat):Int)
 · rw [e,h.at_] at hx;cases hx;exact hv
 · rw [h.oth m e] at hx;exact hs m x hx
theorem Gs {ns:List (List UInt8)} {ks:List Ty} {n:Int} (hs:ns.Pairwise (fun a b=>a<b)) (hl:ns.length=ks.length) (h0:0≤n) (hk:∀ k∈ks,Gt k):cc ns ks n=.mk 5 [] n ns ks:=by
 have hg:Gt (cc ns ks n):=ug (dv _ zq) h0 fun p hp=>by
  rcases d7 hp with h|h
  · exact hk _ h.2
  · simp at h
 refine eu hg (.rcd n ns ks h0 hs hl hk) rfl rfl rfl fun s=>?_
 unfold cc
 rw [pa (dv _ zq),iT (t:=ed ns ks) (aE hs) hl]
 show (fg s (ed ns ks)).orElse _=fg s (.mk 5 [] n ns ks)
 have:fg s (ed ns ks)=fg s (.mk 5 [] n ns ks):=rfl
 rw [this]
 cases fg s (.mk 5 [] n ns ks) <;> simp [ai]
structure BlK (lv:Int) (S T:St) (h h':Int→Nat) (d:Nat) (σ σ':Int→Ty) (t:Ty) (k:Nat) (ns:List (List UInt8)) (ks:List Ty):Prop where
 inv:Inv T
 sol:Sol T σ'
 agr:∀ n x,ai n S=some x→σ' n=σ n
 old:∀ n x,ai n S=some x→h' n=h n
 stf:StF T h'
 sm:dn T
 len:T.length≤S.length+Ty.szL (t.kids.take k)
 fix:∀ m x,ai m S=some x→ai m T=some x
 nw:∀ m x,ai m T=some x→ai m S=some x∨(x.lv=lv∧x.bd=false∧(x.row=false→x.names=[]))
 sl:ns.Sublist (t.names.take k)
 ll:ns.length=ks.length
 ok:∀ p∈ns.zip ks,tyN T p.2∧Ft h' d p.2∧fg p.1 t=some (sub σ' p.2)
theorem CJ {α β:Type} {a:List α} {b:List β} {x:α} {y:β} (h:a.length=b.length):(a++[x]).zip (b++[y])=a.zip b++[(x,y)]:=by
 rw [List.zip_append h];rfl
theorem ED {α β:Type} {a:List α} {b:List β} (h:a.length=b.length) {y:β} (hy:y∈b):∃ x,(x,y)∈a.zip b:=by
 obtain ⟨i,hi,e⟩:=List.getElem_of_mem hy
 have hz:i<(a.zip b).length:=by rw [List.length_zip];omega
 have hm:=List.getElem_mem hz
 rw [List.getElem_zip,e] at hm
 exact ⟨_,hm⟩
theorem pk {S:St} {σ τ:Int→Ty} {t:Ty} (h:tyN S t) (ha:∀ n x,ai n S=some x→τ n=σ n):sub τ t=sub σ t:=dA t fun o ho=>by obtain ⟨x,h1,_⟩:=h.oc o ho;exact ha _ x h1
theorem tyN.in {S:St} {t:Ty} (h:tyN S t):∀ o∈az t,∃ y,ai o.n S=some y∧y.row=o.row:=h.s.in
section
variable {l:List Int} {lv:Int} {n:Nat}
theorem sI {d q:Nat} {t:Ty} {p:Int} {S:St} {h σ} (ih:∀ (x:Ty) (S:St) (q:Nat) (h:Int→Nat) (σ:Int→Ty),Cl d x→x.sz≤n→Inv S→Sol S σ→StF S h→dn S→S.length+x.sz<100000000→∃ r S' h' σ',dY l lv n S x q=some (r,S')∧Bl lv S S' h h' d σ σ' r x)
 (hnd:t.names.Nodup) (hl:t.names.length=t.kids.length) (hkc:∀ k∈t.kids,Cl d k) (hkn:∀ k∈t.kids,k.sz≤n) (hi:Inv S) (hs:Sol S σ) (hF:StF S h) (hm:dn S) (hlen:S.length+t.sz<100000000) :
 ∀ k,k≤t.names.length→∃ ns ks T h' σ',eE (dY l lv n) l t p q k S=some (ns,ks,T)∧BlK lv S T h h' d σ σ' t k ns ks∧(p > 3→ns=t.names.take k)
 | 0,_=>⟨[],[],S,h,σ,rfl,⟨hi,hs,fun _ _ _=>rfl,fun _ _ _=>rfl,hF,hm,by simp [Ty.szL],fun _ _ h=>h,fun _ _ h=>.inl h,by simp,rfl,by simp⟩,fun _=>by simp⟩
 | k+1,hk=>by
  obtain ⟨ns,ks,T,h1,σ1,e1,b1,g1⟩:=sI ih hnd hl hkc hkn hi hs hF hm hlen k oq
  have hkk:k<t.kids.length:=by omega
  have hkm:t.kids.getD k Ty.zero∈t.kids:=by rw [List.getD_eq_getElem?_getD,List.getElem?_eq_getElem hkk];exact List.getElem_mem hkk
  have hsz:=nE t.kids k hkk
  have hst:=gT t
  have hzt:Ty.szL (t.kids.take k)+(t.kids.getD k Ty.zero).sz≤Ty.szL (t.kids.take (k+1)):=by
   rw [eB t.kids k hkk,uq];simp only [Ty.szL];omega
  have hfk:fg (t.names.getD k []) t=some (t.kids.getD k Ty.zero):=(zE hnd hl).2 ⟨k,by omega,rfl,rfl⟩
  have htk:t.names.take (k+1)=t.names.take k++[t.names.getD k []]:=kH t.names k [] oq
  by_cases hc:p > 3∨ap l (q+5+k) 2=0
  · obtain ⟨r,T2,h2,σ2,e2,b2⟩:=ih (t.kids.getD k Ty.zero) T (q+2+2 * k) h1 σ1 (hkc _ hkm) (hkn _ hkm) b1.inv b1.sol b1.stf b1.sm (by have:=b1.len;omega)
    refine ⟨ns++[t.names.getD k []],ks++[r],T2,h2,σ2,?_,⟨b2.inv,b2.sol,fun n x hx=>?_,fun n x hx=>?_,b2.stf,b2.sm,?_,fun m x hx=>b2.fix m x (b1.fix m x hx),fun m x hx=>?_,?_,by simp [b1.ll],fun p' hp=>?_⟩,fun hp=>?_⟩
    · rw [eE,e1];simp only [if_pos hc,e2]
    · rw [b2.agr n x (b1.fix n x hx),b1.agr n x hx]
    · rw [b2.old n x (b1.fix n x hx),b1.old n x hx]
    · have:=b1.len;have:=b2.len;omega
    · rcases b2.nw m x hx with h|h
      · exact b1.nw m x h
      · exact .inr h
    · rw [htk];exact b1.sl.append (List.Sublist.refl _)
    · rw [CJ b1.ll] at hp
      rcases List.mem_append.1 hp with h|h
      · obtain ⟨o1,o2,o3⟩:=b1.ok p' h
        exact ⟨o1.up b2.fix,o2.in b2.old o1.in,by rw [o3,pk o1 b2.agr]⟩
      · rw [List.mem_singleton.1 h]
        exact ⟨b2.ty,b2.ft,by rw [b2.eq];exact hfk⟩
    · rw [g1 hp,htk]
  · refine ⟨ns,ks,T,h1,σ1,?_,⟨b1.inv,b1.sol,b1.agr,b1.old,b1.stf,b1.sm,by have:=b1.len;omega,b1.fix,b1.nw,?_,b1.ll,b1.ok⟩,fun hp=>absurd (.inl hp) hc⟩
    · rw [eE,e1];simp only [if_neg hc]
    · rw [htk];exact b1.sl.trans (List.sublist_append_left _ _)
theorem mH:∀ (n d:Nat) (t:Ty) (S:St) (q:Nat) (h:Int→Nat) (σ:Int→Ty),szB d<lim→Cl d t→t.sz≤n→Inv S→Sol S σ→StF S h→dn S→S.length+t.sz<100000000→∃ r S' h' σ',dY l lv n S t q=some (r,S')∧Bl lv S S' h h' d σ σ' r t
 | 0,d,t,S,q,h,σ,hb,hc,hz,hi,hs,hF,hm,hlen=>by have:=gT t;omega
 | n+1,d,t,S,q,h,σ,hb,hc,hz,hi,hs,hF,hm,hlen=>by
  have wf:=hi.1
  have hst:=gT t
  by_cases hp:ap l q 6=0
  · have hnew:=pj wf (v:=⟨false,lv,false,Ty.zero,[]⟩) rfl .nil
    refine ⟨.mk 6 [] ((S.length+1:Nat):Int) [] [],ju lv S,(fun m=>if m=((S.length+1:Nat):Int) then d else h m),upd σ ((S.length+1:Nat):Int) t,by rw [dY,if_pos hp,if_pos (show S.length<100000000 by omega)],⟨hi.new hnew,hnew.sol wf hs hc.gt (fun h=>by cases h),fun n x hx=>eA (wf.ne hx),fun n x hx=>if_neg (wf.ne hx),un wf hnew hF,.var d _ zq,?_,⟨.var _ oq,?_,fun o ho=>?_⟩,zt hnew hm zq,?_,tI wf hnew,C1 hnew rfl fun _=>rfl⟩⟩
    · rw [de,fh]
    · rw [eJ];simp [kh,fmd];omega
    · rcases bD ho with h|h|⟨t',ht,_⟩
      · rw [h.2];exact ⟨_,hnew.at_,rfl,rfl⟩
      · exact absurd h.1 dq
      · simp at ht
    · have:=hnew.len
      have e:(ju lv S).length=S.length+1:=this
      rw [e];omega
  cases hc with
  | base d k x hf h4 h5 h6 hx =>
   refine ⟨_,_,h,σ,by rw [dY,if_neg hp,if_neg (fun hk=>h4 hk.1),if_pos (show ¬ (Ty.mk k x 0 [] []).kind=5 from h5)],⟨hi,hs,fun _ _ _=>rfl,fun _ _ _=>rfl,hF,.leaf d k x ⟨hx,hf⟩ h5 h6,(Cl.base d k x hf h4 h5 h6 hx).sub,(Cl.base d k x hf h4 h5 h6 hx).tyN,hm,by omega,fun _ _ h=>h,fun _ _ h=>.inl h⟩⟩
  | list d x hx =>
   simp only [Ty.kids_mk,Ty.szL,Ty.name_mk,Ty.names_mk,szS,List.length_nil] at hst
   obtain ⟨r,S',h',σ',e,b⟩:=mH n d x S (q+1) h σ (by simp only [szB] at hb;omega) hx oq hi hs hF hm oq
   refine ⟨lsT r,S',h',σ',?_,⟨b.inv,b.sol,b.agr,b.old,b.stf,.list d r b.ft,?_,⟨.list r b.ty.gt,?_,fun o ho=>b.ty.oc o (Gt.occ_list ho)⟩,b.sm,by have:=b.len;omega,b.fix,b.nw⟩⟩
   · rw [dY,if_neg hp,if_pos ⟨rfl,rfl⟩]
     simp only [Ty.kids_mk,List.getD_cons_zero,e]
   · show sub σ' (.mk 4 [] 0 [] [r])=_
     rw [bT σ' _ _ _ dq dq]
     simp only [List.map_cons,List.map_nil,b.eq]
   · rw [eJ];simp [lsT,kh,b.ty.wh,fmd]
  | rcd d ns0 ks0 hsrt hmem hl hk =>
   simp only [Ty.kids_mk,Ty.name_mk,Ty.names_mk,List.length_nil] at hst
   have hbd:szB d<lim:=by simp only [szB] at hb;omega
   have hkn:∀ k∈ks0,k.sz≤n:=fun k hk'=>by
    obtain ⟨i,hi',e⟩:=List.getElem_of_mem hk'
    have:=mP ks0 i hi'
    rw [List.getD_eq_getElem?_getD,List.getElem?_eq_getElem hi'] at this
    have:ks0[i].sz<_:=this
    rw [e] at this;omega
   obtain ⟨ns,ks,T,h1,σ1,e1,b1,g1⟩:=sI (l:=l) (lv:=lv) (n:=n) (d:=d) (q:=q) (t:=.mk 5 [] 0 ns0 ks0) (p:=ap l q 6) (S:=S) (h:=h) (σ:=σ)
    (fun x S q h σ c1 c2 c3 c4 c5 c6 c7=>mH n d x S q h σ hbd c1 c2 c3 c4 c5 c6 c7) (aE hsrt) hl hk hkn hi hs hF hm hlen ns0.length (Nat.le_refl _)
   have hsl:ns.Sublist ns0:=by have:=b1.sl;simpa using this
   have hns:ns.Pairwise (fun a b=>a<b):=hsrt.sublist hsl
   have hnm:∀ s∈ns,s∈nm4:=fun s hs'=>hmem s (hsl.subset hs')
   have hkz:∀ k∈ks,tyN T k∧Ft h1 d k:=fun k hk'=>by
    obtain ⟨s,hz'⟩:=ED b1.ll hk'
    obtain ⟨o1,o2,_⟩:=b1.ok _ hz'
    exact ⟨o1,o2⟩
   have hkg:∀ k∈ks,Gt k:=fun k hk'=>(hkz k hk').1.gt
   have wfT:=b1.inv.1
   have hszl:Ty.szL (ks0.take ns0.length)≤Ty.szL ks0:=iv _ _
   have hTl:=b1.len
   simp only [Ty.kids_mk] at hTl
   have hfR:∀ (m:Int) (s:List UInt8) x,fg s (.mk 5 [] m ns ks)=some x→fg s (.mk 5 [] 0 ns0 ks0)=some (sub σ1 x)∧tyN T x:=fun m s x hf=>by
    obtain ⟨o1,_,o3⟩:=b1.ok (s,x) (gC hf)
    exact ⟨o3,o1⟩
   have hGt:Gt (Ty.mk 5 [] 0 ns0 ks0):=.rcd 0 ns0 ks0 dq hsrt hl fun k hk'=>(hk k hk').gt
   by_cases h4:ap l q 6 > 4
   · have hnn:ns=ns0:=by have:=g1 oq;simpa using this
     refine ⟨.mk 5 [] 0 ns ks,T,h1,σ1,?_,⟨b1.inv,b1.sol,b1.agr,b1.old,b1.stf,.rcd d 0 ns ks (fun h=>absurd rfl h) (aE hns) hnm b1.ll fun k hk'=>(hkz k hk').2,?_,⟨.rcd 0 ns ks dq hns b1.ll hkg,?_,fun o ho=>?_⟩,b1.sm,by omega,b1.fix,b1.nw⟩⟩
     · rw [dY,if_neg hp,if_neg (fun hk=>absurd hk.1 zq),if_neg (fun hk=>hk rfl),if_neg (fun hk=>hk hl)]
       simp only [Ty.names_mk,e1]
       rw [if_pos h4]
     · rw [bT σ1 _ _ _ dq (fun _=>rfl)]
       refine eu (.rcd 0 ns _ dq hns (by simp [b1.ll]) fun k hk'=>?_) hGt rfl rfl rfl fun s=>?_
       · obtain ⟨x,hx,rfl⟩:=List.mem_map.1 hk'
         exact eX (hkg x hx) ((hkz x hx).1.s.okG b1.sol)
       · rw [yC σ1 s 5 5 [] [] 0 0 ns ks]
         cases hf:fg s (.mk 5 [] 0 ns ks) with
         | some x=>rw [(hfR 0 s x hf).1];rfl
         | none =>
          have h2:s∉ns0:=by rw [← hnn];exact (b3 (t:=.mk 5 [] 0 ns ks) b1.ll).1 hf
          rw [(b3 (t:=.mk 5 [] 0 ns0 ks0) hl).2 h2];rfl
     · rw [eJ,pp dq hns hnm b1.ll];exact mn fun k hk'=>(hkz k hk').1.wh
     · rcases dU (t:=.mk 5 [] 0 ns ks) rfl ho with ⟨hn,_⟩|⟨k,hk',ho⟩
       · exact absurd rfl hn
       · exact (hkz k hk').1.oc o ho
   · have hl4:=GO (aE hns) hnm
     have hTlim:T.length<100000000:=by omega
     have hrg:DH T ns ks:=by
      refine ⟨by omega,fun i=>?_,fun i=>?_,b1.sm,hTlim,⟨b1.ll,fun i hi'=>?_,fun i hi'=>?_,aE hns⟩⟩
      · by_cases hi':i<ns.length
        · rw [List.getD_eq_getElem?_getD,List.getElem?_eq_getElem hi']
          exact Nat.lt_of_le_of_lt (Bj _ (hnm _ (List.getElem_mem hi'))) dq
        · rw [List.getD_eq_getElem?_getD,List.getElem?_eq_none oq];exact (by decide:0<100000000)
      · by_cases hi':i<ks.length
        · rw [List.getD_eq_getElem?_getD,List.getElem?_eq_getElem hi']
          exact Nat.lt_of_le_of_lt (hkz _ (List.getElem_mem hi')).2.sz hbd
        · rw [List.getD_eq_getElem?_getD,List.getElem?_eq_none oq];exact (by decide:1<100000000)
      · rw [List.getD_eq_getElem?_getD,List.getElem?_eq_getElem hi']
        exact x7 _ (hnm _ (List.getElem_mem hi'))
      · have hi2:i<ks.length:=by rw [← b1.ll];exact hi'
        rw [List.getD_eq_getElem?_getD,List.getElem?_eq_getElem hi2]
        exact (hkz _ (List.getElem_mem hi2)).1.has
     have hre:∀ m:Int,0≤m→cc ns ks m=.mk 5 [] m ns ks:=fun m hm'=>Gs hns b1.ll hm' hkg
     have hnames:(cc ns ks 0).names=ns:=by rw [hre 0 dq];rfl
     have hnew:=pj wfT (v:=⟨true,lv,false,Ty.zero,ns⟩) rfl hns
     have hwf:=fun s=>uJ (a:=.mk 5 [] 0 ns0 ks0) (b:=.mk 5 [] 0 ns ks) (n:=0) (aE hsrt) hl s
     have hwg:Gt (onT (.mk 5 [] 0 ns0 ks0) (.mk 5 [] 0 ns ks) 0):=CG (aE hsrt) hl dq fun k hk'=>(hk k hk').gt
     have hsol:=hnew.sol wfT b1.sol hwg (fun _=>⟨rfl,fun s hs'=>by rw [hwf,if_pos (show s∈(Ty.mk 5 [] 0 ns ks).names from hs')]⟩)
     have hfix:=tI wfT hnew
     have hty:tyN (aI ((T.length+1:Nat):Int) ⟨true,lv,false,Ty.zero,ns⟩ T) (.mk 5 [] ((T.length+1:Nat):Int) ns ks):=by
      refine ⟨.rcd _ ns ks oq hns b1.ll hkg,?_,fun o ho=>?_⟩
      · rw [eJ,pp oq hns hnm b1.ll];exact mn fun k hk'=>(hkz k hk').1.wh
      · rcases dU (t:=.mk 5 [] ((T.length+1:Nat):Int) ns ks) rfl ho with ⟨_,rfl⟩|⟨k,hk',ho⟩
        · exact ⟨_,hnew.at_,rfl,rfl⟩
        · exact ((hkz k hk').1.up hfix).oc o ho
     refine ⟨.mk 5 [] ((T.length+1:Nat):Int) ns ks,aI ((T.length+1:Nat):Int) ⟨true,lv,false,Ty.zero,ns⟩ T,(fun m=>if m=((T.length+1:Nat):Int) then d+1 else h1 m),_,?_,⟨b1.inv.new hnew,hsol,fun n x hx=>?_,fun n x hx=>?_,un wfT hnew b1.stf,?_,?_,hty,zt hnew b1.sm (show ns.length<_ by omega),?_,fun m x hx=>hfix m x (b1.fix m x hx),fun m x hx=>?_⟩⟩
     · rw [dY,if_neg hp,if_neg (fun hk=>absurd hk.1 zq),if_neg (fun hk=>hk rfl),if_neg (fun hk=>hk hl)]
       simp only [Ty.names_mk,e1]
       rw [if_neg h4,if_pos hrg,hre _ oq,hnames]
       rfl
     · rw [eA (wfT.ne (b1.fix n x hx))];exact b1.agr n x hx
     · exact (if_neg (wfT.ne (b1.fix n x hx))).trans (b1.old n x hx)
     · refine .rcd d _ ns ks (fun _=>by simp) (aE hns) hnm b1.ll fun k hk'=>(hkz k hk').2.in (fun n x hx=>if_neg (wfT.ne hx)) (hkz k hk').1.in
     · refine eu (eX hty.gt (hty.s.okG hsol)) hGt (by rw [bG zq];rfl) rfl ?_ fun s=>?_
       · rw [d9 (by rfl),if_neg (show ¬ (Ty.mk 5 [] ((T.length+1:Nat):Int) ns ks).n=0 by rw [Ty.n_mk];omega)]
         show (upd σ1 _ _ ((T.length+1:Nat):Int)).n=0
         rw [fh];rfl
       · rw [dh hty.gt rfl (hty.s.okG hsol),if_neg (show ¬ (Ty.mk 5 [] ((T.length+1:Nat):Int) ns ks).n=0 by rw [Ty.n_mk];omega)]
         show (fg s (upd σ1 _ _ ((T.length+1:Nat):Int))).orElse _=_
         rw [fh,hwf]
         by_cases hs':s∈ns
         · rw [if_pos (show s∈(Ty.mk 5 [] 0 ns ks).names from hs')]
           obtain ⟨x,hx⟩:=dP (t:=.mk 5 [] ((T.length+1:Nat):Int) ns ks) b1.ll hs'
           rw [hx,(hfR _ s x hx).1]
           simp only [Option.orElse_none,Option.map_some]
           rw [pk (hfR _ s x hx).2 fun n y hy=>eA (wfT.ne hy)]
         · rw [if_neg (show s∉(Ty.mk 5 [] 0 ns ks).names from hs'),(b3 (t:=.mk 5 [] ((T.length+1:Nat):Int) ns ks) b1.ll).2 hs']
           cases fg s (.mk 5 [] 0 ns0 ks0) <;> simp
     · rw [hnew.len];omega
     · rcases C1 hnew rfl (fun h=>by cases h) m x hx with h|h
       · exact b1.nw m x h
       · exact .inr h
end
def Bc (σ:Int→Ty) (m:Bd):Prop:=∀ n u,ai n m=some u→u=σ n
theorem Bc.ok {σ:Int→Ty} {m:Bd} (h:Bc σ m) (n:Int):Jc m n (σ n)=true:=by
 unfold Jc
 cases hm:ai n m with
 | none=>rfl
 | some o=>rw [h n o hm];exact beq_refl _
theorem Bc.set {σ:Int→Ty} {m:Bd} (h:Bc σ m) (n:Int):Bc σ (aI n (σ n) m):=fun k u hk=>by
 rw [aP] at hk
 split at hk
 · rename_i e;cases hk;rw [e]
 · exact h k u hk
section
variable {P:St→St→Prop} (hr:∀ S,P S S) (ht:∀ S T U,P S T→P T U→P S U) (hb:∀ f S n t ok S',b7 f S n t=some (ok,S')→P S S')
 (hn:∀ S a b,rok a→rok b→(ai a.n S).isSome=true→(ai b.n S).isSome=true→P S (dQ S a b))
include hr ht hb hn
theorem iV {U:UF} (hU:∀ S a b ok S',U S a b=some (ok,S')→P S S') (b:Ty):∀ (ns:List (List UInt8)) (ks:List Ty) (S:St) (D:Dn) (ag:Bool) (ok:Bool) (S':St) (D':Dn) (ag':Bool),ci U b ns ks S D ag=some (ok,S',D',ag')→P S S'
 | [],ks,S,D,ag,ok,S',D',ag',h=>by cases ks <;> (simp only [ci,Option.some.injEq,Prod.mk.injEq] at h;obtain ⟨_,rfl,_⟩:=h;exact hr S)
 | s::ns,[],S,D,ag,ok,S',D',ag',h=>by simp only [ci,Option.some.injEq,Prod.mk.injEq] at h;obtain ⟨_,rfl,_⟩:=h;exact hr S
 | s::ns,k::ks,S,D,ag,ok,S',D',ag',h=>by
  rw [ci] at h
  split at h
  · exact iV hU b ns ks S D ag ok S' D' ag' h
  · split at h
    · rename_i S1 h1
      exact ht _ _ _ (hU _ _ _ _ _ h1) (iV hU b ns ks S1 _ _ ok S' D' ag' h)
    · rename_i S1 h1
      simp only [Option.some.injEq,Prod.mk.injEq] at h
      obtain ⟨_,rfl,_⟩:=h
      exact hU _ _ _ _ _ h1
    · cases h
theorem np {U:UF} (hU:∀ S a b ok S',U S a b=some (ok,S')→P S S') {f:Nat}:∀ (g:Nat) (S:St) (a b:Ty) (D:Dn) (ok:Bool) (S':St) (a' b':Ty),dW f U g S a b D=some (ok,S',a',b')→P S S'∧rok a'∧rok b'
 | 0,S,a,b,D,ok,S',a',b',h=>by simp [dW] at h
 | g+1,S,a,b,D,ok,S',a',b',h=>by
  rw [dW] at h
  split at h <;> try (cases h;done)
  split at h <;> try (cases h;done)
  split at h <;> try (cases h;done)
  rename_i hro
  split at h <;> try (cases h;done)
  · rename_i S1 D1 h1
    obtain ⟨q1,q2⟩:=np hU g S1 _ _ _ ok S' a' b' h
    exact ⟨ht _ _ _ (iV hr ht hb hn hU _ _ _ _ _ _ _ _ _ _ h1) q1,q2⟩
  · rename_i S1 D1 h1
    simp only [Option.some.injEq,Prod.mk.injEq] at h
    obtain ⟨_,rfl,rfl,rfl⟩:=h
    exact ⟨iV hr ht hb hn hU _ _ _ _ _ _ _ _ _ _ h1,hro⟩
  · rename_i S1 D1 D2 h1
    simp only [Option.some.injEq,Prod.mk.injEq] at h
    obtain ⟨_,rfl,rfl,rfl⟩:=h
    exact ⟨iV hr ht hb hn hU _ _ _ _ _ _ _ _ _ _ h1,hro⟩
theorem C8 {f:Nat} {S S':St} {a b:Ty} {ok:Bool} (h:fB f S a b=some (ok,S')) (ha:rok a) (hb':rok b):P S S':=by
 unfold fB at h
 split at h <;> try (cases h;done)
 split at h
 · simp only [Option.some.injEq,Prod.mk.injEq] at h;obtain ⟨_,rfl⟩:=h;exact hr S
 split at h
 · simp only [Option.some.injEq,Prod.mk.injEq] at h;obtain ⟨_,rfl⟩:=h;exact hr S
 split at h
 · exact hb _ _ _ _ _ _ h
 split at h
 · exact hb _ _ _ _ _ _ h
 split at h <;> try (cases h;done)
 rename_i hg
 have h0:=hn S a b ha hb' hg.2.1 hg.2.2
 split at h <;> try (cases h;done)
 · rename_i S2 h2
   exact ht _ _ _ h0 (ht _ _ _ (hb _ _ _ _ _ _ h2) (hb _ _ _ _ _ _ h))
 · rename_i S2 h2
   simp only [Option.some.injEq,Prod.mk.injEq] at h
   obtain ⟨_,rfl⟩:=h
   exact ht _ _ _ h0 (hb _ _ _ _ _ _ h2)
theorem jW:∀ f S a b ok S',bt f S a b=some (ok,S')→P S S'
 | 0,S,a,b,ok,S',h=>by simp [bt] at h
 | f+1,S,a,b,ok,S',h=>by
  rw [bt] at h
  split at h <;> try (cases h;done)
  split at h <;> try (cases h;done)
  split at h <;> try (cases h;done)
  split at h
  · simp only [Option.some.injEq,Prod.mk.injEq] at h;obtain ⟨_,rfl⟩:=h;exact hr S
  split at h
  · exact hb _ _ _ _ _ _ h
  split at h
  · exact hb _ _ _ _ _ _ h
  split at h
  · simp only [Option.some.injEq,Prod.mk.injEq] at h;obtain ⟨_,rfl⟩:=h;exact hr S
  split at h
  · unfold gE at h
    split at h <;> try (cases h;done)
    · rename_i S1 a1 b1 h1
      obtain ⟨q1,q2,q3⟩:=np hr ht hb hn (fun S a b ok S'=>jW f S a b ok S') _ _ _ _ _ _ _ _ _ h1
      exact ht _ _ _ q1 (C8 hr ht hb hn h q2 q3)
    · rename_i S1 a1 b1 h1
      simp only [Option.some.injEq,Prod.mk.injEq] at h
      obtain ⟨_,rfl⟩:=h
      exact (np hr ht hb hn (fun S a b ok S'=>jW f S a b ok S') _ _ _ _ _ _ _ _ _ h1).1
  split at h
  · split at h <;> try (cases h;done)
    exact jW f _ _ _ _ _ h
  · simp only [Option.some.injEq,Prod.mk.injEq] at h;obtain ⟨_,rfl⟩:=h;exact hr S
end
theorem zb {S:St} {n:Int} {x:Vr} (h:dn S) (hx:x.names.length<100000000):dn (aI n x S):=fun k y hy=>by
 rw [aP] at hy
 split at hy
 · cases hy;exact hx
 · exact h k y hy
theorem yW {lv:Int}:∀ (ks:List Int) (S:St),dn S→dn (cS lv ks S)
 | [],S,h=>h
 | k::ks,S,h=>by
  rw [cS]
  split
  · rename_i w hw
    exact yW ks _ (zb h (h k w hw))
  · exact yW ks _ h
theorem Fs {f:Nat} {S S':St} {n:Int} {t:Ty} {ok:Bool} (h:b7 f S n t=some (ok,S')) (hs:dn S):dn S':=by
 unfold b7 at h
 split at h <;> try (cases h;done)
 rename_i v hv
 split at h <;> try (cases h;done)
 split at h <;> try (cases h;done)
 split at h
 · simp only [Option.some.injEq,Prod.mk.injEq] at h;obtain ⟨_,rfl⟩:=h;exact hs
 · simp only [Option.some.injEq,Prod.mk.injEq] at h;obtain ⟨_,rfl⟩:=h
   exact zb (yW _ _ hs) (hs n v hv)
theorem vn {t:Ty} (h:rok t):3 * t.names.length<100000000:=by
 obtain ⟨h1,h2⟩:=h
 obtain ⟨k,x,n,l,ks⟩:=t
 simp only [Ty.names_mk,Ty.kids_mk] at h2 ⊢
 have a1:l.length≤szS l:=by
  clear h1 h2
  induction l with
  | nil=>simp
  | cons s l ih=>simp only [szS,List.length_cons];omega
 have a2:2 * ks.length≤Ty.szL ks:=by
  clear h1 h2
  induction ks with
  | nil=>simp
  | cons s l ih =>
   have:1≤s.sz:=by cases s;rw [Ty.sz];omega
   simp only [Ty.szL,List.length_cons];omega
 rw [Ty.sz] at h1
 show 3 * l.length<_
 have:lim=100000000:=rfl
 omega
theorem Ht {S:St} {a b:Ty} (ha:rok a) (hb:rok b) (hs:dn S):dn (dQ S a b):=by
 refine zb hs ?_
 show (iy a b).length<_
 have h1:=vn ha
 have h2:=vn hb
 have h3:(iy a b).Nodup:=aE (zR a b)
 have h4:(iy a b).length≤(a.names++b.names).length:=ux h3 fun s hs=>by rw [List.mem_append];exact (eL a b s).1 hs
 rw [List.length_append] at h4
 omega
theorem DQ {f:Nat} {S S':St} {a b:Ty} {ok:Bool} (h:bt f S a b=some (ok,S')) (hs:dn S):dn S' :=
 jW (P:=fun S S'=>dn S→dn S') (fun _ h=>h) (fun _ _ _ h1 h2 h=>h2 (h1 h)) (fun _ _ _ _ _ _ h hs=>Fs h hs) (fun S a b ha hb _ _ hs=>Ht ha hb hs) f S a b ok S' h hs
def noN (S:St):Prop:=∀ n x,ai n S=some x→x.row=false→x.names=[]
theorem Fy {S:St} {n:Int} {x:Vr} (h:noN S) (hx:x.row=false→x.names=[]):noN (aI n x S):=fun k y hy=>by
 rw [aP] at hy
 split at hy
 · cases hy;exact hx
 · exact h k y hy
theorem Bl.noN {lv:Int} {S S':St} {h h':Int→Nat} {d:Nat} {σ σ':Int→Ty} {r t:Ty} (b:Bl lv S S' h h' d σ σ' r t) (hn:noN S):noN S':=fun n x hx hr=>by
 rcases b.nw n x hx with h|h
 · exact hn n x h hr
 · exact h.2.2 hr
theorem Hm {h:Int→Nat} {t:Ty} (hg:Gt t):∀ b,Ft h b t→whl t=true:=by
 induction hg with
 | leaf k x h4 h5 h6 =>
  intro b hf
  cases hf with
  | leaf _ _ _ hx _ _=>rw [eJ,hx.2];rfl
  | var _ _ _=>exact absurd rfl h6
  | rcd _ _ _ _ _ _ _ _ _=>exact absurd rfl h5
 | list t h ih =>
  intro b hf
  cases hf with
  | list c _ ht=>rw [eJ];simp [kh,ih _ ht,fmd]
 | var n hn=>intro b hf;rw [eJ];simp [kh,fmd];omega
 | rcd n ns ks h0 hs hl hk ih =>
  intro b hf
  cases hf with
  | leaf _ _ _ _ h5 _=>exact absurd rfl h5
  | rcd c _ _ _ _ _ hm _ hk'=>rw [eJ,pp h0 hs hm hl];exact mn fun k hk2=>ih k hk2 c (hk' k hk2)
theorem Hz (S:St):o5 S≤S.length:=List.length_filter_le _ _
theorem Dm (S:St):phi S≤2 * S.length:=by unfold phi;have:=Hz S;omega
theorem Inv.nil:Inv []:=by
 refine ⟨⟨fun n=>?_,fun _ _ h=>by simp [ai] at h,fun _ _ h=>by simp [ai] at h,fun _ _ h=>by simp [ai] at h⟩,fun n=>idv false n,fun _=>0,⟨⟨fun _ _ h=>by simp [ai] at h,fun _ _ h=>by simp [ai] at h,fun _ _ h=>by simp [ai] at h⟩,fun _ _ h=>by simp [ai] at h,fun _ _ _ _ h=>by simp [ai] at h,fun _ _ h=>by simp [ai] at h,fun _ _ h=>by simp [ai] at h⟩,fun _ _ h=>by simp [ai] at h⟩
 simp [ai];omega
theorem Sol.nil (σ:Int→Ty):Sol [] σ:=⟨fun _ _ h=>by simp [ai] at h,fun _ _ h=>by simp [ai] at h,fun _ _ h=>by simp [ai] at h⟩
theorem StF.nil (h:Int→Nat):StF [] h:=fun _ _ h=>by simp [ai] at h
theorem dn.nil:dn []:=fun _ _ h=>by simp [ai] at h
theorem noN.nil:noN []:=fun _ _ h=>by simp [ai] at h
theorem sz3:szB 3<3000:=by decide
theorem Dj.row {σ:Int→Ty} {t:Ty} (h:Dj σ t) (h5:t.kind=5) (hn:t.n≠0):∀ s∈t.names,fg s (σ t.n)=none:=by cases h with|mk _ hr _=>exact hr h5 hn
theorem Dj.kid {σ:Int→Ty} {t k:Ty} (h:Dj σ t) (hk:k∈t.kids):Dj σ k:=by cases h with|mk _ _ hd=>exact hd k hk
theorem Ab {σ:Int→Ty} {t:Ty} (hg:Gt t) (h5:t.kind=5) (ho:okG σ t) (hd:Dj σ t) {s:List UInt8} {x:Ty} (h:fg s t=some x):fg s (sub σ t)=some (sub σ x):=by
 rw [dh hg h5 ho,h]
 by_cases hn:t.n=0
 · rw [if_pos hn];rfl
 · rw [if_neg hn,hd.row h5 hn s (mt h)];rfl
def Off (Q:Int→Prop) (t:Ty):Prop:=∀ o∈az t,¬ Q o.n
structure Loc (Q:Int→Prop) (S:St):Prop where
 off:∀ n x,ai n S=some x→x.bd=true→Off Q x.val
 kp:∀ n,Q n→∃ x,ai n S=some x∧x.bd=false
section
variable {Q:Int→Prop} {S:St}
theorem Off.kid {t k:Ty} (h:Off Q t) (hk:k∈t.kids):Off Q k:=fun o ho=>h o (iJ hk ho)
theorem Loc.bd (hL:Loc Q S) {n:Int} {v:Ty} (h:bdV S n=some v):Off Q v:=by
 obtain ⟨x,h1,h2,rfl⟩:=fl h
 exact hL.off n x h1 h2
theorem AO (hL:Loc Q S):∀ (f:Nat) (t u:Ty),hdV f S t=some u→Off Q t→Off Q u
 | 0,t,u,h,_=>by simp [hdV] at h
 | f+1,t,u,h,ht=>by
  rw [hdV] at h
  split at h
  · split at h
    · rename_i v hv
      split at h <;> try (cases h;done)
      exact AO hL f v u h (hL.bd hv)
    · cases h;exact ht
  · cases h;exact ht
theorem fu {t:Ty} (h:Off Q t) (h5:t.kind=5) (hn:t.n≠0):¬ Q t.n:=h _ (cI h5 hn)
theorem FB {l:Fd} {n:Int} (hl:∀ p∈l,Off Q p.2) (hn:n≠0→¬ Q n):Off Q (recT l n):=fun o ho=>by
 rcases dU (t:=recT l n) rfl ho with ⟨h1,e⟩|⟨k,hk,ho⟩
 · rw [e];exact hn h1
 · rw [dw] at hk
   obtain ⟨s,hs,rfl⟩:=List.mem_map.1 hk
   cases hm:ai s l with
   | none=>rw [hm] at ho;simp [Ty.zero,az,aF] at ho
   | some x=>rw [hm] at ho;exact hl _ (gC hm) o ho
theorem AN {l:Fd} {t:Ty} (hl:∀ p∈l,Off Q p.2) (ht:Off Q t):∀ p∈dr l t,Off Q p.2:=fun p hp=>by
 rcases d7 hp with h|h
 · exact ht.kid h.2
 · exact hl p h
theorem zU (wf:Wf S) (hL:Loc Q S):∀ (f:Nat) (l:Fd) (t u:Ty),hdR f S l t=some u→t.kind=5→(t.n≠0→∃ x,ai t.n S=some x∧x.row=true)→(∀ p∈l,Off Q p.2)→Off Q t→Off Q u
 | 0,l,t,u,h,_,_,_,_=>by simp [hdR] at h
 | f+1,l,t,u,h,h5,hr,hl,ht=>by
  rw [hdR] at h
  split at h <;> try (cases h;done)
  split at h
  · rename_i v hv
    have h0:t.n≠0:=fun e=>by rw [e] at hv;unfold bdV at hv;rw [wf.zero] at hv;cases hv
    obtain ⟨x,x1,x2⟩:=hr h0
    obtain ⟨y,y1,y2,rfl⟩:=fl hv
    rw [x1] at y1;cases y1
    have hw:=wf.rv _ _ x1 y2 x2
    exact zU wf hL f (dr l t) x.val u h hw.k5 (fun hn=>by obtain ⟨z,z1,z2,_⟩:=hw.row hn;exact ⟨z,z1,z2⟩) (AN hl ht) (hL.off _ _ x1 y2)
  · cases h
    exact FB (AN hl ht) fun hn=>fu ht h5 hn
theorem CC (wf:Wf S) (hL:Loc Q S) {f:Nat} {t u:Ty} (h:bY f S t=some u) (ht:tyS S t) (ho:Off Q t) (hv:∀ w,hdV f S t=some w→tyS S w):Off Q u:=by
 unfold bY at h
 split at h <;> try (cases h;done)
 rename_i w hw
 have h1:=AO hL f t w hw ho
 split at h
 · rename_i h5
   split at h
   · have hs:=hv w hw
     exact zU wf hL f [] w u h h5 (fun hn=>by obtain ⟨x,x1,x2,_⟩:=hs.2 _ (cI h5 hn);exact ⟨x,x1,x2⟩) zq h1
   · cases h;exact h1
 · cases h;exact h1
theorem DY (wf:Wf S):∀ (f:Nat) (t u:Ty),hdV f S t=some u→tyS S t→tyS S u
 | 0,t,u,h,_=>by simp [hdV] at h
 | f+1,t,u,h,ht=>by
  rw [hdV] at h
  split at h
  · rename_i h6
    split at h
    · rename_i v hv
      split at h <;> try (cases h;done)
      obtain ⟨x,x1,x2⟩:=ht.var6 h6
      obtain ⟨y,y1,y2,rfl⟩:=fl hv
      rw [x1] at y1;cases y1
      exact DY wf f _ u h (wf.tv _ _ x1 y2 x2)
    · cases h;exact ht
  · cases h;exact ht
theorem kP (wf:Wf S) (hL:Loc Q S) {f:Nat} {t u:Ty} (h:bY f S t=some u) (ht:tyS S t) (ho:Off Q t):Off Q u:=CC wf hL h ht ho fun w hw=>DY wf f t w hw ht
theorem gO {S':St} {f:Nat} {n:Int} {t:Ty} {ok:Bool} (h:b7 f S n t=some (ok,S')) (hL:Loc Q S) (hq:¬ Q n) (ho:Off Q t):Loc Q S':=by
 unfold b7 at h
 split at h <;> try (cases h;done)
 rename_i v hv
 split at h <;> try (cases h;done)
 rename_i r hr
 split at h <;> try (cases h;done)
 split at h
 · simp only [Option.some.injEq,Prod.mk.injEq] at h;obtain ⟨_,rfl⟩:=h;exact hL
 · simp only [Option.some.injEq,Prod.mk.injEq] at h;obtain ⟨_,rfl⟩:=h
   have hB:=iP (t:=t) hv (aw [] r)
   refine ⟨fun m x hx hb=>?_,fun m hm=>?_⟩
   · obtain ⟨y,y1,_,_,y4,y5⟩:=hB.at hx
     by_cases e:m=n
     · rw [(y4 e).2];exact ho
     · rw [(y5 e).2];exact hL.off m y y1 ((y5 e).1▸hb)
   · obtain ⟨x,x1,x2⟩:=hL.kp m hm
     obtain ⟨x',k1,_,_,_,k5⟩:=hB.fw m x x1
     exact ⟨x',k1,by rw [(k5 (fun e=>hq (e▸hm))).1];exact x2⟩
theorem Loc.new (wf:Wf S) (hL:Loc Q S):¬ Q ((S.length+1:Nat):Int):=fun h=>by
 obtain ⟨x,x1,_⟩:=hL.kp _ h
 rw [wf.fresh] at x1;cases x1
theorem DF (wf:Wf S) (hL:Loc Q S) (a b:Ty):Loc Q (dQ S a b):=by
 refine ⟨fun m x hx hb=>?_,fun m hm=>?_⟩
 · unfold dQ at hx
   rw [aP] at hx
   split at hx
   · cases hx;cases hb
   · exact hL.off m x hx hb
 · obtain ⟨x,x1,x2⟩:=hL.kp m hm
   refine ⟨x,?_,x2⟩
   unfold dQ
   rw [aP,if_neg (fun e=>hL.new wf (by rw [← e];exact hm))]
   exact x1
theorem mK {a b:Ty} {n:Int} (ha:tyS S a) (ka:a.kind=5) (ho:Off Q a) (hn:n≠0→¬ Q n):Off Q (onT a b n):=fun o h=>by
 obtain ⟨s1,s2,_⟩:=ha.1.sorted ka
 rcases dU (t:=onT a b n) rfl h with ⟨h1,e⟩|⟨k,hk,h⟩
 · rw [e];exact hn h1
 · exact ho.kid (zT (aE s1) s2 hk) o h
theorem EM {S':St} {f:Nat} {a b:Ty} {ok:Bool} (h:fB f S a b=some (ok,S')) (wf:Wf S) (hL:Loc Q S) (va:tyS S a) (vb:tyS S b) (ka:a.kind=5) (kb:b.kind=5) (oa:Off Q a) (ob:Off Q b):Loc Q S':=by
 unfold fB at h
 split at h <;> try (cases h;done)
 split at h
 · simp only [Option.some.injEq,Prod.mk.injEq] at h;obtain ⟨_,rfl⟩:=h;exact hL
 split at h
 · simp only [Option.some.injEq,Prod.mk.injEq] at h;obtain ⟨_,rfl⟩:=h;exact hL
 rename_i e h1
 split at h
 · rename_i h2
   exact gO h hL (fu oa ka h2.2) (mK vb kb ob (fu ob kb))
 split at h
 · rename_i h2 h3
   by_cases hb0:b.n=0
   · rw [hb0] at h
     unfold b7 at h
     rw [wf.zero] at h;cases h
   · exact gO h hL (fu ob kb hb0) (mK va ka oa (fu oa ka))
 split at h <;> try (cases h;done)
 rename_i hg
 have hk:=DF wf hL a b
 have hq:=hL.new wf
 have ha0:a.n≠0:=fun e=>by rw [e,wf.zero] at hg;exact absurd hg.2.1 dq
 have hb0:b.n≠0:=fun e=>by rw [e,wf.zero] at hg;exact absurd hg.2.2 dq
 split at h <;> try (cases h;done)
 · rename_i S2 h2
   exact gO h (gO h2 hk (fu oa ka ha0) (mK vb kb ob fun _=>hq)) (fu ob kb hb0) (mK va ka oa fun _=>hq)
 · rename_i S2 h2
   simp only [Option.some.injEq,Prod.mk.injEq] at h
   obtain ⟨_,rfl⟩:=h
   exact gO h2 hk (fu oa ka ha0) (mK vb kb ob fun _=>hq)
end
def G1 (Q:Int→Prop) (U:UF):Prop:=∀ S a b ok S',U S a b=some (ok,S')→Inv S→tyS S a→tyS S b→Off Q a→Off Q b→Loc Q S→Loc Q S'
theorem jz {Q:Int→Prop} {U:UF} (hO:UOk U) (hU:G1 Q U) {b:Ty} (kb:b.kind=5) (ob:Off Q b):∀ (ns:List (List UInt8)) (ks:List Ty) (S:St) (D:Dn) (ag ok:Bool) (S1:St) (D1:Dn) (ag1:Bool),ci U b ns ks S D ag=some (ok,S1,D1,ag1)→Inv S→tyS S b→(∀ k∈ks,tyS S k∧Off Q k)→Loc Q S →
 Loc Q S1∧Inv S1∧Ext S S1
 | [],ks,S,D,ag,ok,S1,D1,ag1,h,hi,_,_,hL=>by cases ks <;> (simp only [ci,Option.some.injEq,Prod.mk.injEq] at h;obtain ⟨_,rfl,_⟩:=h;exact ⟨hL,hi,Ext.refl _⟩)
 | s::ns,[],S,D,ag,ok,S1,D1,ag1,h,hi,_,_,hL=>by simp only [ci,Option.some.injEq,Prod.mk.injEq] at h;obtain ⟨_,rfl,_⟩:=h;exact ⟨hL,hi,Ext.refl _⟩
 | s::ns,k::ks,S,D,ag,ok,S1,D1,ag1,h,hi,vb,hk,hL=>by
  have hk':∀ k∈ks,tyS S k∧Off Q k:=fun x hx=>hk x (List.mem_cons_of_mem _ hx)
  rw [ci] at h
  split at h
  · exact jz hO hU kb ob ns ks _ _ _ _ _ _ _ h hi vb hk' hL
  · rename_i hc
    obtain ⟨s1,s2,s3,s4,s5⟩:=vb.1.sorted kb
    have hg:=yZ (aE s1) s2 (fun h=>hc (.inl h))
    have hkb:=vb.kid (gG hg)
    have okb:=ob.kid (gG hg)
    have h1:=hk k List.mem_cons_self
    split at h
    · rename_i S2 h2
      have st:=hO _ _ _ _ _ h2 hi h1.1 hkb
      have l2:=hU _ _ _ _ _ h2 hi h1.1 hkb h1.2 okb hL
      obtain ⟨q1,q2,q3⟩:=jz hO hU kb ob ns ks _ _ _ _ _ _ _ h st.inv (vb.ext st.ext) (fun x hx=>⟨(hk' x hx).1.ext st.ext,(hk' x hx).2⟩) l2
      exact ⟨q1,q2,st.ext.trans q3⟩
    · rename_i S2 h2
      have st:=hO _ _ _ _ _ h2 hi h1.1 hkb
      have l2:=hU _ _ _ _ _ h2 hi h1.1 hkb h1.2 okb hL
      simp only [Option.some.injEq,Prod.mk.injEq] at h
      obtain ⟨_,rfl,_⟩:=h
      exact ⟨l2,st.inv,st.ext⟩
    · cases h
theorem GH {S:St} {ρ:Int→Ty} (hi:Inv S) (rv:Rv S ρ) {f:Nat} {a a':Ty} (h:bY f S a=some a') (ha:tyS S a) (ka:a.kind=5):a'.kind=5:=by
 obtain ⟨va,na,ea⟩:=db hi.1 h ha
 have h1:=congrArg Ty.kind (ea ρ rv.sol)
 rw [bG (t:=a) (by rw [ka];decide),ka] at h1
 by_cases h6:a'.kind=6
 · obtain ⟨x,x1,x2⟩:=va.var6 h6
   rw [sR h6,rv.free _ x x1 (bZ (na (.inr h6)) x1),x2] at h1
   simp [idv] at h1
 · rwa [bG h6] at h1
theorem ql {Q:Int→Prop} {U:UF} (hO:UOk U) (hU:G1 Q U) {f:Nat}:∀ (g:Nat) (S:St) (a b:Ty) (D:Dn) (ok:Bool) (S1:St) (a1 b1:Ty),dW f U g S a b D=some (ok,S1,a1,b1)→Inv S→tyS S a→tyS S b→a.kind=5→b.kind=5→Off Q a→Off Q b→Loc Q S →
 Loc Q S1∧Inv S1∧tyS S1 a1∧tyS S1 b1∧a1.kind=5∧b1.kind=5∧Off Q a1∧Off Q b1
 | 0,S,a,b,D,ok,S1,a1,b1,h,_,_,_,_,_,_,_,_=>by simp [dW] at h
 | g+1,S,a,b,D,ok,S1,a1,b1,h,hi,ha,hb,ka,kb,oa,ob,hL=>by
  rw [dW] at h
  split at h <;> try (cases h;done)
  rename_i a' ha'
  split at h <;> try (cases h;done)
  rename_i b' hb'
  split at h <;> try (cases h;done)
  obtain ⟨va,_,_⟩:=db hi.1 ha' ha
  obtain ⟨vb,_,_⟩:=db hi.1 hb' hb
  obtain ⟨wf,ρ,rk,rv,hrk⟩:=id hi
  have k1:=GH hi rv ha' ha ka
  have k2:=GH hi rv hb' hb kb
  have oa':=kP wf hL ha' ha oa
  have ob':=kP wf hL hb' hb ob
  have hk:∀ k∈a'.kids,tyS S k∧Off Q k:=fun k hk=>⟨va.kid hk,oa'.kid hk⟩
  split at h <;> try (cases h;done)
  · rename_i S2 D2 h2
    obtain ⟨q1,q2,q3⟩:=jz hO hU k2 ob' _ _ _ _ _ _ _ _ _ h2 hi vb hk hL
    exact ql hO hU g S2 a' b' _ _ _ _ _ h q2 (va.ext q3) (vb.ext q3) k1 k2 oa' ob' q1
  · rename_i S2 D2 h2
    obtain ⟨q1,q2,q3⟩:=jz hO hU k2 ob' _ _ _ _ _ _ _ _ _ h2 hi vb hk hL
    simp only [Option.some.injEq,Prod.mk.injEq] at h
    obtain ⟨_,rfl,rfl,rfl⟩:=h
    exact ⟨q1,q2,va.ext q3,vb.ext q3,k1,k2,oa',ob'⟩
  · rename_i S2 D2 ag2 h2
    obtain ⟨q1,q2,q3⟩:=jz hO hU k2 ob' _ _ _ _ _ _ _ _ _ h2 hi vb hk hL
    simp only [Option.some.injEq,Prod.mk.injEq] at h
    obtain ⟨_,rfl,rfl,rfl⟩:=h
    exact ⟨q1,q2,va.ext q3,vb.ext q3,k1,k2,oa',ob'⟩
theorem zL (Q:Int→Prop):∀ f,G1 Q (bt f)
 | 0=>fun S a b ok S' h=>by simp [bt] at h
 | f+1=>fun S a b ok S' h hi ha hb oa ob hL=>by
  have ih:=zL Q f
  have hO:=gM f
  have wf:=hi.1
  rw [bt] at h
  split at h <;> try (cases h;done)
  rename_i a' ha'
  split at h <;> try (cases h;done)
  rename_i b' hb'
  split at h <;> try (cases h;done)
  obtain ⟨va,na,_⟩:=db wf ha' ha
  obtain ⟨vb,nb,_⟩:=db wf hb' hb
  have oa':=kP wf hL ha' ha oa
  have ob':=kP wf hL hb' hb ob
  have v6:∀ t,tyS S t→Off Q t→t.kind=6→¬ Q t.n:=fun t vt ot h6=>by
   have:(⟨t.n,false,[]⟩:Occ)∈az t:=by
    obtain ⟨k,x,n,l,ks⟩:=t
    simp only [Ty.kind_mk] at h6
    subst h6
    exact cE
   exact ot _ this
  split at h
  · simp only [Option.some.injEq,Prod.mk.injEq] at h;obtain ⟨_,rfl⟩:=h;exact hL
  split at h
  · rename_i h6
    exact gO h hL (v6 a' va oa' h6) ob'
  split at h
  · rename_i k6
    exact gO h hL (v6 b' vb ob' k6) oa'
  split at h
  · simp only [Option.some.injEq,Prod.mk.injEq] at h;obtain ⟨_,rfl⟩:=h;exact hL
  rename_i hne
  have hk:a'.kind=b'.kind:=Classical.byContradiction fun h=>hne (.inl h)
  split at h
  · rename_i h5
    unfold gE at h
    split at h <;> try (cases h;done)
    · rename_i S1 a1 b1 h1
      obtain ⟨q1,q2,q3,q4,q5,q6,q7,q8⟩:=ql hO ih _ _ _ _ _ _ _ _ _ h1 hi va vb h5 (hk▸h5) oa' ob' hL
      exact EM h q2.1 q1 q3 q4 q5 q6 q7 q8
    · rename_i S1 a1 b1 h1
      simp only [Option.some.injEq,Prod.mk.injEq] at h
      obtain ⟨_,rfl⟩:=h
      exact (ql hO ih _ _ _ _ _ _ _ _ _ h1 hi va vb h5 (hk▸h5) oa' ob' hL).1
  split at h
  · rename_i h4
    split at h <;> try (cases h;done)
    have list1:∀ t:Ty,Gt t→t.kind=4→t.kids.getD 0 Ty.zero∈t.kids:=by
     intro t hg h4
     cases hg with
     | leaf k x a b c=>exact absurd h4 a
     | list t h=>simp
     | var n h=>exact absurd h4 zq
     | rcd n ns ks a b c d=>exact absurd h4 zq
    have m1:=list1 a' va.1 h4
    have m2:=list1 b' vb.1 (hk▸h4)
    exact ih _ _ _ _ _ h hi (va.kid m1) (vb.kid m2) (oa'.kid m1) (ob'.kid m2) hL
  · simp only [Option.some.injEq,Prod.mk.injEq] at h;obtain ⟨_,rfl⟩:=h;exact hL
theorem EV {σ τ:Int→Ty} {p:Ty} (hp:Gt p):okG σ p→okG τ p→Dj σ p→Dj τ p→sub σ p=sub τ p→∀ o∈az p,σ o.n=τ o.n:=by
 induction hp with
 | leaf k x h4 h5 h6 =>
  intro _ _ _ _ _ o ho
  rcases bD ho with h|h|⟨t',ht,_⟩
  · exact absurd h.1 h6
  · exact absurd h.1 h5
  · simp at ht
 | list t h ih =>
  intro oσ oτ dσ dτ he o ho
  rw [bT σ _ _ _ dq dq,bT τ _ _ _ dq dq] at he
  simp only [List.map_cons,List.map_nil,Ty.mk.injEq,List.cons.injEq,and_true,true_and] at he
  exact ih (oσ.kid List.mem_cons_self) (oτ.kid List.mem_cons_self) (dσ.kid zq) (dτ.kid zq) he o (Gt.occ_list ho)
 | var n hn =>
  intro _ _ _ _ he o ho
  rw [de,de] at he
  rcases bD ho with h|h|⟨t',ht,_⟩
  · rw [h.2];exact he
  · exact absurd h.1 dq
  · simp at ht
 | rcd n ns ks h0 hs hl hk ih =>
  intro oσ oτ dσ dτ he o ho
  have hG:Gt (Ty.mk 5 [] n ns ks):=.rcd n ns ks h0 hs hl hk
  rcases dU (t:=.mk 5 [] n ns ks) rfl ho with ⟨hn,e⟩|⟨k,hk',hok⟩
  · have hn':n≠0:=hn
    have g1:=oσ _ (cm hn')
    have g2:=oτ _ (cm hn')
    rw [e]
    show σ n=τ n
    refine eu g1.1 g2.1 (g1.2 rfl) (g2.2 rfl) ?_ fun s=>?_
    · have n1:=d9 (σ:=σ) (t:=Ty.mk 5 [] n ns ks) rfl
      have n2:=d9 (σ:=τ) (t:=Ty.mk 5 [] n ns ks) rfl
      rw [if_neg hn] at n1 n2
      exact n1.symm.trans ((congrArg Ty.n he).trans n2)
    · by_cases hm:s∈ns
      · rw [show fg s (σ n)=none from dσ.row rfl hn s hm,show fg s (τ n)=none from dτ.row rfl hn s hm]
      · have e0:fg s (Ty.mk 5 [] n ns ks)=none:=(b3 (t:=.mk 5 [] n ns ks) hl).2 hm
        have f1:=dh hG rfl oσ s
        have f2:=dh hG rfl oτ s
        rw [if_neg hn,e0] at f1 f2
        have f1:fg s (sub σ (.mk 5 [] n ns ks))=fg s (σ n):=by rw [f1];show (fg s (σ n)).orElse _=_;cases fg s (σ n) <;> rfl
        have f2:fg s (sub τ (.mk 5 [] n ns ks))=fg s (τ n):=by rw [f2];show (fg s (τ n)).orElse _=_;cases fg s (τ n) <;> rfl
        rw [← f1,← f2,he]
  · obtain ⟨s,hs'⟩:=yO (t:=Ty.mk 5 [] n ns ks) (aE hs) hl hk'
    have q1:=Ab hG rfl oσ dσ hs'
    have q2:=Ab hG rfl oτ dτ hs'
    rw [he,q2] at q1
    exact ih k hk' (oσ.kid hk') (oτ.kid hk') (dσ.kid hk') (dτ.kid hk') (Option.some.inj q1).symm o hok
def cpV (lv:Int) (S:St) (n:Int):Vr:=⟨((ai n S).getD Vr.zero).row,lv,false,Ty.zero,((ai n S).getD Vr.zero).names⟩
def frV (lv:Int) (vs:List Int) (n:Int) (p:St×At):Int×(St×At) :=
 if vs.contains n=true then (match ai n p.2 with
  | some k=>(k,p)
  | none=>(((p.1.length+1:Nat):Int),(aI ((p.1.length+1:Nat):Int) (cpV lv p.1 n) p.1,aI n ((p.1.length+1:Nat):Int) p.2)))
 else (n,p)
def frH (lv:Int) (vs:List Int) (k n:Int) (p:St×At):Int×(St×At):=if isV k n=true then frV lv vs n p else (n,p)
mutual
def frT (lv:Int) (vs:List Int):Ty→St×At→Ty×(St×At)
 | .mk k x n l ks,p=>(.mk k x (frH lv vs k n p).1 l (frK lv vs ks (frH lv vs k n p).2).1,(frK lv vs ks (frH lv vs k n p).2).2)
def frK (lv:Int) (vs:List Int):List Ty→St×At→List Ty×(St×At)
 | [],p=>([],p)
 | t::l,p=>((frT lv vs t p).1::(frK lv vs l (frT lv vs t p).2).1,(frK lv vs l (frT lv vs t p).2).2)
end
theorem AZ {κ α:Type} [DecidableEq κ] {k:κ} {v:α}:∀ (l:List (κ×α)),(aI k v l).length≤l.length+1
 | []=>by simp [aI]
 | p::l=>by
  have:=AZ (k:=k) (v:=v) l
  rw [aI];split <;> simp only [List.length_cons] <;> omega
section
variable {lv:Int} {vs:List Int}
theorem AU (n:Int) (p:St×At):(frV lv vs n p).2.1.length≤p.1.length+1:=by
 unfold frV
 split
 · split
   · simp only;omega
   · exact AZ _
 · simp only;omega
theorem Fx (k n:Int) (p:St×At):(frH lv vs k n p).2.1.length≤p.1.length+1:=by
 unfold frH
 split
 · exact AU n p
 · simp only;omega
mutual
theorem Af:∀ (t:Ty) (p:St×At),(frT lv vs t p).2.1.length≤p.1.length+t.sz
 | .mk k x n l ks,p=>by
  have h1:=Fx (lv:=lv) (vs:=vs) k n p
  have h2:=pw ks (frH lv vs k n p).2
  rw [frT,Ty.sz];simp only;omega
theorem pw:∀ (l:List Ty) (p:St×At),(frK lv vs l p).2.1.length≤p.1.length+Ty.szL l
 | [],p=>by rw [frK];simp only;omega
 | t::l,p=>by
  have h1:=Af t p
  have h2:=pw l (frT lv vs t p).2
  rw [frK,Ty.szL];simp only;omega
end
theorem jJ:∀ (l:List Ty) (p:St×At),(frK lv vs l p).1.length=l.length
 | [],p=>rfl
 | t::l,p=>by rw [frK];simp only [List.length_cons,jJ l]
theorem xK (t:Ty):∀ (l:List Ty) (p:St×At),frK lv vs (l++[t]) p=((frK lv vs l p).1++[(frT lv vs t (frK lv vs l p).2).1],(frT lv vs t (frK lv vs l p).2).2)
 | [],p=>by simp only [List.nil_append,frK]
 | a::l,p=>by rw [List.cons_append,frK,xK t l];simp only [frK,List.cons_append]
theorem CQ {n m k:Int} {p:St×At} (h:ai m p.2=some k):ai m (frV lv vs n p).2.2=some k:=by
 unfold frV
 split
 · split
   · exact h
   · rename_i hn
     simp only
     rw [aP,if_neg (by rintro rfl;rw [hn] at h;cases h)];exact h
 · exact h
theorem CB {j n m k:Int} {p:St×At} (h:ai m p.2=some k):ai m (frH lv vs j n p).2.2=some k:=by
 unfold frH
 split
 · exact CQ h
 · exact h
mutual
theorem CU {m k:Int}:∀ (t:Ty) (p:St×At),ai m p.2=some k→ai m (frT lv vs t p).2.2=some k
 | .mk j x n l ks,p,h=>by rw [frT];exact iz ks _ (CB h)
theorem iz {m k:Int}:∀ (l:List Ty) (p:St×At),ai m p.2=some k→ai m (frK lv vs l p).2.2=some k
 | [],p,h=>h
 | t::l,p,h=>by rw [frK];exact iz l _ (CU t p h)
end
theorem Dy {n:Int} {p:St×At} (h:vs.contains n=true):ai n (frV lv vs n p).2.2=some (frV lv vs n p).1:=by
 unfold frV
 rw [if_pos h]
 split
 · rename_i k hk;exact hk
 · simp only;rw [aP,if_pos rfl]
mutual
theorem AD:∀ (t:Ty) (p:St×At),(∀ n∈ch t,vs.contains n=true)→∀ n∈ch t,∃ k,ai n (frT lv vs t p).2.2=some k
 | .mk j x n l ks,p,h,m,hm=>by
  rw [frT]
  have hk:=AF ks (frH lv vs j n p).2 (fun n hn=>h n (eo hn))
  have self:isV j n=true→∃ k,ai n (frK lv vs ks (frH lv vs j n p).2).2.2=some k:=fun hv=>by
   refine ⟨(frV lv vs n p).1,iz ks _ ?_⟩
   unfold frH;rw [if_pos hv];exact Dy (h n (ew hv))
  rw [mo] at hm
  simp only [List.mem_append] at hm
  rcases hm with (hm|hm)|hm
  · split at hm
    · rename_i h6;rw [List.mem_singleton] at hm;subst hm;exact self (by simp [isV,h6])
    · simp at hm
  · exact hk m hm
  · split at hm
    · rename_i h5;rw [List.mem_singleton] at hm;subst hm;exact self (by simp [isV,h5])
    · simp at hm
theorem AF:∀ (l:List Ty) (p:St×At),(∀ n∈cJ l,vs.contains n=true)→∀ n∈cJ l,∃ k,ai n (frK lv vs l p).2.2=some k
 | [],p,h,m,hm=>by simp [cJ,aF] at hm
 | t::l,p,h,m,hm=>by
  rw [ca] at h hm
  rw [frK]
  rcases List.mem_append.1 hm with hm|hm
  · obtain ⟨k,hk⟩:=AD t p (fun n hn=>h n (List.mem_append_left _ hn)) m hm
    exact ⟨k,iz l _ hk⟩
  · exact AF l _ (fun n hn=>h n (List.mem_append_right _ hn)) m hm
end
mutual
theorem z8 {F:At}:∀ (t:Ty) (p:St×At),(∀ n∈ch t,vs.contains n=true)→(∀ n k,ai n (frT lv vs t p).2.2=some k→ai n F=some k)→(frT lv vs t p).1=renT (i4 F) t
 | .mk j x n l ks,p,h,hF=>by
  rw [frT] at hF
  rw [frT,renT]
  have hk:=Aw ks (frH lv vs j n p).2 (fun n hn=>h n (eo hn)) hF
  simp only
  rw [hk]
  congr 1
  unfold frH
  by_cases hv:isV j n=true
  · rw [if_pos hv,if_pos hv]
    have e:=hF n (frV lv vs n p).1 (iz ks _ (by unfold frH;rw [if_pos hv];exact Dy (h n (ew hv))))
    unfold i4;rw [e];rfl
  · rw [if_neg hv,if_neg hv]
theorem Aw {F:At}:∀ (l:List Ty) (p:St×At),(∀ n∈cJ l,vs.contains n=true)→(∀ n k,ai n (frK lv vs l p).2.2=some k→ai n F=some k)→(frK lv vs l p).1=dG (i4 F) l
 | [],p,h,hF=>rfl
 | t::l,p,h,hF=>by
  rw [ca] at h
  rw [frK] at hF
  rw [frK,dG]
  simp only
  rw [z8 t p (fun n hn=>h n (List.mem_append_left _ hn)) fun n k hk=>hF n k (iz l _ hk),Aw l _ (fun n hn=>h n (List.mem_append_right _ hn)) hF]
end
end
mutual
theorem zX {lv:Int}:∀ (t:Ty) (p:St×At),frT lv [] t p=(t,p)
 | .mk j x n l ks,p=>by
  have e:frH lv [] j n p=(n,p):=by unfold frH frV;split <;> simp
  rw [frT,e,zS ks]
theorem zS {lv:Int}:∀ (l:List Ty) (p:St×At),frK lv [] l p=(l,p)
 | [],p=>rfl
 | t::l,p=>by rw [frK,zX t,zS l]
end
structure FrI (S:St) (lv:Int) (h:Int→Nat) (σ:Int→Ty) (p:St×At):Prop where
 inv:Inv p.1
 sm:dn p.1
 nn:noN p.1
 fix:∀ m x,ai m S=some x→ai m p.1=some x
 nw:∀ n k,ai n p.2=some k→(∃ x,ai n S=some x∧ai k p.1=some ⟨x.row,lv,false,Ty.zero,x.names⟩)∧ai k S=none
 inj:∀ n n' k,ai n p.2=some k→ai n' p.2=some k→n=n'
 all:∀ m x,ai m p.1=some x→ai m S=some x∨(x.lv=lv∧x.bd=false∧ai m S=none)
 sol:∃ σ',Sol p.1 σ'∧(∀ m x,ai m S=some x→σ' m=σ m)∧∀ n k,ai n p.2=some k→σ' k=σ n
 hgt:∃ h',StF p.1 h'∧(∀ m x,ai m S=some x→h' m=h m)∧∀ n k,ai n p.2=some k→h' k=h n
theorem FrI.start {S:St} {lv:Int} {h:Int→Nat} {σ:Int→Ty} (hi:Inv S) (sm:dn S) (nn:noN S) (hs:Sol S σ) (hF:StF S h):FrI S lv h σ (S,[]) :=
 ⟨hi,sm,nn,fun _ _ h=>h,fun _ _ h=>by simp [ai] at h,fun _ _ _ h=>by simp [ai] at h,fun _ _ h=>.inl h,⟨σ,hs,fun _ _ _=>rfl,fun _ _ h=>by simp [ai] at h⟩,⟨h,hF,fun _ _ _=>rfl,fun _ _ h=>by simp [ai] at h⟩⟩
theorem FrI.step {S:St} {lv:Int} {vs:List Int} {h:Int→Nat} {σ:Int→Ty} {p:St×At} (H:FrI S lv h σ p) {n:Int} {x:Vr} (hx:ai n S=some x):FrI S lv h σ (frV lv vs n p).2:=by
 unfold frV
 split
 · split
   · exact H
   · rename_i hn
     have wf:=H.inv.1
     have hxp:=H.fix n x hx
     have e:cpV lv p.1 n=⟨x.row,lv,false,Ty.zero,x.names⟩:=by unfold cpV;rw [hxp];rfl
     rw [e]
     have hnew:=pj wf (v:=⟨x.row,lv,false,Ty.zero,x.names⟩) rfl (wf.srt n x hxp)
     have hfix:=tI wf hnew
     have hS:ai ((p.1.length+1:Nat):Int) S=none:=by
      cases hm:ai ((p.1.length+1:Nat):Int) S with
      | none=>rfl
      | some y=>have:=H.fix _ y hm;rw [wf.fresh] at this;cases this
     have hFn:∀ n' k,ai n' (aI n ((p.1.length+1:Nat):Int) p.2)=some k→(n'=n∧k=((p.1.length+1:Nat):Int))∨ai n' p.2=some k:=fun n' k hk=>by
      rw [aP] at hk
      split at hk
      · rename_i e';cases hk;exact .inl ⟨e',rfl⟩
      · exact .inr hk
     obtain ⟨σ',s1,s2,s3⟩:=H.sol
     obtain ⟨h',t1,t2,t3⟩:=H.hgt
     have ho:∀ n' k,ai n' p.2=some k→k≠((p.1.length+1:Nat):Int):=fun n' k hk=>by
      obtain ⟨⟨y,_,hy⟩,_⟩:=H.nw n' k hk
      exact wf.ne hy
     refine ⟨H.inv.new hnew,zt hnew H.sm (H.sm n x hxp),Fy H.nn (fun hr=>H.nn n x hxp hr),fun m y hy=>hfix m y (H.fix m y hy),fun n' k hk=>?_,fun n1 n2 k h1 h2=>?_,fun m y hy=>?_,⟨upd σ' ((p.1.length+1:Nat):Int) (σ n),?_,fun m y hy=>?_,fun n' k hk=>?_⟩,⟨fun m=>if m=((p.1.length+1:Nat):Int) then h n else h' m,un wf hnew t1,fun m y hy=>?_,fun n' k hk=>?_⟩⟩
     · rcases hFn n' k hk with ⟨rfl,rfl⟩|hk
       · exact ⟨⟨x,hx,hnew.at_⟩,hS⟩
       · obtain ⟨⟨y,y1,y2⟩,y3⟩:=H.nw n' k hk
         exact ⟨⟨y,y1,hfix _ _ y2⟩,y3⟩
     · rcases hFn n1 k h1 with ⟨e1,e2⟩|g1
       · rcases hFn n2 k h2 with ⟨e3,_⟩|g2
         · rw [e1,e3]
         · exact absurd e2 (ho n2 _ g2)
       · rcases hFn n2 k h2 with ⟨_,e2⟩|g2
         · exact absurd e2 (ho n1 _ g1)
         · exact H.inj n1 n2 k g1 g2
     · by_cases em:m=((p.1.length+1:Nat):Int)
       · have hy:ai m (aI ((p.1.length+1:Nat):Int) ⟨x.row,lv,false,Ty.zero,x.names⟩ p.1)=some y:=hy
         rw [em,hnew.at_] at hy;cases hy
         exact .inr ⟨rfl,rfl,by rw [em];exact hS⟩
       · have hy:ai m (aI ((p.1.length+1:Nat):Int) ⟨x.row,lv,false,Ty.zero,x.names⟩ p.1)=some y:=hy
         rw [hnew.oth m em] at hy;exact H.all m y hy
     · refine hnew.sol wf s1 (by rw [← s2 n x hx];exact s1.gt n x hxp) fun hr=>?_
       have:=s1.row n x hxp hr
       rw [s2 n x hx] at this
       exact this
     · rw [eA (wf.ne (H.fix m y hy))];exact s2 m y hy
     · rcases hFn n' k hk with ⟨rfl,rfl⟩|hk
       · exact fh _ _ _
       · rw [eA (ho n' k hk)];exact s3 n' k hk
     · exact (if_neg (wf.ne (H.fix m y hy))).trans (t2 m y hy)
     · rcases hFn n' k hk with ⟨rfl,rfl⟩|hk
       · exact if_pos rfl
       · exact (if_neg (ho n' k hk)).trans (t3 n' k hk)
 · exact H
mutual
theorem FrI.ty {S:St} {lv:Int} {vs:List Int} {h:Int→Nat} {σ:Int→Ty}:∀ (t:Ty) (p:St×At),FrI S lv h σ p→(∀ n∈ch t,∃ x,ai n S=some x)→FrI S lv h σ (frT lv vs t p).2
 | .mk j x n l ks,p,H,hx=>by
  rw [frT]
  refine FrI.tys ks _ ?_ fun n hn=>hx n (eo hn)
  unfold frH
  split
  · rename_i hv
    obtain ⟨y,hy⟩:=hx n (ew hv)
    exact H.step hy
  · exact H
theorem FrI.tys {S:St} {lv:Int} {vs:List Int} {h:Int→Nat} {σ:Int→Ty}:∀ (l:List Ty) (p:St×At),FrI S lv h σ p→(∀ n∈cJ l,∃ x,ai n S=some x)→FrI S lv h σ (frK lv vs l p).2
 | [],p,H,hx=>H
 | t::l,p,H,hx=>by
  rw [ca] at hx
  rw [frK]
  exact FrI.tys l _ (FrI.ty t p H fun n hn=>hx n (List.mem_append_left _ hn)) fun n hn=>hx n (List.mem_append_right _ hn)
end
theorem ky {k n:Int} (h6:k≠6) (h5:¬ (k=5∧n≠0)):¬ isV k n=true:=by
 simp only [isV,Bool.or_eq_true,decide_eq_true_eq,Bool.and_eq_true]
 rintro (hc|hc)
 · exact h6 hc
 · exact h5 hc
mutual
theorem wy {g:Int→Int}:∀ (t:Ty),(∀ n∈ch t,g n≠0)→az (renT g t)=(az t).map fun o=>⟨g o.n,o.row,o.names⟩
 | .mk k x n l ks,h=>by
  have ih:=tc ks fun m hm=>h m (eo hm)
  rw [renT,az,az]
  simp only [List.map_append,ih]
  by_cases h6:k=6
  · have hv:isV k n=true:=by simp [isV,h6]
    rw [if_pos h6,if_pos h6,if_pos hv,if_neg oq,if_neg oq];rfl
  · rw [if_neg h6,if_neg h6]
    by_cases h5:k=5∧n≠0
    · have hv:isV k n=true:=by simp [isV,h5]
      rw [if_pos hv,if_pos ⟨h5.1,h n (ew hv)⟩,if_pos h5];rfl
    · rw [if_neg (ky h6 h5),if_neg h5];rfl
theorem tc {g:Int→Int}:∀ (l:List Ty),(∀ n∈cJ l,g n≠0)→aF (dG g l)=(aF l).map fun o=>⟨g o.n,o.row,o.names⟩
 | [],_=>rfl
 | t::l,h=>by
  rw [ca] at h
  rw [dG,aF,aF,List.map_append,wy t fun n hn=>h n (List.mem_append_left _ hn),tc l fun n hn=>h n (List.mem_append_right _ hn)]
end
mutual
theorem xV {g:Int→Int} {σ:Int→Ty}:∀ (t:Ty),(∀ n∈ch t,g n≠0)→sub σ (renT g t)=sub (fun n=>σ (g n)) t
 | .mk k x n l ks,h=>by
  have ih:=tf (σ:=σ) ks fun m hm=>h m (eo hm)
  rw [renT,sub,sub,ih]
  by_cases h6:k=6
  · have hv:isV k n=true:=by simp [isV,h6]
    rw [if_pos h6,if_pos h6,if_pos hv]
  · rw [if_neg h6,if_neg h6]
    by_cases h5:k=5∧n≠0
    · have hv:isV k n=true:=by simp [isV,h5]
      rw [if_pos hv,if_pos ⟨h5.1,h n (ew hv)⟩,if_pos h5]
    · rw [if_neg (ky h6 h5),if_neg h5,if_neg h5]
theorem tf {g:Int→Int} {σ:Int→Ty}:∀ (l:List Ty),(∀ n∈cJ l,g n≠0)→nO σ (dG g l)=nO (fun n=>σ (g n)) l
 | [],_=>rfl
 | t::l,h=>by
  rw [ca] at h
  rw [dG,nO,nO,xV t fun n hn=>h n (List.mem_append_left _ hn),tf l fun n hn=>h n (List.mem_append_right _ hn)]
end
theorem jF {t:Ty} {n:Int}:∀ {l:List Ty},t∈l→n∈ch t→n∈cJ l
 | [],h,_=>by simp at h
 | a::l,h,hn=>by
  rw [ca,List.mem_append]
  rcases List.mem_cons.1 h with rfl|h
  · exact .inl hn
  · exact .inr (jF h hn)
theorem Gt.ren {g:Int→Int} {t:Ty} (hg:Gt t):(∀ n∈ch t,0<g n)→Gt (renT g t):=by
 induction hg with
 | leaf k x h4 h5 h6 =>
  intro _
  rw [renT,if_neg (ky h6 fun h=>h5 h.1)];exact .leaf k x h4 h5 h6
 | list t h ih =>
  intro hp
  rw [renT,if_neg (ky dq fun h=>absurd h.1 dq)]
  exact .list _ (ih fun n hn=>hp n (eo (jF List.mem_cons_self hn)))
 | var n h =>
  intro hp
  have hv:isV 6 n=true:=by simp [isV]
  rw [renT,if_pos hv];exact .var _ (hp n (ew hv))
 | rcd n ns ks h0 hs hl hk ih =>
  intro hp
  rw [renT,iM]
  refine .rcd _ ns _ ?_ hs (by simpa using hl) fun k hk'=>?_
  · split
    · rename_i hv;exact Int.le_of_lt (hp n (ew hv))
    · exact h0
  · obtain ⟨k0,hk0,rfl⟩:=List.mem_map.1 hk'
    exact ih k0 hk0 fun n hn=>hp n (eo (jF hk0 hn))
theorem Ft.ren {g:Int→Int} {h h':Int→Nat} {b:Nat} {t:Ty} (hf:Ft h b t):(∀ n∈ch t,g n≠0∧h' (g n)=h n)→Ft h' b (renT g t):=by
 induction hf with
 | leaf b k x hx h5 h6 =>
  intro _
  rw [renT,if_neg (ky h6 fun h=>h5 h.1)];exact .leaf b k x hx h5 h6
 | list b t ht ih =>
  intro hp
  rw [renT,if_neg (ky dq fun h=>absurd h.1 dq)]
  exact .list b _ (ih fun n hn=>hp n (eo (jF List.mem_cons_self hn)))
 | var b n hn =>
  intro hp
  have hv:isV 6 n=true:=by simp [isV]
  rw [renT,if_pos hv];exact .var b _ (by rw [(hp n (ew hv)).2];exact hn)
 | rcd b n ns ks hr hnd hm hl hk ih =>
  intro hp
  rw [renT,iM]
  refine .rcd b _ ns _ ?_ hnd hm (by simpa using hl) fun k hk'=>?_
  · split
    · rename_i hv
      intro _
      rw [(hp n (ew hv)).2]
      exact hr (fun e=>by simp [isV,e] at hv)
    · rename_i hv
      intro hn
      exact absurd (by simp [isV,hn]) hv
  · obtain ⟨k0,hk0,rfl⟩:=List.mem_map.1 hk'
    exact ih k0 hk0 fun n hn=>hp n (eo (jF hk0 hn))
theorem tX {t:Ty} {n:Int} (h:n∈ch t):(aw [] t).contains n=true:=List.contains_iff_mem.2 (gd.2 h)
structure FrR (S:St) (lv:Int) (h:Int→Nat) (σ:Int→Ty) (b:Nat) (a x:Ty) (T:St):Prop where
 inv:Inv T
 sm:dn T
 nn:noN T
 fix:∀ m x,ai m S=some x→ai m T=some x
 all:∀ m x,ai m T=some x→ai m S=some x∨(x.lv=lv∧x.bd=false∧ai m S=none)
 ty:tyN T x
 off:∀ o∈az x,ai o.n S=none
 can:∀ k,wi (List.replicate k x)=wi (List.replicate k a)
 sol:∃ σ',Sol T σ'∧(∀ m x,ai m S=some x→σ' m=σ m)∧sub σ' x=sub σ a
 ft:∃ h',StF T h'∧(∀ m x,ai m S=some x→h' m=h m)∧Ft h' b x
theorem DU {S:St} {lv:Int} {h:Int→Nat} {σ:Int→Ty} {b:Nat} {a:Ty} (hi:Inv S) (sm:dn S) (nn:noN S) (hs:Sol S σ) (hF:StF S h) (ha:tyN S a) (hf:Ft h b a) :
 FrR S lv h σ b a (frT lv (aw [] a) a (S,[])).1 (frT lv (aw [] a) a (S,[])).2.1:=by
 have hc:∀ n∈ch a,(aw [] a).contains n=true:=fun n hn=>tX hn
 have hin:∀ n∈ch a,∃ x,ai n S=some x:=fun n hn=>by
  obtain ⟨o,ho,rfl⟩:=bC.1 hn
  obtain ⟨x,hx,_⟩:=ha.oc o ho
  exact ⟨x,hx⟩
 have I:=FrI.ty (vs:=aw [] a) a (S,[]) (FrI.start (lv:=lv) hi sm nn hs hF) hin
 have hd:=AD (lv:=lv) a (S,[]) hc
 have hr:=z8 (lv:=lv) (F:=(frT lv (aw [] a) a (S,[])).2.2) a (S,[]) hc fun _ _ h=>h
 generalize frT lv (aw [] a) a (S,[])=p at I hd hr
 obtain ⟨x,T,F⟩:=p
 simp only at I hd hr ⊢
 subst hr
 have hg:∀ n∈ch a,∃ y,ai n F=some (i4 F n)∧ai n S=some y∧ai (i4 F n) T=some ⟨y.row,lv,false,Ty.zero,y.names⟩∧ai (i4 F n) S=none∧0<i4 F n:=fun n hn=>by
  obtain ⟨k,hk⟩:=hd n hn
  have e:i4 F n=k:=by unfold i4;rw [hk];rfl
  obtain ⟨⟨y,y1,y2⟩,y3⟩:=I.nw n k hk
  rw [e]
  refine ⟨y,hk,y1,y2,y3,?_⟩
  have:=(I.inv.1.dom k).1 (by rw [y2];rfl)
  omega
 have h0:∀ n∈ch a,i4 F n≠0:=fun n hn=>by obtain ⟨_,_,_,_,_,h⟩:=hg n hn;omega
 have hpos:∀ n∈ch a,0<i4 F n:=fun n hn=>by obtain ⟨_,_,_,_,_,h⟩:=hg n hn;exact h
 have hoc:∀ o∈az (renT (i4 F) a),∃ o'∈az a,o=⟨i4 F o'.n,o'.row,o'.names⟩:=fun o ho=>by
  rw [wy a h0] at ho
  obtain ⟨o',h1,h2⟩:=List.mem_map.1 ho
  exact ⟨o',h1,h2.symm⟩
 obtain ⟨h',t1,t2,t3⟩:=I.hgt
 obtain ⟨σ',s1,s2,s3⟩:=I.sol
 have hG:Gt (renT (i4 F) a):=ha.gt.ren hpos
 have hft:Ft h' b (renT (i4 F) a):=hf.ren fun n hn=>by
  obtain ⟨y,y1,_⟩:=hg n hn
  exact ⟨h0 n hn,t3 n _ y1⟩
 refine ⟨I.inv,I.sm,I.nn,I.fix,I.all,⟨hG,Hm hG b hft,fun o ho=>?_⟩,fun o ho=>?_,fun k=>?_,⟨σ',s1,s2,?_⟩,⟨h',t1,t2,hft⟩⟩
 · obtain ⟨o',ho',rfl⟩:=hoc o ho
   obtain ⟨y,_,y1,y2,_⟩:=hg o'.n (bC.2 ⟨o',ho',rfl⟩)
   obtain ⟨z,z1,z2,z3⟩:=ha.oc o' ho'
   rw [y1] at z1;cases z1
   exact ⟨_,y2,z2,z3⟩
 · obtain ⟨o',ho',rfl⟩:=hoc o ho
   obtain ⟨y,_,_,_,y3,_⟩:=hg o'.n (bC.2 ⟨o',ho',rfl⟩)
   exact y3
 · have e:List.replicate k (renT (i4 F) a)=(List.replicate k a).map (renT (i4 F)):=by rw [List.map_replicate]
   have hf:∀ n∈cJ (List.replicate k a),n∈ch a:=fun n hn=>by
    generalize hl:List.replicate k a=l at hn
    have hall:∀ t∈l,t=a:=fun t ht=>by rw [← hl] at ht;exact List.eq_of_mem_replicate ht
    clear hl e
    induction l with
    | nil=>simp [cJ,aF] at hn
    | cons t l ih =>
     rw [ca,List.mem_append] at hn
     rcases hn with hn|hn
     · rw [← hall t List.mem_cons_self];exact hn
     · exact ih hn fun t ht=>hall t (List.mem_cons_of_mem _ ht)
   rw [e]
   refine Di _ _ (fun n hn=>h0 n (hf n hn)) fun n hn m hm hnm=>?_
   obtain ⟨_,y1,_⟩:=hg n (hf n hn)
   obtain ⟨_,z1,_⟩:=hg m (hf m hm)
   rw [← hnm] at z1
   exact I.inj n m _ y1 z1
 · rw [xV a h0]
   refine dA a fun o ho=>?_
   obtain ⟨y,y1,_⟩:=hg o.n (bC.2 ⟨o,ho,rfl⟩)
   exact s3 _ _ y1
theorem rf {S:St} {ρ:Int→Ty} (wf:Wf S) (rv:Rv S ρ) {a r:Ty} {f:Nat} (ha:tyS S a) (hu:∀ o∈az a,∀ x,ai o.n S=some x→x.bd=false) (h:dH f S a=some r):r=a:=by
 rw [yf wf rv h ha]
 exact q9 ha.1 fun o ho=>by
  obtain ⟨x,h1,h2,_⟩:=ha.2 o ho
  rw [rv.free _ x h1 (hu o ho x h1),h2]
def sZ (S:St):Prop:=∀ n,(ai n S).isSome=true↔1≤n∧n≤(S.length:Int)
def nD (S S':St):Prop:=∀ n x,ai n S=some x→∃ x',ai n S'=some x'∧x'.lv≤x.lv
theorem nD.refl (S:St):nD S S:=fun _ x h=>⟨x,h,Int.le_refl _⟩
theorem nD.trans {S T U:St} (h:nD S T) (k:nD T U):nD S U:=fun n x hx=>by
 obtain ⟨y,h1,h2⟩:=h n x hx
 obtain ⟨z,k1,k2⟩:=k n y h1
 exact ⟨z,k1,Int.le_trans k2 h2⟩
theorem FL {lv:Int} (ks:List Int) {S:St} (hd:sZ S):sZ (cS lv ks S):=fun n=>by
 obtain ⟨h1,h2⟩:=eR lv ks S
 rw [h1,← hd n]
 constructor
 · intro h
   obtain ⟨x,hx⟩:=Option.isSome_iff_exists.1 h
   obtain ⟨y,hy⟩:=(h2 n).2 x hx
   rw [hy];rfl
 · intro h
   obtain ⟨x,hx⟩:=Option.isSome_iff_exists.1 h
   obtain ⟨l,hl⟩:=(h2 n).1 x hx
   rw [hl];rfl
theorem FE {S:St} {n:Int} {v:Vr} (hd:sZ S) (hn:(ai n S).isSome=true):sZ (aI n v S):=fun m=>by
 rw [kf hn,← hd m,aP]
 by_cases e:m=n
 · rw [if_pos e,e,hn];simp
 · rw [if_neg e]
theorem zD {lv:Int}:∀ (ks:List Int) (S:St),nD S (cS lv ks S)
 | [],S=>nD.refl S
 | k::ks,S=>by
  rw [cS]
  split
  · rename_i w hw
    refine nD.trans (fun m x hx=>?_) (zD ks _)
    rw [aP]
    by_cases e:m=k
    · rw [if_pos e]
      rw [e,hw] at hx;cases hx
      exact ⟨_,rfl,Int.min_le_left _ _⟩
    · rw [if_neg e];exact ⟨x,hx,Int.le_refl _⟩
  · exact zD ks S
theorem uv {lv:Int}:∀ (ks:List Int) (S:St) (m:Int) (w:Vr),ai m S=some w→(m∈ks∨w.lv≤lv)→∃ w',ai m (cS lv ks S)=some w'∧w'.lv≤lv
 | [],S,m,w,hw,h=>⟨w,hw,h.elim zq id⟩
 | k::ks,S,m,w,hw,h=>by
  rw [cS]
  by_cases e:m=k
  · subst e
    rw [hw]
    exact uv ks _ m { w with lv:=min w.lv lv } (by rw [aP,if_pos rfl]) (.inr (Int.min_le_right _ _))
  · have h':m∈ks∨w.lv≤lv:=by
     rcases h with h|h
     · rcases List.mem_cons.1 h with h|h
       · exact absurd h e
       · exact .inl h
     · exact .inr h
    split
    · exact uv ks _ m w (by rw [aP,if_neg e];exact hw) h'
    · exact uv ks _ m w hw h'
def lvP (S S':St):Prop:=sZ S→sZ S'∧nD S S'
theorem lvP.tr (S T U:St) (h:lvP S T) (k:lvP T U):lvP S U:=fun hd=>⟨(k (h hd).1).1,(h hd).2.trans (k (h hd).1).2⟩
theorem FG {f:Nat} {S S':St} {n:Int} {t:Ty} {ok:Bool} (h:b7 f S n t=some (ok,S')):lvP S S':=fun hd=>by
 unfold b7 at h
 split at h <;> try (cases h;done)
 rename_i v hv
 split at h <;> try (cases h;done)
 split at h <;> try (cases h;done)
 split at h
 · simp only [Option.some.injEq,Prod.mk.injEq] at h;obtain ⟨_,rfl⟩:=h;exact ⟨hd,nD.refl _⟩
 · rename_i r _ _ _
   simp only [Option.some.injEq,Prod.mk.injEq] at h;obtain ⟨_,rfl⟩:=h
   obtain ⟨l,hl⟩:=((eR v.lv (aw [] r) S).2 n).1 v hv
   refine ⟨FE (FL _ hd) (by rw [hl];rfl),fun m x hx=>?_⟩
   rw [aP]
   by_cases e:m=n
   · rw [if_pos e]
     rw [e,hv] at hx;cases hx
     exact ⟨_,rfl,Int.le_refl _⟩
   · rw [if_neg e];exact zD _ S m x hx
theorem Hx (S:St) (a b:Ty):lvP S (dQ S a b):=fun hd=>by
 have hf:ai ((S.length+1:Nat):Int) S=none:=by
  cases hm:ai ((S.length+1:Nat):Int) S with
  | none=>rfl
  | some x=>have:=(hd _).1 (by rw [hm];rfl);omega
 unfold dQ
 refine ⟨fun m=>?_,fun m x hx=>?_⟩
 · rw [iF hf,aP]
   by_cases e:m=((S.length+1:Nat):Int)
   · rw [if_pos e];simp;omega
   · rw [if_neg e,hd m];omega
 · rw [aP,if_neg (by rintro rfl;rw [hf] at hx;cases hx)]
   exact ⟨x,hx,Int.le_refl _⟩
theorem HC {f:Nat} {S S':St} {a b:Ty} {ok:Bool} (h:bt f S a b=some (ok,S')) (wf:Wf S):nD S S' :=
 (jW (P:=lvP) (fun S hd=>⟨hd,nD.refl S⟩) (fun _ _ _ h1 h2=>lvP.tr _ _ _ h1 h2) (fun _ _ _ _ _ _ h=>FG h) (fun S a b _ _ _ _=>Hx S a b) f S a b ok S' h wf.dom).2
theorem FR {S S':St} {ρ:Int→Ty} {f:Nat} {n:Int} {a:Ty} {x:Vr} (wf:Wf S) (rv:Rv S ρ) (h:bt f S (.mk 6 [] n [] []) a=some (true,S')) (hx:ai n S=some x) (hb:x.bd=false) (ha:tyS S a)
 (hu:∀ o∈az a,∀ x,ai o.n S=some x→x.bd=false) (hn:n∉ch a):S'=aI n { x with bd:=true,val:=a } (cS x.lv (aw [] a) S):=by
 cases f with
 | zero=>simp [bt] at h
 | succ f =>
 rw [bt] at h
 cases f with
 | zero=>simp [bY,hdV] at h
 | succ f =>
 have e1:bY (f+1) S (.mk 6 [] n [] [])=some (.mk 6 [] n [] []):=kV fun _=>by rw [Ty.n_mk,ii hx,if_neg (by rw [hb];decide)]
 have hna:Hn S a:=fun hk=>by
  have key:∀ o∈az a,bdV S o.n=none:=fun o ho=>by
   obtain ⟨y,y1,_⟩:=ha.2 o ho
   rw [ii y1,if_neg (by rw [hu o ho y y1];decide)]
  rcases hk with h5|h6
  · by_cases h0:a.n=0
    · rw [h0];exact bd0 wf
    · exact key _ (cI h5 h0)
  · have:(⟨a.n,false,[]⟩:Occ)∈az a:=by
     obtain ⟨k,y,m,l,ks⟩:=a
     simp only [Ty.kind_mk] at h6
     subst h6
     exact cE
    exact key _ this
 have e2:bY (f+1) S a=some a:=kV hna
 rw [e1,e2] at h
 simp only at h
 split at h <;> try (cases h;done)
 have hne:¬ ((Ty.mk 6 [] n [] []).kind=6∧a.kind=6∧(Ty.mk 6 [] n [] []).n=a.n):=fun hc=>by
  apply hn
  have:(⟨a.n,false,[]⟩:Occ)∈az a:=by
   have h6:=hc.2.1
   obtain ⟨k,y,m,l,ks⟩:=a
   simp only [Ty.kind_mk] at h6
   subst h6
   exact cE
  exact bC.2 ⟨_,this,hc.2.2.symm⟩
 rw [if_neg hne,if_pos (show (Ty.mk 6 [] n [] []).kind=6 from rfl)] at h
 unfold b7 at h
 rw [Ty.n_mk,hx] at h
 simp only at h
 split at h <;> try (cases h;done)
 rename_i r hr
 have er:=rf wf rv ha hu hr
 subst er
 split at h <;> try (cases h;done)
 split at h
 · simp at h
 · simp only [Option.some.injEq,Prod.mk.injEq] at h;exact h.2.symm
theorem Off.of {Q:Int→Prop} {t:Ty} (h:∀ o,o∉az t):Off Q t:=fun o ho=>absurd ho (h o)
theorem fd {n:Int} {x:Vr} (h:ai n (ju 0 [])=some x):n=1∧x=⟨false,0,false,Ty.zero,[]⟩:=by
 have h:ai n ([((1:Int),(⟨false,0,false,Ty.zero,[]⟩:Vr))]:St)=some x:=h
 rw [ai] at h
 split at h
 · rename_i e;cases h;exact ⟨e,rfl⟩
 · simp [ai] at h
theorem kw:ai 1 (ju 0 [])=some ⟨false,0,false,Ty.zero,[]⟩:=rfl
structure JM (l:List Int) (t a:Ty) (S:St) (h:Int→Nat) (σ:Int→Ty):Prop where
 run:dY l 1 t.sz (ju 0 []) t 0=some (a,S)
 inv:Inv S
 sol:Sol S σ
 stf:StF S h
 sm:dn S
 nn:noN S
 ty:tyN S a
 ft:Ft h 3 a
 eq:sub σ a=t
 len:S.length≤1+t.sz
 one:ai 1 S=some ⟨false,0,false,Ty.zero,[]⟩
 h1:h 1=3
 s1:σ 1=t
 fre:∀ n x,ai n S=some x→x.bd=false
 lvl:∀ o∈az a,∃ x,ai o.n S=some x∧x.lv=1
 off:1∉ch a
theorem Jh (l:List Int) {t:Ty} (hc:Cl 3 t):∃ a S h σ,JM l t a S h σ:=by
 have hlim:szB 3<lim:=by decide
 have ht:t.sz≤szB 3:=(hc.ft (h':=fun _=>0)).sz
 have h3:=sz3
 have hnew:=pj Inv.nil.1 (v:=⟨false,0,false,Ty.zero,[]⟩) rfl .nil
 have e1:(((([]:St).length+1:Nat)):Int)=1:=rfl
 have i1:Inv (ju 0 []):=Inv.nil.new hnew
 have f1:StF (ju 0 []) (fun _=>3):=fun n x hx hb=>by rw [(fd hx).2] at hb;cases hb
 have m1:dn (ju 0 []):=fun n x hx=>by rw [(fd hx).2];exact (by decide:0<100000000)
 have n1:noN (ju 0 []):=fun n x hx _=>by rw [(fd hx).2]
 have sol1:∀ w:Ty,Gt w→Sol (ju 0 []) (fun _=>w):=fun w hw=>⟨fun _ _ _=>hw,fun n x hx hr=>(by rw [(fd hx).2] at hr;cases hr),fun n x hx hb=>(by rw [(fd hx).2] at hb;cases hb)⟩
 have l1:(ju 0 []).length=1:=rfl
 obtain ⟨a,S,h,σ,e,B⟩:=mH (l:=l) (lv:=1) t.sz 3 t (ju 0 []) 0 (fun _=>3) (fun _=>t) hlim hc (Nat.le_refl _) i1 (sol1 t hc.gt) f1 m1 oq
 obtain ⟨a',S',h',τ,e',B'⟩:=mH (l:=l) (lv:=1) t.sz 3 t (ju 0 []) 0 (fun _=>3) (fun _=>.mk 4 [] 0 [] [t]) hlim hc (Nat.le_refl _) i1 (sol1 _ (.list t hc.gt)) f1 m1 oq
 rw [e] at e'
 cases e'
 have off:1∉ch a:=fun hm=>by
  obtain ⟨o,ho,h1⟩:=bC.1 hm
  have:=EV B.ty.gt (B.ty.s.okG B.sol) (B.ty.s.okG B'.sol) (tyS.dj B.sol B.ty.gt B.ty.s.2) (tyS.dj B'.sol B.ty.gt B.ty.s.2) (by rw [B.eq,B'.eq]) o ho
  rw [h1,B.agr 1 _ kw,B'.agr 1 _ kw] at this
  have hz:=congrArg Ty.sz this
  simp only [Ty.sz,Ty.szL,szS,List.length_nil] at hz
  omega
 refine ⟨a,S,h,σ,e,B.inv,B.sol,B.stf,B.sm,B.noN n1,B.ty,B.ft,B.eq,by have:=B.len;omega,B.fix 1 _ kw,B.old 1 _ kw,B.agr 1 _ kw,fun n x hx=>?_,fun o ho=>?_,off⟩
 · rcases B.nw n x hx with h|h
   · rw [(fd h).2]
   · exact h.2.1
 · obtain ⟨x,hx,_⟩:=B.ty.oc o ho
   refine ⟨x,hx,?_⟩
   rcases B.nw o.n x hx with h|h
   · exact absurd (bC.2 ⟨o,ho,(fd h).1⟩) off
   · exact h.1
theorem DW {lv:Int} {vs:List Int} {n:Int} {p:St×At} (h:¬ vs.contains n=true):frV lv vs n p=(n,p):=by unfold frV;rw [if_neg h]
theorem zZ {lv:Int} {vs:List Int} {n k:Int} {p:St×At} (h:vs.contains n=true) (h2:ai n p.2=some k):frV lv vs n p=(k,p):=by unfold frV;rw [if_pos h,h2]
theorem AB {lv:Int} {vs:List Int} {n:Int} {p:St×At} {x:Vr} (h:vs.contains n=true) (h2:ai n p.2=none) (h3:ai n p.1=some x):frV lv vs n p=(((p.1.length+1:Nat):Int),(aI ((p.1.length+1:Nat):Int) ⟨x.row,lv,false,Ty.zero,x.names⟩ p.1,aI n ((p.1.length+1:Nat):Int) p.2)):=by
 unfold frV cpV;rw [if_pos h,h2,h3];rfl
def fv (vs:List Int) (m:St):Prop:=∀ n,vs.contains n=true→¬ ai n m=none
theorem fv.set {vs:List Int} {m:St} (h:fv vs m) (k:Int) (x:Vr):fv vs (aI k x m):=fun n hn=>by
 rw [aP];split
 · simp
 · exact h n hn
theorem fv.v {lv:Int} {vs us:List Int} {n:Int} {p:St×At} (h:fv vs p.1):fv vs (frV lv us n p).2.1:=by
 unfold frV
 split
 · split
   · exact h
   · exact h.set _ _
 · exact h
mutual
theorem fv.t {lv:Int} {vs us:List Int}:∀ (t:Ty) (p:St×At),fv vs p.1→fv vs (frT lv us t p).2.1
 | .mk j x n l ks,p,h=>by
  rw [frT]
  refine fv.k ks _ ?_
  unfold frH
  split
  · exact h.v
  · exact h
theorem fv.k {lv:Int} {vs us:List Int}:∀ (l:List Ty) (p:St×At),fv vs p.1→fv vs (frK lv us l p).2.1
 | [],p,h=>h
 | t::l,p,h=>by rw [frK];exact fv.k l _ (fv.t t p h)
end
theorem Ap (lv:Int) (vs:List Int) (t:Ty) (p:St×At):frT lv vs t p=(.mk t.kind t.name (frH lv vs t.kind t.n p).1 t.names (frK lv vs t.kids (frH lv vs t.kind t.n p).2).1,(frK lv vs t.kids (frH lv vs t.kind t.n p).2).2):=by cases t;rw [frT];rfl
theorem Gy {lv:Int} {vs:List Int} {k n:Int} {p:St×At} (h:isV k n=true):frH lv vs k n p=frV lv vs n p:=by unfold frH;rw [if_pos h]
theorem GG {lv:Int} {vs:List Int} {k n:Int} {p:St×At} (h:¬ isV k n=true):frH lv vs k n p=(n,p):=by unfold frH;rw [if_neg h]
def bv (lv:Int) (vs:List Int) (ks:List Ty) (k:Nat) (p:St×At):List Ty:=(frK lv vs (ks.take k) p).1++ks.drop k
section
variable {lv:Int} {vs:List Int} {ks:List Ty} {k:Nat} {p:St×At}
@[simp] theorem xe:(bv lv vs ks k p).length=ks.length:=by simp [bv,jJ];omega
theorem iD (h:k<ks.length):(bv lv vs ks k p).getD (0+k) Ty.zero=ks.getD k Ty.zero:=by
 rw [Nat.zero_add,List.getD_eq_getElem?_getD,List.getD_eq_getElem?_getD,bv,List.getElem?_append_right (by rw [jJ];simp;omega)]
 simp [jJ,Nat.min_eq_left (Nat.le_of_lt h)]
theorem xU (h:k<ks.length):frK lv vs (ks.take (k+1)) p=((frK lv vs (ks.take k) p).1++[(frT lv vs (ks.getD k Ty.zero) (frK lv vs (ks.take k) p).2).1],(frT lv vs (ks.getD k Ty.zero) (frK lv vs (ks.take k) p).2).2):=by
 rw [eB ks k h,xK]
theorem DE (h:k<ks.length):(bv lv vs ks k p).set (0+k) (frT lv vs (ks.getD k Ty.zero) (frK lv vs (ks.take k) p).2).1=bv lv vs ks (k+1) p:=by
 have e:(frK lv vs (ks.take k) p).1.length=k:=by rw [jJ];simp;omega
 rw [Nat.zero_add,bv,bv,List.set_append_right _ _ oq,e,Nat.sub_self,pb (d:=Ty.zero) h,List.set_cons_zero,xU h]
 simp
theorem DV (h:k<ks.length):(frT lv vs (ks.getD k Ty.zero) (frK lv vs (ks.take k) p).2).2=(frK lv vs (ks.take (k+1)) p).2:=by rw [xU h]
theorem wb (h:ks.length≤k):bv lv vs ks k p=(frK lv vs ks p).1:=by rw [bv,List.take_of_length_le h,List.drop_of_length_le h,List.append_nil]
end
theorem F7 (lv:Int) (x:Vr) (m:St) (hml:m.length<100000000):ar cx 80 [.ptr 0 0,.agg [.bool (x.row),.int .i64 (lv),.bool false,.int .i64 0,.str [],.int .i64 0,.full [],.full [],.imm (x.names.map aa.str)]] [bS lv,mS m] (fun v h=>v=(.int .i64 ((((m.length+1):Nat)):Int))∧h=[bS lv,mS (aI ((((m.length+1):Nat):Int)) ⟨x.row,lv,false,Ty.zero,x.names⟩ m)]):=by
 refine gF ?_
 have:=nz ⟨x.row,lv,false,Ty.zero,x.names⟩ lv m hml
 simpa [bf,cd,aV,aa.frz,aa.owns,Vr.v,Ty.zero] using this
noncomputable def c87:Code:=aB Tryz.f87
theorem lh {p:Prop} (h:p:=by simp [af.belO,Ty.v,Vr.v]):p:=h
theorem oX {p:Prop} (h:p:=by simp [aK]):p:=h
theorem vC (n lv:Int) (vs:List Int) (m:St) (u:Ty) (f:At) (hml:m.length<100000000) (hv:vs.length<100000000) (hd:fv vs m):ar cx 87 [.int .i64 (n),.ptr 4 0,.ptr 7 0,.ptr 2 0] [bS lv,mS m,pB,u.bx,wB vs,.box zC,mA f,.box [.map 6]] (fun v h=>v=(.int .i64 ((frV lv vs n (m,f)).1))∧h=[bS lv,mS ((frV lv vs n (m,f)).2.1),pB,u.bx,wB vs,.box zC,mA ((frV lv vs n (m,f)).2.2),.box [.map 6]]):=by
 refine am (cx:=cx) 44 8 [(ResultVar.tmp 5)] Tryz.func87 rfl rfl rfl rfl rfl zq ?_
 show wpA cx 44 8 (at_ c87 []) _ _ _
 apply qZ [(0,.int .i64 (n)),(1,.ptr 4 0),(2,.ptr 7 0),(3,.ptr 2 0)] [bS lv,mS m,pB,u.bx,wB vs,.box zC,mA f,.box [.map 6]]
 apply qU 1 [(0,.int .i64 (n)),(1,.ptr 4 0),(2,.ptr 7 0),(3,.ptr 2 0)]
 apply ao
 apply qV 2
 refine bR (args:=[.imm (vs.map iE),.int .i64 (n)]) kq kq kq kq (oK vs (n) oq) (by simp [Ty.v,bo,Occ.v]) (by simp [Ty.v]) (by simp [Ty.v,bh]) ?_
 apply qR 1 [(0,.int .i64 (n)),(2,.ptr 7 0),(3,.ptr 2 0),(12,.bool (!(vs.contains (n))))] [bS lv,mS m,pB,u.bx,wB vs,.box zC,mA f,.box [.map 6]]
 by_cases hb1:(vs.contains (n))=true
 refine qf (x:=(!(vs.contains (n)))) (congrArg not (hb1)) ?_ ?_
 apply qK
 apply qz [(0,.int .i64 (n)),(2,.ptr 7 0),(3,.ptr 2 0)]
 apply ao
 apply qV 2
 rcases hm2:ai (n) f with _|x2
 refine qy (eO (ok:=true) (o:=6) (ek:=iE) (ev:=iE) (l:=f) (k:=(n)) df hm2 kq Ea ty3 rfl ty3 kq) ?_ ?_ ?_
 apply qR 5 [(0,.int .i64 (n)),(2,.ptr 7 0),(3,.ptr 2 0),(7,.bool false)] [bS lv,mS m,pB,u.bx,wB vs,.box zC,mA f,.box [.map 6]]
 apply qU 2 [(0,.int .i64 (n)),(2,.ptr 7 0),(3,.ptr 2 0),(21,.bool true)]
 refine cw kq kq ?_
 apply qV 5
 rcases hm3:ai (n) m with _|x3
 · exact absurd hm3 (hd n aq)
 refine qy (cg (ok:=false) (o:=1) (ek:=iE) (ev:=Vr.v) (l:=m) (k:=(n)) (x:=x3) df hm3 kq ip ty3 rfl jw kq) ?_ ?_ ?_
 apply qR 2 [(0,.int .i64 (n)),(2,.ptr 7 0),(3,.ptr 2 0),(8,.ptr 8 0)] [bS lv,mS m,pB,u.bx,wB vs,.box zC,mA f,.box [.map 6],vrB x3]
 refine cR cxM kq aJ (bq ?_)
 apply qu 12
 refine cC (args:=[.ptr 0 0,.agg [.bool (x3.row),.int .i64 (lv),.bool false,.int .i64 0,.str [],.int .i64 0,.full [],.full [],.imm (x3.names.map aa.str)]]) (hs:=[bS lv,mS m]) (hs':=[bS lv,mS (aI ((((m.length+1):Nat):Int)) ⟨x3.row,(lv),false,Ty.zero,x3.names⟩ m)]) (aO:=[pB,u.bx,wB vs,.box zC,mA f,.box [.map 6],vrB x3]) (L:=[0,1]) kq kq kq kq kq kq (F7 (lv) x3 m oq) lh lh rfl lh lh kq rfl rfl ?_
 refine qD (dC (o:=6) (ek:=iE) (ev:=iE) (l:=f) (k:=(n)) (x:=(((m.length+1):Nat):Int)) df kq Ea ty3 rfl kq kq) ?_ ?_ ?_ ?_
 refine cq kq ⟨kq,?_⟩
 apply ab
 refine qZ [(0,.int .i64 (n)),(2,.ptr 7 0)] [bS lv,mS (aI ((((m.length+1):Nat):Int)) ⟨x3.row,(lv),false,Ty.zero,x3.names⟩ m),pB,u.bx,wB vs,.box zC,mA (aI (n) (((m.length+1):Nat):Int) f),.box [.map 6],vrB x3] ?_ ?_
 apply qV 2
 rcases hm4:ai (n) (aI (n) (((m.length+1):Nat):Int) f) with _|x4
 · exact absurd hm4 ((by rw [aP,if_pos rfl];simp))
 refine qy (cg (ok:=false) (o:=6) (ek:=iE) (ev:=iE) (l:=(aI (n) (((m.length+1):Nat):Int) f)) (k:=(n)) (x:=x4) df hm4 kq Ea ty3 rfl ty3 kq) ?_ ?_ ?_
 refine qR 1 [(5,.int .i64 (x4))] [bS lv,mS (aI ((((m.length+1):Nat):Int)) ⟨x3.row,(lv),false,Ty.zero,x3.names⟩ m),pB,u.bx,wB vs,.box zC,mA (aI (n) (((m.length+1):Nat):Int) f),.box [.map 6],vrB x3] ?_ ?_
 refine a8 kq ?_
 refine aM (l:=[.int .i64 (x4)]) iq kq (by rw [AB (p:=(m,f)) aq aq aq];rw [aP,if_pos rfl] at hm4;cases hm4;rfl) oX oX ?_ ?_
 refine Eq.trans (b:=[bS lv,mS (aI ((((m.length+1):Nat):Int)) ⟨x3.row,(lv),false,Ty.zero,x3.names⟩ m),pB,u.bx,wB vs,.box zC,mA (aI (n) (((m.length+1):Nat):Int) f),.box [.map 6]]) kq ?_
 · rw [AB (p:=(m,f)) aq aq aq]
 · simp [af.belO,Ty.v,Vr.v]
 iterate 17 kernel_rfl
 refine qy (cg (ok:=true) (o:=6) (ek:=iE) (ev:=iE) (l:=f) (k:=(n)) (x:=x2) df hm2 kq Ea ty3 rfl ty3 kq) ?_ ?_ ?_
 apply qR 5 [(0,.int .i64 (n)),(2,.ptr 7 0),(3,.ptr 2 0),(7,.bool true)] [bS lv,mS m,pB,u.bx,wB vs,.box zC,mA f,.box [.map 6]]
 apply qU 2 [(0,.int .i64 (n)),(2,.ptr 7 0),(3,.ptr 2 0),(21,.bool false)]
 refine d5 kq kq ?_
 apply qK
 apply qz [(0,.int .i64 (n)),(2,.ptr 7 0)]
 apply qV 2
 have hm5:ai (n) f=some x2:=by assumption
 refine qy (cg (ok:=false) (o:=6) (ek:=iE) (ev:=iE) (l:=f) (k:=(n)) (x:=x2) df hm5 kq Ea ty3 rfl ty3 kq) ?_ ?_ ?_
 apply qR 1 [(5,.int .i64 (x2))] [bS lv,mS m,pB,u.bx,wB vs,.box zC,mA f,.box [.map 6]]
 refine a8 kq ?_
 refine aM (l:=[.int .i64 (x2)]) iq kq (by rw [zZ (p:=(m,f)) aq aq];rfl) oX oX ?_ ?_
 refine Eq.trans (b:=[bS lv,mS m,pB,u.bx,wB vs,.box zC,mA f,.box [.map 6]]) kq ?_
 · rw [zZ (p:=(m,f)) aq aq]
 · simp [af.belO,Ty.v,Vr.v]
 iterate 15 kernel_rfl
 refine qt (x:=(!(vs.contains (n)))) (congrArg not (Bool.eq_false_iff.2 hb1)) ?_ ?_
 apply qU 2 [(5,.int .i64 (n))]
 refine a8 kq ?_
 apply aR
 refine aM (l:=[.int .i64 (n)]) iq kq (by rw [DW aq];rfl) oX oX ?_ ?_
 refine Eq.trans (b:=[bS lv,mS m,pB,u.bx,wB vs,.box zC,mA f,.box [.map 6]]) kq ?_
 · rw [DW aq]
 · simp [af.belO,Ty.v,Vr.v]
 iterate 7 kernel_rfl
theorem Ec {p:Prop} (h:p:=by simp [aa.frz,bf,aa.ren,b4,dZ,af.ren,bg,cd,aV,aa.owns,uF,uf,Ty.v]):p:=h
theorem HU {p:Prop} (h:p:=by simp only [iD (show k<t.kids.length by omega)];rw [DE (show k<t.kids.length by omega),DV (show k<t.kids.length by omega)]):p:=h
theorem vJ (t u:Ty) (lv:Int) (vs:List Int) (m:St) (f:At) (hs:t.sz<100000000) (hv:vs.length<100000000) (hml:m.length+t.sz<100000000) (hd:fv vs m):ar cx 77 [Ty.v t,.fn (.func 87) [] [.ptr 4 0,.ptr 7 0,.ptr 2 0]] [bS lv,mS m,pB,u.bx,wB vs,.box zC,mA f,.box [.map 6]] (fun v h=>v=(Ty.v (frT lv vs t (m,f)).1)∧h=[bS lv,mS ((frT lv vs t (m,f)).2.1),pB,u.bx,wB vs,.box zC,mA ((frT lv vs t (m,f)).2.2),.box [.map 6]]):=by
 induction hN:t.sz using Nat.strongRecOn generalizing t m f with|_ N ih =>
 have ihR:∀ (x:Ty) (m:St) (f:At),x.sz<t.sz→m.length+x.sz<100000000→fv vs m→ar cx 77 [x.v,.fn (.func 87) [] [.ptr 4 0,.ptr 7 0,.ptr 2 0]] [bS lv,mS m,pB,u.bx,wB vs,.box zC,mA f,.box [.map 6]] (fun v h=>v=(frT lv vs x (m,f)).1.v∧h=[bS lv,mS ((frT lv vs x (m,f)).2.1),pB,u.bx,wB vs,.box zC,mA ((frT lv vs x (m,f)).2.2),.box [.map 6]]):=fun x m f h1 h2 h3=>ih _ (by rw [← hN];exact h1) x m f (Nat.lt_trans h1 hs) h2 h3 rfl
 have hz1:=bP t
 have hz2:=cF t
 have hzz:=gT t
 have hfv:(frV lv vs t.n (m,f)).2.1.length≤m.length+1:=AU t.n (m,f)
 refine am (cx:=cx) 34 8 [(ResultVar.cell 4 25)] Tryz.func77 rfl rfl rfl rfl rfl zq ?_
 show wpA cx 34 8 (at_ c77 []) _ _ _
 apply qZ [(0,Ty.v t),(1,.fn (.func 87) [] [.ptr 4 0,.ptr 7 0,.ptr 2 0])] [bS lv,mS m,pB,u.bx,wB vs,.box zC,mA f,.box [.map 6]]
 apply qW 2 [(1,.fn (.func 87) [] [.ptr 4 0,.ptr 7 0,.ptr 2 0]),(2,.ptr 8 0),(4,.ptr 9 0)] [bS lv,mS m,pB,u.bx,wB vs,.box zC,mA f,.box [.map 6],t.bx,.box zC]
 apply qV 1
 refine nj (args:=[aG t]) (args':=[Ty.v t]) (V':=gK t (.own 10 0 t.kids.length)) (F:=[bS lv,mS m,pB,u.bx,wB vs,.box zC,mA f,.box [.map 6],t.bx,.box zC]) (G':=[.arr 5 (t.kids.map Ty.enc) 0]) kq kq kq kq (nh t hs) [bS lv,mS m,pB,u.bx,wB vs,.box zC,mA f,.box [.map 6],t.bx,.box zC] kq Ec Ec Ec Ec Ec ?_
 apply qR 1 [(1,.fn (.func 87) [] [.ptr 4 0,.ptr 7 0,.ptr 2 0]),(2,.ptr 8 0),(4,.ptr 9 0)] [bS lv,mS m,pB,u.bx,wB vs,.box zC,mA f,.box [.map 6],bK t (.own 10 0 t.kids.length),.box zC,.arr 5 (t.kids.map Ty.enc) 0]
 apply ao
 apply qV 1
 refine dD (args:=[gK t (.own 10 0 t.kids.length)]) (v:=.bool (isV (t.kind) (t.n))) (h':=[bS lv,mS m,pB,u.bx,wB vs,.box zC,mA f,.box [.map 6],bK t (.own 10 0 t.kids.length),.box zC,.arr 5 (t.kids.map Ty.enc) 0]) [bS lv,mS m,pB,u.bx,wB vs,.box zC,mA f,.box [.map 6],bK t (.own 10 0 t.kids.length),.box zC,.arr 5 (t.kids.map Ty.enc) 0] kq kq kq kq kq (j7 (pM (t.kind) (t.n) t.name) rfl rfl rfl) ?_
 apply qN [(1,.fn (.func 87) [] [.ptr 4 0,.ptr 7 0,.ptr 2 0]),(2,.ptr 8 0),(4,.ptr 9 0),(9,.bool (isV (t.kind) (t.n)))] [bS lv,mS m,pB,u.bx,wB vs,.box zC,mA f,.box [.map 6],bK t (.own 10 0 t.kids.length),.box zC,.arr 5 (t.kids.map Ty.enc) 0]
 by_cases hb1:(isV (t.kind) (t.n))=true
 apply qt (hb1)
 apply qo
 apply qr 3
 refine aT (args:=[.int .i64 (t.n),.ptr 4 0,.ptr 7 0,.ptr 2 0]) (hs:=[bS lv,mS m,pB,u.bx,wB vs,.box zC,mA f,.box [.map 6]]) (hs':=[bS lv,mS ((frV (lv) vs (t.n) (m,f)).2.1),pB,u.bx,wB vs,.box zC,mA ((frV (lv) vs (t.n) (m,f)).2.2),.box [.map 6]]) (aO:=[bK t (.own 10 0 t.kids.length),.box zC,.arr 5 (t.kids.map Ty.enc) 0]) kq kq kq kq kq (vC (t.n) (lv) vs m u f oq oq oq) lh lh rfl lh lh kq ?_
 apply qR 2 [(1,.fn (.func 87) [] [.ptr 4 0,.ptr 7 0,.ptr 2 0]),(2,.ptr 8 0),(4,.ptr 9 0)] [bS lv,mS ((frV (lv) vs (t.n) (m,f)).2.1),pB,u.bx,wB vs,.box zC,mA ((frV (lv) vs (t.n) (m,f)).2.2),.box [.map 6],.box [.int .i64 (t.kind),.str t.name,.int .i64 ((frV (lv) vs (t.n) (m,f)).1),.imm (t.names.map aa.str),.own 10 0 t.kids.length],.box zC,.arr 5 (t.kids.map Ty.enc) 0]
 apply ao
 apply qV 2
 refine qy (d8 (o:=10) (off:=0) (len:=t.kids.length) (sz:=5) (es:=(t.kids.map Ty.enc)) (fr:=0) kq ba kq zq) ?_ ?_ ?_
 apply qR 1 [(1,.fn (.func 87) [] [.ptr 4 0,.ptr 7 0,.ptr 2 0]),(2,.ptr 8 0),(4,.ptr 9 0),(17,nI t.kids.length),(18,.int .i64 0)] [bS lv,mS ((frV (lv) vs (t.n) (m,f)).2.1),pB,u.bx,wB vs,.box zC,mA ((frV (lv) vs (t.n) (m,f)).2.2),.box [.map 6],.box [.int .i64 (t.kind),.str t.name,.int .i64 ((frV (lv) vs (t.n) (m,f)).1),.imm (t.names.map aa.str),.own 10 0 t.kids.length],.box zC,.arr 5 (t.kids.map Ty.enc) 0]
 apply qB 0
 refine bB (σ:=Nat) (fun k=>[(1,.fn (.func 87) [] [.ptr 4 0,.ptr 7 0,.ptr 2 0]),(2,.ptr 8 0),(4,.ptr 9 0),(17,.int .i64 ((t.kids.length:Nat):Int)),(18,.int .i64 ((k:Nat):Int))]) (fun k=>[bS lv,mS ((frK lv vs (t.kids.take k) (frV lv vs t.n (m,f)).2).2.1),pB,u.bx,wB vs,.box zC,mA ((frK lv vs (t.kids.take k) (frV lv vs t.n (m,f)).2).2.2),.box [.map 6],.box [.int .i64 (t.kind),.str t.name,.int .i64 ((frV (lv) vs (t.n) (m,f)).1),.imm (t.names.map aa.str),.own 10 0 t.kids.length],.box zC,.arr 5 ((bv lv vs t.kids k (frV lv vs t.n (m,f)).2).map Ty.enc) 0]) (fun k=>k≤t.kids.length) (fun k=>t.kids.length - k) 0 kq (by exact Nat.zero_le _) ⟨⟨kq,kq,kq,kq,kq,trivial⟩,by simp [aQ,aa.bel],by simp,(Eq.trans (b:=[bS lv,mS ((frV (lv) vs (t.n) (m,f)).2.1),pB,u.bx,wB vs,.box zC,mA ((frV (lv) vs (t.n) (m,f)).2.2),.box [.map 6],.box [.int .i64 (t.kind),.str t.name,.int .i64 ((frV (lv) vs (t.n) (m,f)).1),.imm (t.names.map aa.str),.own 10 0 t.kids.length],.box zC,.arr 5 (t.kids.map Ty.enc) 0]) kq (by rfl)),by simp [af.belO,Ty.v,Vr.v]⟩ ?_
 rintro k hk
 have hkl:(frK lv vs (t.kids.take k) (frV lv vs t.n (m,f)).2).2.1.length≤(frV lv vs t.n (m,f)).2.1.length+Ty.szL (t.kids.take k):=pw _ _
 have hkd:=fun h=>nE t.kids k h
 have hdk:fv vs (frK lv vs (t.kids.take k) (frV lv vs t.n (m,f)).2).2.1:=fv.k _ _ (fv.v (p:=(m,f)) hd)
 have hrl:=xe (lv:=lv) (vs:=vs) (ks:=t.kids) (k:=k) (p:=(frV lv vs t.n (m,f)).2)
 apply qW 1 [(1,.fn (.func 87) [] [.ptr 4 0,.ptr 7 0,.ptr 2 0]),(2,.ptr 8 0),(4,.ptr 9 0),(17,nI t.kids.length),(18,nI k),(19,.bool (decide (((k:Nat):Int)<((t.kids.length:Nat):Int))))] [bS lv,mS ((frK lv vs (t.kids.take k) (frV lv vs t.n (m,f)).2).2.1),pB,u.bx,wB vs,.box zC,mA ((frK lv vs (t.kids.take k) (frV lv vs t.n (m,f)).2).2.2),.box [.map 6],.box [.int .i64 (t.kind),.str t.name,.int .i64 ((frV (lv) vs (t.n) (m,f)).1),.imm (t.names.map aa.str),.own 10 0 t.kids.length],.box zC,.arr 5 ((bv lv vs t.kids k (frV lv vs t.n (m,f)).2).map Ty.enc) 0]
 apply ao
 by_cases hb2:((k:Nat):Int)<((t.kids.length:Nat):Int)
 apply qt (decide_eq_true hb2)
 apply qK
 apply qz [(1,.fn (.func 87) [] [.ptr 4 0,.ptr 7 0,.ptr 2 0]),(2,.ptr 8 0),(4,.ptr 9 0),(17,nI t.kids.length),(18,nI k)]
 apply ao
 apply qB 1
 apply qU 2 [(1,.fn (.func 87) [] [.ptr 4 0,.ptr 7 0,.ptr 2 0]),(2,.ptr 8 0),(4,.ptr 9 0),(5,nI k),(17,nI t.kids.length),(18,nI k)]
 refine cR cxM kq (kl aJ) (bq ?_)
 apply qu 6
 refine qd (dO (k:=.i64) (i:=((k:Nat):Int)) (o:=10) (off:=0) (len:=t.kids.length) (sz:=5) (fr:=0) (es:=((bv lv vs t.kids k (frV lv vs t.n (m,f)).2).map Ty.enc)) kq ba bV kq rfl zq oq oq) ?_ ?_ ?_ ?_
 refine qd (fH (t:=25) (o:=10) (idx:=(0+k)) (off:=0) (k:=(((bv lv vs t.kids k (frV lv vs t.n (m,f)).2).map Ty.enc).length)) (sz:=5) (fr:=0) (es:=((bv lv vs t.kids k (frV lv vs t.n (m,f)).2).map Ty.enc)) (x:=Ty.enc ((bv lv vs t.kids k (frV lv vs t.n (m,f)).2).getD (0+k) Ty.zero)) (v:=aG ((bv lv vs t.kids k (frV lv vs t.n (m,f)).2).getD (0+k) Ty.zero)) kq kq zq (fS _ _ _ _ oq) (by rw [aU];exact kq)) ?_ ?_ ?_ ?_
 apply qu 1
 refine cC (args:=[aG ((bv lv vs t.kids k (frV lv vs t.n (m,f)).2).getD (0+k) Ty.zero),.fn (.func 87) [] [.ptr 4 0,.ptr 7 0,.ptr 2 0]]) (hs:=[bS lv,mS ((frK lv vs (t.kids.take k) (frV lv vs t.n (m,f)).2).2.1),pB,u.bx,wB vs,.box zC,mA ((frK lv vs (t.kids.take k) (frV lv vs t.n (m,f)).2).2.2),.box [.map 6]]) (hs':=[bS lv,mS ((frT (lv) vs ((bv lv vs t.kids k (frV lv vs t.n (m,f)).2).getD (0+k) Ty.zero) (((frK lv vs (t.kids.take k) (frV lv vs t.n (m,f)).2).2.1),((frK lv vs (t.kids.take k) (frV lv vs t.n (m,f)).2).2.2))).2.1),pB,u.bx,wB vs,.box zC,mA ((frT (lv) vs ((bv lv vs t.kids k (frV lv vs t.n (m,f)).2).getD (0+k) Ty.zero) (((frK lv vs (t.kids.take k) (frV lv vs t.n (m,f)).2).2.1),((frK lv vs (t.kids.take k) (frV lv vs t.n (m,f)).2).2.2))).2.2),.box [.map 6]]) (aO:=[.box [.int .i64 (t.kind),.str t.name,.int .i64 ((frV (lv) vs (t.n) (m,f)).1),.imm (t.names.map aa.str),.own 10 0 t.kids.length],.box zC,.arr 5 ((bv lv vs t.kids k (frV lv vs t.n (m,f)).2).map Ty.enc) 0]) (L:=[0,1,2,3,4,5,6,7]) kq kq kq kq kq kq (ihR ((bv lv vs t.kids k (frV lv vs t.n (m,f)).2).getD (0+k) Ty.zero) ((frK lv vs (t.kids.take k) (frV lv vs t.n (m,f)).2).2.1) ((frK lv vs (t.kids.take k) (frV lv vs t.n (m,f)).2).2.2) (by rw [iD oq];exact cu t _ oq) (by rw [iD oq];have:=hkd oq;omega) oq) lh lh rfl lh lh kq rfl rfl ?_
 refine qd (dO (k:=.i64) (i:=((k:Nat):Int)) (o:=10) (off:=0) (len:=t.kids.length) (sz:=5) (fr:=0) (es:=((bv lv vs t.kids k (frV lv vs t.n (m,f)).2).map Ty.enc)) kq ba bV kq rfl zq oq oq) ?_ ?_ ?_ ?_
 refine qD (pe (o:=10) (k:=(((bv lv vs t.kids k (frV lv vs t.n (m,f)).2).map Ty.enc).length)) (x:=Ty.v (frT (lv) vs ((bv lv vs t.kids k (frV lv vs t.n (m,f)).2).getD (0+k) Ty.zero) (((frK lv vs (t.kids.take k) (frV lv vs t.n (m,f)).2).2.1),((frK lv vs (t.kids.take k) (frV lv vs t.n (m,f)).2).2.2))).1) (enc:=Ty.enc) (l:=(bv lv vs t.kids k (frV lv vs t.n (m,f)).2)) (X:=((frT (lv) vs ((bv lv vs t.kids k (frV lv vs t.n (m,f)).2).getD (0+k) Ty.zero) (((frK lv vs (t.kids.take k) (frV lv vs t.n (m,f)).2).2.1),((frK lv vs (t.kids.take k) (frV lv vs t.n (m,f)).2).2.2))).1)) (d:=Ty.zero) (idx:=(0+k)) (sz:=5) kq (Ty.enc_v ((frT (lv) vs ((bv lv vs t.kids k (frV lv vs t.n (m,f)).2).getD (0+k) Ty.zero) (((frK lv vs (t.kids.take k) (frV lv vs t.n (m,f)).2).2.1),((frK lv vs (t.kids.take k) (frV lv vs t.n (m,f)).2).2.2))).1)).symm kq zq oq bV t8 py) ?_ ?_ ?_ ?_
 refine cq kq ⟨kq,?_⟩
 apply aj
 apply ab
 apply qZ [(1,.fn (.func 87) [] [.ptr 4 0,.ptr 7 0,.ptr 2 0]),(2,.ptr 8 0),(4,.ptr 9 0),(17,nI t.kids.length),(18,nI k)] [bS lv,mS ((frT (lv) vs ((bv lv vs t.kids k (frV lv vs t.n (m,f)).2).getD (0+k) Ty.zero) (((frK lv vs (t.kids.take k) (frV lv vs t.n (m,f)).2).2.1),((frK lv vs (t.kids.take k) (frV lv vs t.n (m,f)).2).2.2))).2.1),pB,u.bx,wB vs,.box zC,mA ((frT (lv) vs ((bv lv vs t.kids k (frV lv vs t.n (m,f)).2).getD (0+k) Ty.zero) (((frK lv vs (t.kids.take k) (frV lv vs t.n (m,f)).2).2.1),((frK lv vs (t.kids.take k) (frV lv vs t.n (m,f)).2).2.2))).2.2),.box [.map 6],.box [.int .i64 (t.kind),.str t.name,.int .i64 ((frV (lv) vs (t.n) (m,f)).1),.imm (t.names.map aa.str),.own 10 0 t.kids.length],.box zC,.arr 5 (((bv lv vs t.kids k (frV lv vs t.n (m,f)).2).set (0+k) ((frT (lv) vs ((bv lv vs t.kids k (frV lv vs t.n (m,f)).2).getD (0+k) Ty.zero) (((frK lv vs (t.kids.take k) (frV lv vs t.n (m,f)).2).2.1),((frK lv vs (t.kids.take k) (frV lv vs t.n (m,f)).2).2.2))).1)).map Ty.enc) 0]
 apply qo
 refine qy (aN (a:=((k:Nat):Int)) (b:=1) kq oq oq) ?_ ?_ ?_
 apply qr 1
 apply qe
 refine ab ⟨k+1,?_,?_,⟨⟨kq,kq,kq,kq,kq,trivial⟩,by simp [aQ,aa.bel],by simp,(Eq.trans (b:=[bS lv,mS ((frT (lv) vs ((bv lv vs t.kids k (frV lv vs t.n (m,f)).2).getD (0+k) Ty.zero) (((frK lv vs (t.kids.take k) (frV lv vs t.n (m,f)).2).2.1),((frK lv vs (t.kids.take k) (frV lv vs t.n (m,f)).2).2.2))).2.1),pB,u.bx,wB vs,.box zC,mA ((frT (lv) vs ((bv lv vs t.kids k (frV lv vs t.n (m,f)).2).getD (0+k) Ty.zero) (((frK lv vs (t.kids.take k) (frV lv vs t.n (m,f)).2).2.1),((frK lv vs (t.kids.take k) (frV lv vs t.n (m,f)).2).2.2))).2.2),.box [.map 6],.box [.int .i64 (t.kind),.str t.name,.int .i64 ((frV (lv) vs (t.n) (m,f)).1),.imm (t.names.map aa.str),.own 10 0 t.kids.length],.box zC,.arr 5 (((bv lv vs t.kids k (frV lv vs t.n (m,f)).2).set (0+k) ((frT (lv) vs ((bv lv vs t.kids k (frV lv vs t.n (m,f)).2).getD (0+k) Ty.zero) (((frK lv vs (t.kids.take k) (frV lv vs t.n (m,f)).2).2.1),((frK lv vs (t.kids.take k) (frV lv vs t.n (m,f)).2).2.2))).1)).map Ty.enc) 0]) kq HU),by simp [af.belO,Ty.v,Vr.v]⟩⟩
 · omega
 · omega
 iterate 27 kernel_rfl
 apply qf (decide_eq_false hb2)
 refine bn 0 kq kq ?_
 apply ae
 apply ae
 apply ay
 apply ab
 apply qz [(2,.ptr 8 0),(4,.ptr 9 0)]
 refine n8 8 4 10 (cs:=[.int .i64 (t.kind),.str t.name,.int .i64 ((frV (lv) vs (t.n) (m,f)).1),.imm (t.names.map aa.str),.own 10 0 t.kids.length]) (es:=((bv lv vs t.kids k (frV lv vs t.n (m,f)).2).map Ty.enc)) (off:=0) (len:=t.kids.length) (sz:=5) (fr:=0) [.int .i64 (t.kind),.str t.name,.int .i64 ((frV (lv) vs (t.n) (m,f)).1),.imm (t.names.map aa.str),.imm ((bv lv vs t.kids k (frV lv vs t.n (m,f)).2).map Ty.enc)] ((bv lv vs t.kids k (frV lv vs t.n (m,f)).2).map Ty.enc) dq kq kq kq zq kq kq ?_
 apply qZ [(2,.ptr 8 0),(4,.ptr 9 0)] [bS lv,mS ((frK lv vs (t.kids.take k) (frV lv vs t.n (m,f)).2).2.1),pB,u.bx,wB vs,.box zC,mA ((frK lv vs (t.kids.take k) (frV lv vs t.n (m,f)).2).2.2),.box [.map 6],.box [.int .i64 (t.kind),.str t.name,.int .i64 ((frV (lv) vs (t.n) (m,f)).1),.imm (t.names.map aa.str),.imm ((bv lv vs t.kids k (frV lv vs t.n (m,f)).2).map Ty.enc)],.box zC,.arr 5 ((bv lv vs t.kids k (frV lv vs t.n (m,f)).2).map Ty.enc) ((bv lv vs t.kids k (frV lv vs t.n (m,f)).2).map Ty.enc).length]
 apply qW 2 [(4,.ptr 9 0)] [bS lv,mS ((frK lv vs (t.kids.take k) (frV lv vs t.n (m,f)).2).2.1),pB,u.bx,wB vs,.box zC,mA ((frK lv vs (t.kids.take k) (frV lv vs t.n (m,f)).2).2.2),.box [.map 6],.box [.int .i64 (t.kind),.str t.name,.int .i64 ((frV (lv) vs (t.n) (m,f)).1),.imm (t.names.map aa.str),.imm ((bv lv vs t.kids k (frV lv vs t.n (m,f)).2).map Ty.enc)],.box [.int .i64 (t.kind),.str t.name,.int .i64 ((frV (lv) vs (t.n) (m,f)).1),.imm (t.names.map aa.str),.imm ((bv lv vs t.kids k (frV lv vs t.n (m,f)).2).map Ty.enc)],.arr 5 ((bv lv vs t.kids k (frV lv vs t.n (m,f)).2).map Ty.enc) ((bv lv vs t.kids k (frV lv vs t.n (m,f)).2).map Ty.enc).length]
 refine a8 kq ?_
 refine aM (l:=[.agg [.int .i64 (t.kind),.str t.name,.int .i64 ((frV (lv) vs (t.n) (m,f)).1),.imm (t.names.map aa.str),.imm ((bv lv vs t.kids k (frV lv vs t.n (m,f)).2).map Ty.enc)]]) iq kq (by rw [Ap,Gy aq,wb oq];simp [Ty.v,aa.frz,bf,aK]) oX oX ?_ ?_
 refine Eq.trans (b:=[bS lv,mS ((frK lv vs (t.kids.take k) (frV lv vs t.n (m,f)).2).2.1),pB,u.bx,wB vs,.box zC,mA ((frK lv vs (t.kids.take k) (frV lv vs t.n (m,f)).2).2.2),.box [.map 6]]) kq ?_
 · rw [Ap,Gy aq,List.take_of_length_le (show t.kids.length≤k by omega)]
 · simp [af.belO,Ty.v,Vr.v]
 iterate 17 kernel_rfl
 apply qf (Bool.eq_false_iff.2 hb1)
 apply qK
 apply qz [(1,.fn (.func 87) [] [.ptr 4 0,.ptr 7 0,.ptr 2 0]),(2,.ptr 8 0),(4,.ptr 9 0)]
 apply ao
 apply qV 2
 refine qy (d8 (o:=10) (off:=0) (len:=t.kids.length) (sz:=5) (es:=(t.kids.map Ty.enc)) (fr:=0) kq ba kq zq) ?_ ?_ ?_
 apply qR 1 [(1,.fn (.func 87) [] [.ptr 4 0,.ptr 7 0,.ptr 2 0]),(2,.ptr 8 0),(4,.ptr 9 0),(17,nI t.kids.length),(18,.int .i64 0)] [bS lv,mS m,pB,u.bx,wB vs,.box zC,mA f,.box [.map 6],bK t (.own 10 0 t.kids.length),.box zC,.arr 5 (t.kids.map Ty.enc) 0]
 apply qB 0
 refine bB (σ:=Nat) (fun k=>[(1,.fn (.func 87) [] [.ptr 4 0,.ptr 7 0,.ptr 2 0]),(2,.ptr 8 0),(4,.ptr 9 0),(17,.int .i64 ((t.kids.length:Nat):Int)),(18,.int .i64 ((k:Nat):Int))]) (fun k=>[bS lv,mS ((frK lv vs (t.kids.take k) (m,f)).2.1),pB,u.bx,wB vs,.box zC,mA ((frK lv vs (t.kids.take k) (m,f)).2.2),.box [.map 6],bK t (.own 10 0 t.kids.length),.box zC,.arr 5 ((bv lv vs t.kids k (m,f)).map Ty.enc) 0]) (fun k=>k≤t.kids.length) (fun k=>t.kids.length - k) 0 kq (by exact Nat.zero_le _) ⟨⟨kq,kq,kq,kq,kq,trivial⟩,by simp [aQ,aa.bel],by simp,(Eq.trans (b:=[bS lv,mS m,pB,u.bx,wB vs,.box zC,mA f,.box [.map 6],bK t (.own 10 0 t.kids.length),.box zC,.arr 5 (t.kids.map Ty.enc) 0]) kq (by rfl)),by simp [af.belO,Ty.v,Vr.v]⟩ ?_
 rintro k hk
 have hkl:(frK lv vs (t.kids.take k) (m,f)).2.1.length≤m.length+Ty.szL (t.kids.take k):=pw _ _
 have hkd:=fun h=>nE t.kids k h
 have hdk:fv vs (frK lv vs (t.kids.take k) (m,f)).2.1:=fv.k _ _ hd
 have hrl:=xe (lv:=lv) (vs:=vs) (ks:=t.kids) (k:=k) (p:=(m,f))
 apply qW 1 [(1,.fn (.func 87) [] [.ptr 4 0,.ptr 7 0,.ptr 2 0]),(2,.ptr 8 0),(4,.ptr 9 0),(17,nI t.kids.length),(18,nI k),(19,.bool (decide (((k:Nat):Int)<((t.kids.length:Nat):Int))))] [bS lv,mS ((frK lv vs (t.kids.take k) (m,f)).2.1),pB,u.bx,wB vs,.box zC,mA ((frK lv vs (t.kids.take k) (m,f)).2.2),.box [.map 6],bK t (.own 10 0 t.kids.length),.box zC,.arr 5 ((bv lv vs t.kids k (m,f)).map Ty.enc) 0]
 apply ao
 by_cases hb3:((k:Nat):Int)<((t.kids.length:Nat):Int)
 apply qt (decide_eq_true hb3)
 apply qK
 apply qz [(1,.fn (.func 87) [] [.ptr 4 0,.ptr 7 0,.ptr 2 0]),(2,.ptr 8 0),(4,.ptr 9 0),(17,nI t.kids.length),(18,nI k)]
 apply ao
 apply qB 1
 apply qU 2 [(1,.fn (.func 87) [] [.ptr 4 0,.ptr 7 0,.ptr 2 0]),(2,.ptr 8 0),(4,.ptr 9 0),(5,nI k),(17,nI t.kids.length),(18,nI k)]
 refine cR cxM kq (kl aJ) (bq ?_)
 apply qu 6
 refine qd (dO (k:=.i64) (i:=((k:Nat):Int)) (o:=10) (off:=0) (len:=t.kids.length) (sz:=5) (fr:=0) (es:=((bv lv vs t.kids k (m,f)).map Ty.enc)) kq ba bV kq rfl zq oq oq) ?_ ?_ ?_ ?_
 refine qd (fH (t:=25) (o:=10) (idx:=(0+k)) (off:=0) (k:=(((bv lv vs t.kids k (m,f)).map Ty.enc).length)) (sz:=5) (fr:=0) (es:=((bv lv vs t.kids k (m,f)).map Ty.enc)) (x:=Ty.enc ((bv lv vs t.kids k (m,f)).getD (0+k) Ty.zero)) (v:=aG ((bv lv vs t.kids k (m,f)).getD (0+k) Ty.zero)) kq kq zq (fS _ _ _ _ oq) (by rw [aU];exact kq)) ?_ ?_ ?_ ?_
 apply qu 1
 refine cC (args:=[aG ((bv lv vs t.kids k (m,f)).getD (0+k) Ty.zero),.fn (.func 87) [] [.ptr 4 0,.ptr 7 0,.ptr 2 0]]) (hs:=[bS lv,mS ((frK lv vs (t.kids.take k) (m,f)).2.1),pB,u.bx,wB vs,.box zC,mA ((frK lv vs (t.kids.take k) (m,f)).2.2),.box [.map 6]]) (hs':=[bS lv,mS ((frT (lv) vs ((bv lv vs t.kids k (m,f)).getD (0+k) Ty.zero) (((frK lv vs (t.kids.take k) (m,f)).2.1),((frK lv vs (t.kids.take k) (m,f)).2.2))).2.1),pB,u.bx,wB vs,.box zC,mA ((frT (lv) vs ((bv lv vs t.kids k (m,f)).getD (0+k) Ty.zero) (((frK lv vs (t.kids.take k) (m,f)).2.1),((frK lv vs (t.kids.take k) (m,f)).2.2))).2.2),.box [.map 6]]) (aO:=[bK t (.own 10 0 t.kids.length),.box zC,.arr 5 ((bv lv vs t.kids k (m,f)).map Ty.enc) 0]) (L:=[0,1,2,3,4,5,6,7]) kq kq kq kq kq kq (ihR ((bv lv vs t.kids k (m,f)).getD (0+k) Ty.zero) ((frK lv vs (t.kids.take k) (m,f)).2.1) ((frK lv vs (t.kids.take k) (m,f)).2.2) (by rw [iD oq];exact cu t _ oq) (by rw [iD oq];have:=hkd oq;omega) oq) lh lh rfl lh lh kq rfl rfl ?_
 refine qd (dO (k:=.i64) (i:=((k:Nat):Int)) (o:=10) (off:=0) (len:=t.kids.length) (sz:=5) (fr:=0) (es:=((bv lv vs t.kids k (m,f)).map Ty.enc)) kq ba bV kq rfl zq oq oq) ?_ ?_ ?_ ?_
 refine qD (pe (o:=10) (k:=(((bv lv vs t.kids k (m,f)).map Ty.enc).length)) (x:=Ty.v (frT (lv) vs ((bv lv vs t.kids k (m,f)).getD (0+k) Ty.zero) (((frK lv vs (t.kids.take k) (m,f)).2.1),((frK lv vs (t.kids.take k) (m,f)).2.2))).1) (enc:=Ty.enc) (l:=(bv lv vs t.kids k (m,f))) (X:=((frT (lv) vs ((bv lv vs t.kids k (m,f)).getD (0+k) Ty.zero) (((frK lv vs (t.kids.take k) (m,f)).2.1),((frK lv vs (t.kids.take k) (m,f)).2.2))).1)) (d:=Ty.zero) (idx:=(0+k)) (sz:=5) kq (Ty.enc_v ((frT (lv) vs ((bv lv vs t.kids k (m,f)).getD (0+k) Ty.zero) (((frK lv vs (t.kids.take k) (m,f)).2.1),((frK lv vs (t.kids.take k) (m,f)).2.2))).1)).symm kq zq oq bV t8 py) ?_ ?_ ?_ ?_
 refine cq kq ⟨kq,?_⟩
 apply aj
 apply ab
 apply qZ [(1,.fn (.func 87) [] [.ptr 4 0,.ptr 7 0,.ptr 2 0]),(2,.ptr 8 0),(4,.ptr 9 0),(17,nI t.kids.length),(18,nI k)] [bS lv,mS ((frT (lv) vs ((bv lv vs t.kids k (m,f)).getD (0+k) Ty.zero) (((frK lv vs (t.kids.take k) (m,f)).2.1),((frK lv vs (t.kids.take k) (m,f)).2.2))).2.1),pB,u.bx,wB vs,.box zC,mA ((frT (lv) vs ((bv lv vs t.kids k (m,f)).getD (0+k) Ty.zero) (((frK lv vs (t.kids.take k) (m,f)).2.1),((frK lv vs (t.kids.take k) (m,f)).2.2))).2.2),.box [.map 6],bK t (.own 10 0 t.kids.length),.box zC,.arr 5 (((bv lv vs t.kids k (m,f)).set (0+k) ((frT (lv) vs ((bv lv vs t.kids k (m,f)).getD (0+k) Ty.zero) (((frK lv vs (t.kids.take k) (m,f)).2.1),((frK lv vs (t.kids.take k) (m,f)).2.2))).1)).map Ty.enc) 0]
 apply qo
 refine qy (aN (a:=((k:Nat):Int)) (b:=1) kq oq oq) ?_ ?_ ?_
 apply qr 1
 apply qe
 refine ab ⟨k+1,?_,?_,⟨⟨kq,kq,kq,kq,kq,trivial⟩,by simp [aQ,aa.bel],by simp,(Eq.trans (b:=[bS lv,mS ((frT (lv) vs ((bv lv vs t.kids k (m,f)).getD (0+k) Ty.zero) (((frK lv vs (t.kids.take k) (m,f)).2.1),((frK lv vs (t.kids.take k) (m,f)).2.2))).2.1),pB,u.bx,wB vs,.box zC,mA ((frT (lv) vs ((bv lv vs t.kids k (m,f)).getD (0+k) Ty.zero) (((frK lv vs (t.kids.take k) (m,f)).2.1),((frK lv vs (t.kids.take k) (m,f)).2.2))).2.2),.box [.map 6],bK t (.own 10 0 t.kids.length),.box zC,.arr 5 (((bv lv vs t.kids k (m,f)).set (0+k) ((frT (lv) vs ((bv lv vs t.kids k (m,f)).getD (0+k) Ty.zero) (((frK lv vs (t.kids.take k) (m,f)).2.1),((frK lv vs (t.kids.take k) (m,f)).2.2))).1)).map Ty.enc) 0]) kq HU),by simp [af.belO,Ty.v,Vr.v]⟩⟩
 · omega
 · omega
 iterate 27 kernel_rfl
 apply qf (decide_eq_false hb3)
 refine bn 0 kq kq ?_
 apply ae
 apply ae
 apply ay
 apply ab
 apply qz [(2,.ptr 8 0),(4,.ptr 9 0)]
 refine n8 8 4 10 (cs:=[.int .i64 (t.kind),.str t.name,.int .i64 (t.n),.imm (t.names.map aa.str),.own 10 0 t.kids.length]) (es:=((bv lv vs t.kids k (m,f)).map Ty.enc)) (off:=0) (len:=t.kids.length) (sz:=5) (fr:=0) [.int .i64 (t.kind),.str t.name,.int .i64 (t.n),.imm (t.names.map aa.str),.imm ((bv lv vs t.kids k (m,f)).map Ty.enc)] ((bv lv vs t.kids k (m,f)).map Ty.enc) dq kq kq kq zq kq kq ?_
 apply qZ [(2,.ptr 8 0),(4,.ptr 9 0)] [bS lv,mS ((frK lv vs (t.kids.take k) (m,f)).2.1),pB,u.bx,wB vs,.box zC,mA ((frK lv vs (t.kids.take k) (m,f)).2.2),.box [.map 6],bK t (.imm ((bv lv vs t.kids k (m,f)).map Ty.enc)),.box zC,.arr 5 ((bv lv vs t.kids k (m,f)).map Ty.enc) ((bv lv vs t.kids k (m,f)).map Ty.enc).length]
 apply qW 2 [(4,.ptr 9 0)] [bS lv,mS ((frK lv vs (t.kids.take k) (m,f)).2.1),pB,u.bx,wB vs,.box zC,mA ((frK lv vs (t.kids.take k) (m,f)).2.2),.box [.map 6],bK t (.imm ((bv lv vs t.kids k (m,f)).map Ty.enc)),bK t (.imm ((bv lv vs t.kids k (m,f)).map Ty.enc)),.arr 5 ((bv lv vs t.kids k (m,f)).map Ty.enc) ((bv lv vs t.kids k (m,f)).map Ty.enc).length]
 refine a8 kq ?_
 refine aM (l:=[gK t (.imm ((bv lv vs t.kids k (m,f)).map Ty.enc))]) iq kq (by rw [Ap,GG aq,wb oq];simp [Ty.v,aa.frz,bf,aK]) oX oX ?_ ?_
 refine Eq.trans (b:=[bS lv,mS ((frK lv vs (t.kids.take k) (m,f)).2.1),pB,u.bx,wB vs,.box zC,mA ((frK lv vs (t.kids.take k) (m,f)).2.2),.box [.map 6]]) kq ?_
 · rw [Ap,GG aq,List.take_of_length_le (show t.kids.length≤k by omega)]
 · simp [af.belO,Ty.v,Vr.v]
 iterate 23 kernel_rfl
theorem xy {p:Prop} (h:p:=by simp [af.belO,hpS,Ty.v]):p:=h
theorem rG (g:Nat) (t r:Ty) (lv:Int) (vs:List Int) (m:St) (hs:t.sz<100000000) (hz:r.sz<100000000) (hv:vs.length<100000000) (hml:m.length+r.sz<100000000) (hm:dn m) (hh:cT m t=true) (hr:dH g m t=some r) (hd:fv vs m):ar cx 38 [.ptr 0 0,Ty.v t,.imm (vs.map iE)] (hpS lv m) (fun v h=>v=(Ty.v (frT lv vs r (m,[])).1)∧h=hpS lv (frT lv vs r (m,[])).2.1):=by
 refine am (cx:=cx) 20 2 [(ResultVar.cell 6 25)] Tryz.func38 rfl rfl rfl rfl rfl zq ?_
 show wpA cx 20 2 (at_ c38 []) _ _ _
 apply qZ [(0,.ptr 0 0),(1,Ty.v t),(2,.imm (vs.map iE))] [bS lv,mS m]
 apply qW 4 [(3,.ptr 2 0),(4,.ptr 3 0),(5,.ptr 4 0),(6,.ptr 5 0)] [bS lv,mS m,pB,t.bx,wB vs,.box zC]
 apply ao
 apply qV 2
 refine aT (args:=[.ptr 0 0,aG t]) (hs:=[bS lv,mS m]) (hs':=[bS lv,mS m]) (aO:=[pB,t.bx,wB vs,.box zC]) kq kq kq kq kq (qq t (lv) m oq oq) xy xy rfl xy xy kq ?_
 apply qR 1 [(3,.ptr 2 0),(4,.ptr 3 0),(5,.ptr 4 0),(6,.ptr 5 0),(11,.bool (!(cT m t)))] [bS lv,mS m,pB,t.bx,wB vs,.box zC]
 by_cases hb1:(cT m t)=true
 refine qf (x:=(!(cT m t))) (congrArg not (hb1)) ?_ ?_
 apply qK
 apply qz [(3,.ptr 2 0),(4,.ptr 3 0),(5,.ptr 4 0),(6,.ptr 5 0)]
 apply qW 3 [(3,.ptr 2 0),(4,.ptr 3 0),(5,.ptr 4 0),(6,.ptr 5 0),(7,.ptr 7 0)] [bS lv,mS m,pB,t.bx,wB vs,.box zC,mA ([]:List (Int×Int)),.box [.map 6]]
 apply qV 2
 refine aT (args:=[.ptr 0 0,aG t]) (hs:=[bS lv,mS m]) (hs':=[bS lv,mS m]) (aO:=[pB,t.bx,wB vs,.box zC,mA ([]:List (Int×Int)),.box [.map 6]]) kq kq kq kq kq (iA g t r ((lv)) m hs hr) xy xy rfl xy xy kq ?_
 apply qr 1
 refine dD (args:=[Ty.v r,.fn (.func 87) [] [.ptr 4 0,.ptr 7 0,.ptr 2 0]]) (v:=Ty.v (frT lv vs r (m,([]:At))).1) (h':=[bS lv,mS ((frT lv vs r (m,([]:At))).2.1),pB,t.bx,wB vs,.box zC,mA ((frT lv vs r (m,([]:At))).2.2),.box [.map 6]]) [bS lv,mS m,pB,t.bx,wB vs,.box zC,mA ([]:List (Int×Int)),.box [.map 6]] kq kq kq kq kq (vJ r t lv vs m [] hz hv oq hd) ?_
 apply qR 1 [(6,.ptr 5 0)] [bS lv,mS ((frT lv vs r (m,([]:At))).2.1),pB,t.bx,wB vs,(frT lv vs r (m,([]:At))).1.bx,mA ((frT lv vs r (m,([]:At))).2.2),.box [.map 6]]
 refine a8 kq ?_
 refine aM (l:=[aG ((frT lv vs r (m,([]:At))).1)]) iq kq (by simp [aK,Ty.v,aa.frz,bf]) oX oX ?_ ?_
 refine Eq.trans (b:=[bS lv,mS ((frT lv vs r (m,([]:At))).2.1)]) kq ?_
 · rfl
 · simp [af.belO,hpS,Ty.v]
 iterate 7 kernel_rfl
 · exfalso;exact absurd hh aq
 iterate 5 kernel_rfl
theorem z7 {p:Ty} (hp:p.sz<100000000):okT [p]:=⟨by simp,fun i=>by
 match i with
 | 0=>exact hp
 | i+1=>simp [Ty.zero,Ty.sz,szS,Ty.szL]⟩
theorem vY {p r:Ty} (hp:p.sz<100000000) (hr:r.sz<100000000) (h:wi [p]=wi [r]):aC cx 25 [.imm [p.v],.imm [r.v]] (.bool true):=by
 have:=BB [p] [r] (z7 hp) (z7 hr) (by rw [← sK,← sK];exact h)
 simpa [Ty.enc_v] using this
noncomputable def c11:Code:=aB Tryz.f11
theorem bW {p:Prop} (h:p:=by simp [af.belO,hpV,Ty.v]):p:=h
theorem Ga {p:Prop} (h:p:=by simp [-List.map_append,-List.map_take,-List.map_drop,-List.append_assoc,aa.refs,dE,af.refs,af.isIter,oO,Abs.renT,eY,m8,af.ren,aa.ren,b4,List.idxOf_cons,Fc,Gq,Ty.enc_v,Ty.v]):p:=h
theorem CI {p:Prop} (h:p:=by simp [aa.frz,bf,aa.ren,b4,dZ,af.ren,bg,cd,aV,aa.owns,av,j9]):p:=h
theorem yy {p:Prop} (h:p:=by simp [Ty.v,aV,aa.owns]):p:=h
theorem Ey {p:Prop} (h:p:=by intro _;simp [aa.frz,bf,Ty.v]):p:=h
theorem yU {p:Prop} (h:p:=by simp [Ty.v]):p:=h
theorem wD (l m:List Int) (t o a x:Ty) (S1 S2 S3 S4 S5:St) (hV:ar cx 33 [.ptr 0 0] (hpS 0 []) (fun v h=>v=o.v∧h=hpS 0 S1)) (hE:ar cx 39 [.ptr 0 0] (hpS 0 S1) (fun v h=>v=.tup []∧h=hpS 1 S1)) (hT:aC cx 13 [.imm (l.map (.int .i64)),.int .i64 0,.int .i64 3] t.v) (hB:ar cx 22 [.ptr 0 0,t.v,.imm (m.map (.int .i64)),.int .i64 0] (hpS 1 S1) (fun v h=>v=a.v∧h=hpS 1 S2)) (hL:ar cx 41 [.ptr 0 0] (hpS 1 S2) (fun v h=>v=.tup []∧h=hpS 0 S2)) (r2:ar cx 24 [.ptr 0 0,a.v] (hpS 0 S2) (fun v h=>v=a.v∧h=hpS 0 S2)) (f2:ar cx 37 [.ptr 0 0,a.v] (hpS 0 S2) (fun v h=>v=.imm ((aw [] a).map (.int .i64))∧h=hpS 0 S2)) (hX:ar cx 38 [.ptr 0 0,a.v,.imm ((aw [] a).map (.int .i64))] (hpS 0 S2) (fun v h=>v=x.v∧h=hpS 0 S3)) (f3:ar cx 37 [.ptr 0 0,x.v] (hpS 0 S3) (fun v h=>v=.imm []∧h=hpS 0 S3)) (c1:aC cx 25 [.imm [x.v],.imm [a.v]] (.bool true)) (u3:ar cx 23 [.ptr 0 0,x.v,t.v] (hpS 0 S3) (fun v h=>v=.int .i64 0∧h=hpS 0 S4)) (r4:ar cx 24 [.ptr 0 0,a.v] (hpS 0 S4) (fun v h=>v=a.v∧h=hpS 0 S4)) (u4:ar cx 23 [.ptr 0 0,o.v,a.v] (hpS 0 S4) (fun v h=>v=.int .i64 0∧h=hpS 0 S5)) (f5:ar cx 37 [.ptr 0 0,a.v] (hpS 0 S5) (fun v h=>v=.imm []∧h=hpS 0 S5)) (r5:ar cx 24 [.ptr 0 0,o.v] (hpS 0 S5) (fun v h=>v=a.v∧h=hpS 0 S5)) (q5:ar cx 24 [.ptr 0 0,a.v] (hpS 0 S5) (fun v h=>v=a.v∧h=hpS 0 S5)) (hY:ar cx 38 [.ptr 0 0,a.v,.imm (([]:List Int).map (.int .i64))] (hpS 0 S5) (fun v h=>v=a.v∧h=hpS 0 S5)) (c2:aC cx 25 [.imm [a.v],.imm [a.v]] (.bool true)) (za:a.sz<100000000) (zv:(aw [] a).length<100000000):aC cx 11 [.imm (l.map iE),.imm (m.map iE)] (.bool true):=by
 refine am (cx:=cx) 105 0 [(ResultVar.tmp 4)] Tryz.func11 rfl rfl rfl rfl rfl zq ?_
 show wpA cx 105 0 (at_ c11 []) _ _ _
 apply qZ [(0,.imm (l.map iE)),(1,.imm (m.map iE))] []
 apply qU 1 [(0,.imm (l.map iE)),(1,.imm (m.map iE))]
 apply qO
 refine nj (args:=[]) (args':=[]) (V':=.ptr 1 0) (F:=[]) (G':=[mS ([]:List (Int×Vr)),.box [.int .i64 0,.map 0]]) kq kq kq kq (FO) [] kq CI CI CI CI CI ?_
 apply qR 1 [(0,.imm (l.map iE)),(1,.imm (m.map iE)),(5,.ptr 1 0)] [mS ([]:List (Int×Vr)),.box [.int .i64 0,.map 0]]
 apply ao
 apply qU 2 [(0,.imm (l.map iE)),(1,.imm (m.map iE)),(5,.ptr 1 0),(14,.bool false)]
 refine d5 kq kq ?_
 apply qK
 apply qz [(0,.imm (l.map iE)),(1,.imm (m.map iE)),(5,.ptr 1 0)]
 refine ya [1,0] [(0,.imm (l.map iE)),(1,.imm (m.map iE)),(5,.ptr 0 0)] [bS 0,mS ([]:List (Int×Vr))] dq Ga Ga Ga Ga ?_
 apply qZ [(0,.imm (l.map iE)),(1,.imm (m.map iE)),(5,.ptr 0 0)] [bS 0,mS ([]:List (Int×Vr))]
 apply qV 1
 refine aT (args:=[.ptr 0 0]) (hs:=[bS 0,mS ([]:List (Int×Vr))]) (hs':=[bS 0,mS S1]) (aO:=[]) kq kq kq kq kq (hV) bW bW rfl bW bW kq ?_
 apply qR 2 [(0,.imm (l.map iE)),(1,.imm (m.map iE)),(5,.ptr 0 0),(6,.ptr 2 0)] [bS 0,mS S1,o.bx]
 apply qV 1
 refine aT (args:=[.ptr 0 0]) (hs:=[bS 0,mS S1]) (hs':=[bS 1,mS S1]) (aO:=[o.bx]) kq kq kq kq kq (hE) bW bW rfl bW bW kq ?_
 apply qN [(0,.imm (l.map iE)),(1,.imm (m.map iE)),(5,.ptr 0 0),(6,.ptr 2 0)] [bS 1,mS S1,o.bx]
 apply qV 1
 refine bR (args:=[.imm (l.map iE),.int .i64 0,.int .i64 3]) kq kq kq kq (hT) (by simp [aa.frz,bf,Ty.v]) yU yy ?_
 apply qR 2 [(1,.imm (m.map iE)),(5,.ptr 0 0),(6,.ptr 2 0),(7,.ptr 3 0)] [bS 1,mS S1,o.bx,t.bx]
 apply qV 3
 refine aT (args:=[.ptr 0 0,aG t,.imm (m.map iE),.int .i64 0]) (hs:=[bS 1,mS S1]) (hs':=[bS 1,mS S2]) (aO:=[o.bx,t.bx]) kq kq kq kq kq (hB) bW bW rfl bW bW kq ?_
 apply qR 2 [(5,.ptr 0 0),(6,.ptr 2 0),(7,.ptr 3 0),(8,.ptr 4 0)] [bS 1,mS S2,o.bx,t.bx,a.bx]
 apply qV 1
 refine aT (args:=[.ptr 0 0]) (hs:=[bS 1,mS S2]) (hs':=[bS 0,mS S2]) (aO:=[o.bx,t.bx,a.bx]) kq kq kq kq kq (hL) bW bW rfl bW bW kq ?_
 apply qN [(5,.ptr 0 0),(6,.ptr 2 0),(7,.ptr 3 0),(8,.ptr 4 0)] [bS 0,mS S2,o.bx,t.bx,a.bx]
 apply qV 2
 refine aT (args:=[.ptr 0 0,aG a]) (hs:=[bS 0,mS S2]) (hs':=[bS 0,mS S2]) (aO:=[o.bx,t.bx,a.bx]) kq kq kq kq kq (r2) bW bW rfl bW bW kq ?_
 apply qR 2 [(5,.ptr 0 0),(6,.ptr 2 0),(7,.ptr 3 0),(8,.ptr 4 0),(9,.ptr 5 0)] [bS 0,mS S2,o.bx,t.bx,a.bx,a.bx]
 apply qV 2
 refine aT (args:=[.ptr 0 0,aG a]) (hs:=[bS 0,mS S2]) (hs':=[bS 0,mS S2]) (aO:=[o.bx,t.bx,a.bx,a.bx]) kq kq kq kq kq (f2) bW bW rfl bW bW kq ?_
 apply qR 1 [(5,.ptr 0 0),(6,.ptr 2 0),(7,.ptr 3 0),(8,.ptr 4 0),(9,.ptr 5 0),(10,.imm ((aw [] a).map iE))] [bS 0,mS S2,o.bx,t.bx,a.bx,a.bx]
 apply ao
 apply qV 2
 refine bR (args:=[aG a]) kq kq kq kq (ls a oq) (by simp [aa.frz,bf,Ty.v]) yU yy ?_
 refine bR (args:=[.imm ((aw [] a).map iE),.imm ((aw [] a).map iE)]) kq kq kq kq (Cb (aw [] a) oq) (by simp [aa.frz,bf,Ty.v]) yU yy ?_
 apply qR 1 [(5,.ptr 0 0),(6,.ptr 2 0),(7,.ptr 3 0),(8,.ptr 4 0),(9,.ptr 5 0),(10,.imm ((aw [] a).map iE)),(37,.bool false)] [bS 0,mS S2,o.bx,t.bx,a.bx,a.bx]
 refine d5 kq kq ?_
 apply qK
 apply qz [(5,.ptr 0 0),(6,.ptr 2 0),(7,.ptr 3 0),(8,.ptr 4 0),(9,.ptr 5 0),(10,.imm ((aw [] a).map iE))]
 apply qV 3
 refine aT (args:=[.ptr 0 0,aG a,.imm ((aw [] a).map iE)]) (hs:=[bS 0,mS S2]) (hs':=[bS 0,mS S3]) (aO:=[o.bx,t.bx,a.bx,a.bx]) kq kq kq kq kq (hX) bW bW rfl bW bW kq ?_
 apply qR 2 [(5,.ptr 0 0),(6,.ptr 2 0),(7,.ptr 3 0),(8,.ptr 4 0),(9,.ptr 5 0),(11,.ptr 6 0)] [bS 0,mS S3,o.bx,t.bx,a.bx,a.bx,x.bx]
 apply ao
 apply ao
 refine cR cxM kq aJ (bq ?_)
 apply qu 2
 refine cC (args:=[.ptr 0 0,aG x]) (hs:=[bS 0,mS S3]) (hs':=[bS 0,mS S3]) (aO:=[o.bx,t.bx,a.bx,a.bx,x.bx]) (L:=[0,1]) kq kq kq kq kq kq (f3) bW bW rfl bW bW kq rfl rfl ?_
 apply qu 7
 refine d4 (args:=[.full [aG x],.full [aG a]]) kq kq kq kq kq (c1) Ey yU yy ?_
 apply qu 6
 refine cC (args:=[.ptr 0 0,aG x,aG t]) (hs:=[bS 0,mS S3]) (hs':=[bS 0,mS S4]) (aO:=[o.bx,t.bx,a.bx,a.bx,x.bx]) (L:=[0,1]) kq kq kq kq kq kq (u3) bW bW rfl bW bW kq rfl rfl ?_
 apply qu 5
 refine cC (args:=[.ptr 0 0,aG a]) (hs:=[bS 0,mS S4]) (hs':=[bS 0,mS S4]) (aO:=[o.bx,t.bx,a.bx,a.bx,x.bx]) (L:=[0,1]) kq kq kq kq kq kq (r4) bW bW rfl bW bW kq rfl rfl ?_
 apply qu 1
 refine d4 (args:=[Ty.v a,aG a]) kq kq kq kq kq (vF a oq) Ey yU yy ?_
 apply qu 2
 refine cq kq ⟨kq,?_⟩
 apply ab
 apply qZ [(5,.ptr 0 0),(6,.ptr 2 0),(8,.ptr 4 0),(9,.ptr 5 0),(69,.bool false)] [bS 0,mS S4,o.bx,t.bx,a.bx,a.bx,x.bx]
 refine d5 kq kq ?_
 apply qK
 apply qz [(5,.ptr 0 0),(6,.ptr 2 0),(8,.ptr 4 0),(9,.ptr 5 0)]
 apply ao
 apply ao
 refine cR cxM kq aJ (bq ?_)
 apply qu 3
 refine cC (args:=[.ptr 0 0,aG o,aG a]) (hs:=[bS 0,mS S4]) (hs':=[bS 0,mS S5]) (aO:=[o.bx,t.bx,a.bx,a.bx,x.bx]) (L:=[0,1]) kq kq kq kq kq kq (u4) bW bW rfl bW bW kq rfl rfl ?_
 apply qu 4
 refine cC (args:=[.ptr 0 0,aG a]) (hs:=[bS 0,mS S5]) (hs':=[bS 0,mS S5]) (aO:=[o.bx,t.bx,a.bx,a.bx,x.bx]) (L:=[0,1]) kq kq kq kq kq kq (f5) bW bW rfl bW bW kq rfl rfl ?_
 apply qu 6
 refine cC (args:=[.ptr 0 0,aG o]) (hs:=[bS 0,mS S5]) (hs':=[bS 0,mS S5]) (aO:=[o.bx,t.bx,a.bx,a.bx,x.bx]) (L:=[0,1]) kq kq kq kq kq kq (r5) bW bW rfl bW bW kq rfl rfl ?_
 apply qu 2
 refine cC (args:=[.ptr 0 0,aG a]) (hs:=[bS 0,mS S5]) (hs':=[bS 0,mS S5]) (aO:=[o.bx,t.bx,a.bx,a.bx,x.bx]) (L:=[0,1]) kq kq kq kq kq kq (q5) bW bW rfl bW bW kq rfl rfl ?_
 refine d4 (args:=[Ty.v a,Ty.v a]) kq kq kq kq kq (vF a oq) Ey yU yy ?_
 apply qu 2
 refine cq kq ⟨kq,?_⟩
 apply ab
 apply qZ [(5,.ptr 0 0),(8,.ptr 4 0),(9,.ptr 5 0),(91,.bool false)] [bS 0,mS S5,o.bx,t.bx,a.bx,a.bx,x.bx]
 refine d5 kq kq ?_
 apply qK
 apply qz [(5,.ptr 0 0),(8,.ptr 4 0),(9,.ptr 5 0)]
 apply ao
 refine cR cxM kq aJ (bq ?_)
 apply qu 4
 refine cC (args:=[.ptr 0 0,aG a]) (hs:=[bS 0,mS S5]) (hs':=[bS 0,mS S5]) (aO:=[o.bx,t.bx,a.bx,a.bx,x.bx]) (L:=[0,1]) kq kq kq kq kq kq (f5) bW bW rfl bW bW kq rfl rfl ?_
 refine cC (args:=[.ptr 0 0,aG a,.imm []]) (hs:=[bS 0,mS S5]) (hs':=[bS 0,mS S5]) (aO:=[o.bx,t.bx,a.bx,a.bx,x.bx]) (L:=[0,1]) kq kq kq kq kq kq (hY) bW bW rfl bW bW kq rfl rfl ?_
 apply qu 3
 refine d4 (args:=[.full [Ty.v a],.full [aG a]]) kq kq kq kq kq (c2) Ey yU yy ?_
 apply qu 1
 refine d4 (args:=[]) kq kq kq kq kq (yV) (fun _=>kq) kq kq ?_
 apply qu 2
 refine cq kq ⟨kq,?_⟩
 apply ab
 refine a8 kq ?_
 refine aL (b:=true) iq kq ?_
 · rfl
 iterate 56 kernel_rfl
theorem tW {S:St} {a:Ty} (ha:tyS S a) {P:Int→Prop} (h:∀ o∈az a,∀ x,ai o.n S=some x→P x.lv):∀ i,i<(aw [] a).length→P (fD S ((aw [] a).getD (0+i) 0)):=fun i hi=>by
 rw [Nat.zero_add,List.getD_eq_getElem?_getD,List.getElem?_eq_getElem hi,Option.getD_some]
 obtain ⟨o,ho,e⟩:=bC.1 (gd.1 (List.getElem_mem hi))
 obtain ⟨x,hx,_⟩:=ha.2 o ho
 rw [← e]
 unfold fD
 rw [hx]
 exact h o ho x hx
theorem FN {S:St} {a:Ty} (ha:tyS S a):fv (aw [] a) S:=fun n hn=>by
 obtain ⟨o,ho,e⟩:=bC.1 (gd.1 (List.contains_iff_mem.1 hn))
 obtain ⟨x,hx,_⟩:=ha.2 o ho
 rw [← e,hx];simp
theorem DB (S:St):fv [] S:=fun n hn=>by simp at hn
theorem xE (l m:List Int) (hl:sg l) (hm:sg m):aC cx 11 [.imm (l.map (.int .i64)),.imm (m.map (.int .i64))] (.bool true):=by
 have hc:Cl 3 (bb l 3 0):=rC l 3 0
 have hT:aC cx 13 [.imm (l.map (.int .i64)),.int .i64 0,.int .i64 3] (bb l 3 0).v:=x9 (xT l 0 3 hl dq dq)
 generalize bb l 3 0=t at hc hT
 have hlim:szB 3<lim:=by decide
 have hl3:lim=100000000:=rfl
 have ht:t.sz≤szB 3:=(hc.ft (h':=fun _=>0)).sz
 have h3:=sz3
 obtain ⟨a,S2,h2,σ2,M⟩:=Jh m hc
 have za:=M.ft.sz
 have hlen2:=M.len
 have nt2:tyN S2 t:=hc.tyN
 have zv:=ix [] a
 simp only [List.length_nil] at zv
 have resA:∀ (S:St),Inv S→tyN S a→(∀ o∈az a,∀ x,ai o.n S=some x→x.bd=false)→(∃ h,StF S h∧Ft h 3 a)→∃ f,dH f S a=some a:=fun S hi hn hu hh=>by
  obtain ⟨wf,ρ,rk,rv,hrk⟩:=hi
  obtain ⟨h,hs,hf⟩:=hh
  obtain ⟨r,re,_⟩:=mw wf hs hrk 3 hlim a hf hn.s
  obtain ⟨f,e⟩:=re.some
  rw [rf wf rv hn.s hu e] at e
  exact ⟨f,e⟩
 obtain ⟨g2,e2⟩:=resA S2 M.inv M.ty (fun o _ x hx=>M.fre o.n x hx) ⟨h2,M.stf,M.ft⟩
 have R:=DU (lv:=0) M.inv M.sm M.nn M.sol M.stf M.ty M.ft
 have hlen3:(frT 0 (aw [] a) a (S2,[])).2.1.length≤S2.length+a.sz:=Af a (S2,[])
 have hX:=rG g2 a a 0 (aw [] a) S2 oq oq oq oq M.sm M.ty.has e2 (FN M.ty.s)
 generalize (frT 0 (aw [] a) a (S2,[])).1=x at R hX
 generalize (frT 0 (aw [] a) a (S2,[])).2.1=S3 at R hX hlen3
 obtain ⟨σ3,s3,g3,ex⟩:=R.sol
 obtain ⟨h3',st3,o3,fx⟩:=R.ft
 have zx:=fx.sz
 have fre3:∀ n y,ai n S3=some y→y.bd=false:=fun n y hy=>by
  rcases R.all n y hy with h|h
  · exact M.fre n y h
  · exact h.2.1
 obtain ⟨wf3,ρ3,rk3,rv3,hrk3⟩:=id R.inv
 obtain ⟨rx,rxe,_⟩:=mw wf3 st3 hrk3 3 hlim x fx R.ty.s
 obtain ⟨g3',e3⟩:=rxe.some
 rw [rf wf3 rv3 R.ty.s (fun o _ y hy=>fre3 o.n y hy) e3] at e3
 have nt3:tyN S3 t:=hc.tyN
 have p3:phi S3<lim:=by have:=Dm S3;omega
 obtain ⟨ok,S4,h4,R4⟩:=m3 3 hlim S3 h3' x t p3 R.inv st3 R.ty.s nt3.s fx hc.ft
 obtain ⟨f4,e4⟩:=R4.ev.some
 have T4:=gM f4 S3 x t ok S4 e4 R.inv R.ty.s nt3.s
 obtain ⟨hok,σ4,s4,g4⟩:=T4.compl σ3 s3 (show sub σ3 x=sub σ3 t by rw [ex,M.eq,hc.sub])
 subst hok
 have LQ:Loc (fun n=>(ai n S2).isSome=true) S3:=⟨fun n y hy hb=>absurd hb (by rw [fre3 n y hy];decide),fun n hn=>by
  obtain ⟨y,hy⟩:=Option.isSome_iff_exists.1 hn
  exact ⟨y,R.fix n y hy,M.fre n y hy⟩⟩
 have L4:=zL _ f4 S3 x t true S4 e4 R.inv R.ty.s nt3.s (fun o ho h=>by rw [R.off o ho] at h;cases h) (Off.of hc.oc) LQ
 have na3:tyN S3 a:=M.ty.up R.fix
 have na4:tyN S4 a:=na3.ext T4.ext
 have fa4:Ft h4 3 a:=(M.ft.in o3 M.ty.in).in R4.old na3.in
 have fre4:∀ o∈az a,∀ y,ai o.n S4=some y→y.bd=false:=fun o ho y hy=>by
  obtain ⟨z,z1,_⟩:=M.ty.oc o ho
  obtain ⟨w,w1,w2⟩:=L4.kp o.n (by rw [z1];rfl)
  rw [hy] at w1;cases w1;exact w2
 obtain ⟨g4',e4'⟩:=resA S4 T4.inv na4 fre4 ⟨h4,R4.stf,fa4⟩
 obtain ⟨y1,y1e,y1b⟩:=L4.kp 1 (by rw [M.one];rfl)
 have one3:=R.fix 1 _ M.one
 have y1l:y1.lv≤0:=by
  obtain ⟨z,z1,z2⟩:=HC e4 wf3 1 _ one3
  rw [y1e] at z1;cases z1;exact z2
 have no2:tyN S2 (.mk 6 [] 1 [] []):=⟨.var 1 dq,by rw [eJ];simp [kh,fmd],fun o ho=>by
  rcases bD ho with h|h|⟨t',ht',_⟩
  · rw [h.2];exact ⟨_,M.one,rfl,rfl⟩
  · exact absurd h.1 dq
  · simp at ht'⟩
 have no4:tyN S4 (.mk 6 [] 1 [] []):=(no2.up R.fix).ext T4.ext
 have hh1:h4 1=3:=by rw [R4.old 1 _ one3,o3 1 _ M.one,M.h1]
 have fo4:Ft h4 3 (.mk 6 [] 1 [] []):=.var 3 1 hh1
 have p4:phi S4<lim:=Nat.lt_of_le_of_lt (R4.ph rfl) p3
 obtain ⟨ok5,S5,h5,R5⟩:=m3 3 hlim S4 h4 (.mk 6 [] 1 [] []) a p4 T4.inv R4.stf no4.s na4.s fo4 fa4
 obtain ⟨f5,e5⟩:=R5.ev.some
 have T5:=gM f5 S4 (.mk 6 [] 1 [] []) a ok5 S5 e5 T4.inv no4.s na4.s
 obtain ⟨hok,_,_,_⟩:=T5.compl σ4 s4 (show sub σ4 (.mk 6 [] 1 [] [])=sub σ4 a by
  rw [de,pk na3 g4,pk M.ty g3,M.eq,g4 1 _ one3,g3 1 _ M.one,M.s1])
 subst hok
 obtain ⟨wf4,ρ4,rk4,rv4,hrk4⟩:=id T4.inv
 have es5:=FR wf4 rv4 e5 y1e y1b na4.s fre4 M.off
 have at5:∀ o∈az a,∀ z,ai o.n S5=some z→z.bd=false∧z.lv≤0:=fun o ho z hz=>by
  have hn1:o.n≠1:=fun e=>M.off (bC.2 ⟨o,ho,e⟩)
  obtain ⟨w,w1,_⟩:=na4.oc o ho
  obtain ⟨l1,l2⟩:=(eR y1.lv (aw [] a) S4).2 o.n
  obtain ⟨l0,hl0⟩:=l1 w w1
  obtain ⟨w',k1,k2⟩:=uv (lv:=y1.lv) (aw [] a) S4 o.n w w1 (.inl (gd.2 (bC.2 ⟨o,ho,rfl⟩)))
  rw [es5,aP,if_neg hn1,hl0] at hz
  rw [hl0] at k1
  cases hz;cases k1
  exact ⟨fre4 o ho w w1,Int.le_trans k2 y1l⟩
 have na5:tyN S5 a:=na4.ext T5.ext
 have no5:tyN S5 (.mk 6 [] 1 [] []):=no4.ext T5.ext
 have fa5:Ft h5 3 a:=fa4.in R5.old na4.in
 have fo5:Ft h5 3 (.mk 6 [] 1 [] []):=fo4.in R5.old no4.in
 obtain ⟨g5,e6⟩:=resA S5 T5.inv na5 (fun o ho z hz=>(at5 o ho z hz).1) ⟨h5,R5.stf,fa5⟩
 obtain ⟨wf5,ρ5,rk5,rv5,hrk5⟩:=id T5.inv
 obtain ⟨ro,roe,_⟩:=mw wf5 R5.stf hrk5 3 hlim (.mk 6 [] 1 [] []) fo5 no5.s
 obtain ⟨g6,e7⟩:=roe.some
 have ero:ro=a:=by
  rw [yf wf5 rv5 e7 no5.s,T5.sound rfl ρ5 rv5.sol,← yf wf5 rv5 e6 na5.s]
 subst ero
 have sm4:=DQ e4 R.sm
 have sm5:=DQ e5 sm4
 have zo:(Ty.mk 6 [] 1 [] []).sz<100000000:=by decide
 have hY:=rG g5 ro ro 0 [] S5 oq oq dq (by have q3:=Dm S3;have q4:=R4.ph rfl;have q5:=R5.ph rfl;have q6:S5.length≤phi S5:=Nat.le_add_right _ _;omega) sm5 na5.has e6 (DB S5)
 rw [zX] at hY
 refine wD l m t (.mk 6 [] 1 [] []) ro x (ju 0 []) S2 S3 S4 S5 ?_ ?_ hT ?_ ?_ ?_ ?_ hX ?_ ?_ ?_ ?_ ?_ ?_ ?_ ?_ hY ?_ oq oq
 · exact uV 0 [] dq
 · exact EA 0 (ju 0 []) dq
 · exact Hp m t.sz 0 t ro 1 (ju 0 []) S2 hm oq oq M.run
 · exact Gf S2
 · exact iZ g2 ro ro 0 S2 oq M.sm M.ty.has e2
 · exact sO g2 ro ro 0 S2 oq oq M.sm M.ty.has e2 (tW M.ty.s (P:=fun v=>¬ v≤0) fun o ho y hy=>by
    obtain ⟨z,z1,z2⟩:=M.lvl o ho
    rw [hy] at z1;cases z1;omega)
 · exact sk g3' x x 0 S3 oq oq R.sm R.ty.has e3 (tW R.ty.s (P:=fun v=>v≤0) fun o ho y hy=>by
    rcases R.all o.n y hy with h|h
    · rw [R.off o ho] at h;cases h
    · omega)
 · exact vY oq oq (R.can 1)
 · exact vH f4 x t 0 S3 S4 oq oq R.sm R.ty.has nt3.has e4
 · exact iZ g4' ro ro 0 S4 oq sm4 na4.has e4'
 · exact vH f5 (.mk 6 [] 1 [] []) ro 0 S4 S5 zo oq sm4 no4.has na4.has e5
 · exact sk g5 ro ro 0 S5 oq oq sm5 na5.has e6 (tW na5.s (P:=fun v=>v≤0) fun o ho y hy=>(at5 o ho y hy).2)
 · exact iZ g6 (.mk 6 [] 1 [] []) ro 0 S5 zo sm5 no5.has e7
 · exact iZ g5 ro ro 0 S5 oq sm5 na5.has e6
 · exact vY oq oq rfl
end Go.Proofs.YtdikgijfekfaoaaGreatDoor
