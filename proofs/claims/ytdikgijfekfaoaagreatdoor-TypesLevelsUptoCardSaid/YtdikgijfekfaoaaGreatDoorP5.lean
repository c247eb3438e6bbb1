/- A part of the proof: plain lemmas, rules and walks. No condition. -/
import Derived.Test.YtdikgijfekfaoaaGreatDoorP4
set_option linter.all false
namespace Go.Proofs.YtdikgijfekfaoaaGreatDoor
open Go.Proofs.YtdikgijfekfaoaaGreatDoor.Abs
set_option maxRecDepth 20000
set_option maxHeartbeats 4000000
def stF (F:List Int) (t:Ty):List Int:=(aw [] t).foldl cP F
def frL (l:List Ty) (i:Nat):List Int:=(l.take i).foldl stF []
def inF (F:List Int) (t:Ty) (k:Nat):List Int:=((aw [] t).take k).foldl cP F
theorem iU {F:List Int} {t:Ty} {k:Nat} (h:k<(aw [] t).length):inF F t (k+1)=cP (inF F t k) ((aw [] t).getD k 0):=by
 unfold inF;rw [kH _ k 0 h,List.foldl_append];rfl
theorem pd {F:List Int} {t:Ty} {k:Nat} (h:(aw [] t).length≤k):inF F t k=stF F t:=by unfold inF stF;rw [List.take_of_length_le h]
theorem md {l:List Ty} {i:Nat} (h:i<l.length):frL l (i+1)=stF (frL l i) (l.getD i Ty.zero):=by
 unfold frL;rw [kH _ i Ty.zero h,List.foldl_append];rfl
theorem Ao (F:List Int) (t:Ty) (k:Nat):(inF F t k).length≤F.length+t.sz:=by
 have h1:=iK ((aw [] t).take k) F
 have h2:=ix [] t
 rw [List.length_take] at h1
 simp only [List.length_nil] at h2
 unfold inF;omega
theorem Fi (F:List Int) (t:Ty):(stF F t).length≤F.length+t.sz:=by rw [← pd (Nat.le_refl _)];exact Ao F t _
def okT (l:List Ty):Prop:=l.length≤8∧∀ i,(l.getD i Ty.zero).sz<100000000
theorem ur {l:List Ty} (hl:okT l):∀ i,i≤l.length→(frL l i).length≤i * 100000000
 | 0,_=>by simp [frL]
 | i+1,h=>by
  have h1:=ur hl i oq
  have h2:=Fi (frL l i) (l.getD i Ty.zero)
  have h3:=hl.2 i
  rw [md oq,Nat.add_mul]
  omega
theorem fr8 {l:List Ty} (hl:okT l) {i:Nat} (hi:i≤l.length):(frL l i).length≤800000000:=by
 have h1:=ur hl i hi
 have h2:=hl.1
 have h3:i * 100000000≤8 * 100000000:=Nat.mul_le_mul_right _ oq
 omega
theorem fr7 {l:List Ty} (hl:okT l) {i:Nat} (hi:i<l.length):(frL l i).length≤700000000:=by
 have h1:=ur hl i oq
 have h2:=hl.1
 have h3:i * 100000000≤7 * 100000000:=Nat.mul_le_mul_right _ oq
 omega
def atF:List Int→Nat→At
 | [],_=>[]
 | n::F,k=>(n,((k+1:Nat):Int))::atF F (k+1)
def atM (F:List Int):At:=atF F 0
def Hs (l:List Ty):Int→Int:=i4 (atM (frL l l.length))
def cnL (l:List Ty) (k:Nat):List Ty:=(l.take k).map (renT (Hs l))
def wi (l:List Ty):List Ty:=l.map (renT (Hs l))
def toL (k:Nat):List Int:=(List.range k).map fun i=>((i+1:Nat):Int)
theorem wk (F:List Int) (n:Int):toL F.length++[(((F++[n]).length:Nat):Int)]=toL (F++[n]).length:=by
 unfold toL;rw [List.length_append,List.length_singleton,List.range_succ,List.map_append];rfl
theorem uA (k:Nat):(toL k).length=k:=by simp [toL]
def GB (l:List Ty):Int→Int:=bp (frL l l.length) (toL (frL l l.length).length)
def gc (l:List Ty) (k:Nat):List Ty:=(l.take k).map (renT (GB l))
def bu (l:List Ty):List Ty:=l.map (renT (GB l))
theorem sV {l:List Ty} {k:Nat} (h:k<l.length):gc l k++[renT (bp (frL l l.length) (toL (frL l l.length).length)) (l.getD k Ty.zero)]=gc l (k+1):=by
 unfold gc;rw [eB _ _ h,List.map_append];rfl
theorem DS (l:List Ty) (k:Nat):(gc l k).length≤k:=by unfold gc;rw [List.length_map,List.length_take];omega
theorem Dl {l:List Ty} {k:Nat} (h:l.length≤k):gc l k=bu l:=by unfold gc bu;rw [List.take_of_length_le h]
theorem zi {F:List Int} {n:Int} (h:F.contains n=true):F=cP F n:=by rw [cP,if_pos h]
theorem Du {F:List Int} {n:Int} (h:¬ F.contains n=true):F++[n]=cP F n:=by rw [cP,if_neg h]
noncomputable def c30:Code:=aB Tryz.f30
theorem Bn {p:Prop} (h:p:=by simp only [List.length_append,List.length_map,List.length_cons,List.length_nil];first|omega|(have:=hl2 i;have:=hf7 i oq;omega)):p:=h
theorem FX {p:Prop} (h:p:=by simp [bf,cd,aV,aa.frz,aa.owns,Ty.v]):p:=h
theorem GU {p:Prop} (h:p:=by have:=hl2 i;have:=hf7 i oq;omega):p:=h
theorem oM (l:List Ty) (hl:okT l):aC cx 30 [.imm (l.map Ty.enc)] (.imm ((bu l).map Ty.enc)):=by
 obtain ⟨hl1,hl2⟩:=id hl
 have hf7:=fun (i:Nat) h=>fr7 (i:=i) hl h
 have hf9:=fr8 hl (Nat.le_refl _)
 refine am (cx:=cx) 65 0 [(ResultVar.tmp 2)] Tryz.func30 rfl rfl rfl rfl rfl zq ?_
 show wpA cx 65 0 (at_ c30 []) _ _ _
 apply qZ [(0,.imm (l.map Ty.enc))] []
 apply qU 1 [(0,.imm (l.map Ty.enc))]
 apply qU 2 [(0,.imm (l.map Ty.enc)),(3,.full []),(4,.full [])]
 refine rK 3 1 dq kq ?_
 refine rK 4 1 dq kq ?_
 apply qZ [(0,.imm (l.map Ty.enc)),(3,.own 0 0 0),(4,.own 1 0 0)] [.arr 1 (([]:List (Int)).map iE) 0,.arr 1 (([]:List (Int)).map iE) 0]
 apply ao
 apply qU 1 [(0,.imm (l.map Ty.enc)),(3,.own 0 0 0),(4,.own 1 0 0),(5,.int .i64 0)]
 apply qB 0
 refine bB (σ:=Nat) (fun i=>[(0,.imm (l.map Ty.enc)),(3,.own 0 0 (frL l i).length),(4,.own 1 0 (toL (frL l i).length).length),(5,.int .i64 ((i:Nat):Int))]) (fun i=>[.arr 1 ((frL l i).map iE) ((frL l i).map iE).length,.arr 1 ((toL (frL l i).length).map iE) 0]) (fun i=>i≤l.length) (fun i=>l.length - i) 0 kq (by exact Nat.zero_le _) ⟨⟨kq,kq,kq,kq,trivial⟩,by simp [aQ,aa.bel],by simp,kq,by simp [af.belO]⟩ ?_
 rintro i hi
 have htl:=uA (frL l i).length
 apply ao
 apply qV 2
 refine qy (au (l:=l) (enc:=Ty.enc) kq ba) ?_ ?_ ?_
 apply qR 1 [(0,.imm (l.map Ty.enc)),(3,.own 0 0 (frL l i).length),(4,.own 1 0 (toL (frL l i).length).length),(5,nI i),(14,.bool (decide (((i:Nat):Int)<((l.length:Nat):Int))))] [.arr 1 ((frL l i).map iE) ((frL l i).map iE).length,.arr 1 ((toL (frL l i).length).map iE) 0]
 by_cases hb1:((i:Nat):Int)<((l.length:Nat):Int)
 apply qt (decide_eq_true hb1)
 apply qK
 apply qz [(0,.imm (l.map Ty.enc)),(3,.own 0 0 (frL l i).length),(4,.own 1 0 (toL (frL l i).length).length),(5,nI i)]
 apply ao
 apply qB 1
 apply qV 2
 refine qy ((aA (k:=.i64) (l:=l) (enc:=Ty.enc) (i:=((i:Nat):Int)) Ty.zero kq ba bV bk oq oq).trans (congrArg (fun cs=>some (aa.pimm cs 0,_)) (aU (l.getD i Ty.zero)))) ?_ ?_ ?_
 apply qr 1
 refine bR (args:=[aG (l.getD i Ty.zero)]) kq kq kq kq (ls (l.getD i Ty.zero) (hl2 _)) (by simp [Ty.v,bo,Occ.v]) (by simp [Ty.v]) (by simp [Ty.v,bh]) ?_
 apply qR 1 [(0,.imm (l.map Ty.enc)),(3,.own 0 0 (frL l i).length),(4,.own 1 0 (toL (frL l i).length).length),(5,nI i),(6,.imm ((aw [] (l.getD i Ty.zero)).map iE))] [.arr 1 ((frL l i).map iE) ((frL l i).map iE).length,.arr 1 ((toL (frL l i).length).map iE) 0]
 apply qU 1 [(0,.imm (l.map Ty.enc)),(3,.own 0 0 (frL l i).length),(4,.own 1 0 (toL (frL l i).length).length),(5,nI i),(6,.imm ((aw [] (l.getD i Ty.zero)).map iE)),(7,.int .i64 0)]
 apply qB 2
 refine bB (σ:=Nat) (fun k=>[(0,.imm (l.map Ty.enc)),(3,.own 0 0 (inF (frL l i) (l.getD i Ty.zero) k).length),(4,.own 1 0 (toL (inF (frL l i) (l.getD i Ty.zero) k).length).length),(5,.int .i64 ((i:Nat):Int)),(6,.imm ((aw [] (l.getD i Ty.zero)).map iE)),(7,.int .i64 ((k:Nat):Int))]) (fun k=>[.arr 1 ((inF (frL l i) (l.getD i Ty.zero) k).map iE) ((inF (frL l i) (l.getD i Ty.zero) k).map iE).length,.arr 1 ((toL (inF (frL l i) (l.getD i Ty.zero) k).length).map iE) 0]) (fun k=>k≤(aw [] (l.getD i Ty.zero)).length) (fun k=>(aw [] (l.getD i Ty.zero)).length - k) 0 kq (by exact Nat.zero_le _) ⟨⟨kq,kq,kq,kq,kq,kq,trivial⟩,by simp [aQ,aa.bel],by simp,kq,by simp [af.belO,-List.map_append]⟩ ?_
 rintro k hk
 have hvl:(aw [] (l.getD i Ty.zero)).length≤(l.getD i Ty.zero).sz:=by have:=ix [] (l.getD i Ty.zero);simpa using this
 have hil:=Ao (frL l i) (l.getD i Ty.zero) k
 have htl2:=uA (inF (frL l i) (l.getD i Ty.zero) k).length
 apply ao
 apply qV 2
 refine qy (au (l:=(aw [] (l.getD i Ty.zero))) (enc:=iE) kq cU) ?_ ?_ ?_
 apply qR 1 [(0,.imm (l.map Ty.enc)),(3,.own 0 0 (inF (frL l i) (l.getD i Ty.zero) k).length),(4,.own 1 0 (toL (inF (frL l i) (l.getD i Ty.zero) k).length).length),(5,nI i),(6,.imm ((aw [] (l.getD i Ty.zero)).map iE)),(7,nI k),(25,.bool (decide (((k:Nat):Int)<(((aw [] (l.getD i Ty.zero)).length:Nat):Int))))] [.arr 1 ((inF (frL l i) (l.getD i Ty.zero) k).map iE) ((inF (frL l i) (l.getD i Ty.zero) k).map iE).length,.arr 1 ((toL (inF (frL l i) (l.getD i Ty.zero) k).length).map iE) 0]
 by_cases hb2:((k:Nat):Int)<(((aw [] (l.getD i Ty.zero)).length:Nat):Int)
 apply qt (decide_eq_true hb2)
 apply qK
 apply qz [(0,.imm (l.map Ty.enc)),(3,.own 0 0 (inF (frL l i) (l.getD i Ty.zero) k).length),(4,.own 1 0 (toL (inF (frL l i) (l.getD i Ty.zero) k).length).length),(5,nI i),(6,.imm ((aw [] (l.getD i Ty.zero)).map iE)),(7,nI k)]
 apply ao
 apply qB 3
 apply qV 3
 refine qy (aA (k:=.i64) (l:=(aw [] (l.getD i Ty.zero))) (enc:=iE) (i:=((k:Nat):Int)) 0 kq cU ty3 (fun _=>rfl) oq oq) ?_ ?_ ?_
 apply qr 1
 refine vZ (args:=[.own 0 0 (inF (frL l i) (l.getD i Ty.zero) k).length,.int .i64 (((aw [] (l.getD i Ty.zero)).getD k 0))]) (F:=[.arr 1 ((inF (frL l i) (l.getD i Ty.zero) k).map iE) ((inF (frL l i) (l.getD i Ty.zero) k).map iE).length,.arr 1 ((toL (inF (frL l i) (l.getD i Ty.zero) k).length).map iE) 0]) kq kq kq kq (sL (inF (frL l i) (l.getD i Ty.zero) k) (((aw [] (l.getD i Ty.zero)).getD k 0)) GU) [.arr 1 ((inF (frL l i) (l.getD i Ty.zero) k).map iE) ((inF (frL l i) (l.getD i Ty.zero) k).map iE).length,.arr 1 ((toL (inF (frL l i) (l.getD i Ty.zero) k).length).map iE) 0] kq FX (by simp [Ty.v]) FX ?_
 apply qR 1 [(0,.imm (l.map Ty.enc)),(3,.own 0 0 (inF (frL l i) (l.getD i Ty.zero) k).length),(4,.own 1 0 (toL (inF (frL l i) (l.getD i Ty.zero) k).length).length),(5,nI i),(6,.imm ((aw [] (l.getD i Ty.zero)).map iE)),(7,nI k),(8,.bool ((inF (frL l i) (l.getD i Ty.zero) k).contains (((aw [] (l.getD i Ty.zero)).getD k 0))))] [.arr 1 ((inF (frL l i) (l.getD i Ty.zero) k).map iE) ((inF (frL l i) (l.getD i Ty.zero) k).map iE).length,.arr 1 ((toL (inF (frL l i) (l.getD i Ty.zero) k).length).map iE) 0]
 apply qU 2 [(0,.imm (l.map Ty.enc)),(3,.own 0 0 (inF (frL l i) (l.getD i Ty.zero) k).length),(4,.own 1 0 (toL (inF (frL l i) (l.getD i Ty.zero) k).length).length),(5,nI i),(6,.imm ((aw [] (l.getD i Ty.zero)).map iE)),(7,nI k),(35,.bool (!((inF (frL l i) (l.getD i Ty.zero) k).contains (((aw [] (l.getD i Ty.zero)).getD k 0)))))]
 by_cases hb3:((inF (frL l i) (l.getD i Ty.zero) k).contains (((aw [] (l.getD i Ty.zero)).getD k 0)))=true
 refine qf (x:=(!((inF (frL l i) (l.getD i Ty.zero) k).contains (((aw [] (l.getD i Ty.zero)).getD k 0))))) (congrArg not (hb3)) ?_ ?_
 apply qk
 apply aj
 apply ab
 apply qz [(0,.imm (l.map Ty.enc)),(3,.own 0 0 (inF (frL l i) (l.getD i Ty.zero) k).length),(4,.own 1 0 (toL (inF (frL l i) (l.getD i Ty.zero) k).length).length),(5,nI i),(6,.imm ((aw [] (l.getD i Ty.zero)).map iE)),(7,nI k)]
 refine wP 0 [.arr 1 ((inF (frL l i) (l.getD i Ty.zero) k).map iE) ((inF (frL l i) (l.getD i Ty.zero) k).map iE).length,.arr 1 ((toL (inF (frL l i) (l.getD i Ty.zero) k).length).map iE) 0] (by simp [cd]) ?_
 apply qz [(0,.imm (l.map Ty.enc)),(3,.own 0 0 (inF (frL l i) (l.getD i Ty.zero) k).length),(4,.own 1 0 (toL (inF (frL l i) (l.getD i Ty.zero) k).length).length),(5,nI i),(6,.imm ((aw [] (l.getD i Ty.zero)).map iE)),(7,nI k)]
 apply qo
 apply qr 1
 refine qy (aN (a:=((k:Nat):Int)) (b:=1) kq oq GU) ?_ ?_ ?_
 apply qr 1
 apply qe
 refine ab ⟨k+1,?_,?_,⟨⟨kq,(Eq.trans (b:=.own 0 0 (inF (frL l i) (l.getD i Ty.zero) k).length) kq (by rw [iU oq,← zi aq])),(Eq.trans (b:=.own 1 0 (toL (inF (frL l i) (l.getD i Ty.zero) k).length).length) kq (by rw [iU oq,← zi aq])),kq,kq,kq,trivial⟩,by simp [aQ,aa.bel],by simp,(Eq.trans (b:=[.arr 1 ((inF (frL l i) (l.getD i Ty.zero) k).map iE) ((inF (frL l i) (l.getD i Ty.zero) k).map iE).length,.arr 1 ((toL (inF (frL l i) (l.getD i Ty.zero) k).length).map iE) 0]) kq (by rw [iU oq,← zi aq])),by simp [af.belO,-List.map_append]⟩⟩
 · omega
 · omega
 iterate 10 kernel_rfl
 refine qt (x:=(!((inF (frL l i) (l.getD i Ty.zero) k).contains (((aw [] (l.getD i Ty.zero)).getD k 0))))) (congrArg not (Bool.eq_false_iff.2 hb3)) ?_ ?_
 apply qV 3
 refine qy (aA (k:=.i64) (l:=(aw [] (l.getD i Ty.zero))) (enc:=iE) (i:=((k:Nat):Int)) 0 kq cU ty3 (fun _=>rfl) oq oq) ?_ ?_ ?_
 apply qr 2
 refine qY (bc (o:=0) (len:=((inF (frL l i) (l.getD i Ty.zero) k).length)) (l:=(inF (frL l i) (l.getD i Ty.zero) k)) (xs:=[(((aw [] (l.getD i Ty.zero)).getD k 0))]) (enc:=iE) (sz:=1) (fr:=((inF (frL l i) (l.getD i Ty.zero) k).map iE).length) (x:=(.full [.int .i64 (((aw [] (l.getD i Ty.zero)).getD k 0))])) kq cU ty3 cU rfl kq rfl rfl kq ⟨by decide,by kernel_rfl⟩ (fun _=>rfl) Bn Bn) ?_ ?_ ?_
 apply qR 1 [(0,.imm (l.map Ty.enc)),(3,.own 0 0 ((inF (frL l i) (l.getD i Ty.zero) k)++[(((aw [] (l.getD i Ty.zero)).getD k 0))]).length),(4,.own 1 0 (toL (inF (frL l i) (l.getD i Ty.zero) k).length).length),(5,nI i),(6,.imm ((aw [] (l.getD i Ty.zero)).map iE)),(7,nI k)] [.arr 1 (((inF (frL l i) (l.getD i Ty.zero) k)++[(((aw [] (l.getD i Ty.zero)).getD k 0))]).map iE) ((inF (frL l i) (l.getD i Ty.zero) k).map iE).length,.arr 1 ((toL (inF (frL l i) (l.getD i Ty.zero) k).length).map iE) 0]
 apply qo
 apply qr 2
 refine qy (d8 (o:=0) (off:=0) (len:=(((inF (frL l i) (l.getD i Ty.zero) k)++[(((aw [] (l.getD i Ty.zero)).getD k 0))]).length)) (sz:=1) (es:=(((inF (frL l i) (l.getD i Ty.zero) k)++[(((aw [] (l.getD i Ty.zero)).getD k 0))]).map iE)) (fr:=((inF (frL l i) (l.getD i Ty.zero) k).map iE).length) kq cU kq zq) ?_ ?_ ?_
 apply qr 1
 refine qY (bc (o:=1) (len:=((toL (inF (frL l i) (l.getD i Ty.zero) k).length).length)) (l:=(toL (inF (frL l i) (l.getD i Ty.zero) k).length)) (xs:=[((((inF (frL l i) (l.getD i Ty.zero) k)++[(((aw [] (l.getD i Ty.zero)).getD k 0))]).length:Nat):Int)]) (enc:=iE) (sz:=1) (fr:=0) (x:=(.full [.int .i64 ((((inF (frL l i) (l.getD i Ty.zero) k)++[(((aw [] (l.getD i Ty.zero)).getD k 0))]).length:Nat):Int)])) kq cU ty3 cU rfl kq rfl rfl kq ⟨by decide,by kernel_rfl⟩ (fun _=>rfl) Bn Bn) ?_ ?_ ?_
 apply qr 1
 apply qe
 apply aj
 apply ab
 apply qZ [(0,.imm (l.map Ty.enc)),(3,.own 0 0 ((inF (frL l i) (l.getD i Ty.zero) k)++[(((aw [] (l.getD i Ty.zero)).getD k 0))]).length),(4,.own 1 0 ((toL (inF (frL l i) (l.getD i Ty.zero) k).length)++[((((inF (frL l i) (l.getD i Ty.zero) k)++[(((aw [] (l.getD i Ty.zero)).getD k 0))]).length:Nat):Int)]).length),(5,nI i),(6,.imm ((aw [] (l.getD i Ty.zero)).map iE)),(7,nI k)] [.arr 1 (((inF (frL l i) (l.getD i Ty.zero) k)++[(((aw [] (l.getD i Ty.zero)).getD k 0))]).map iE) ((inF (frL l i) (l.getD i Ty.zero) k).map iE).length,.arr 1 (((toL (inF (frL l i) (l.getD i Ty.zero) k).length)++[((((inF (frL l i) (l.getD i Ty.zero) k)++[(((aw [] (l.getD i Ty.zero)).getD k 0))]).length:Nat):Int)]).map iE) 0]
 refine wP 0 [.arr 1 (((inF (frL l i) (l.getD i Ty.zero) k)++[(((aw [] (l.getD i Ty.zero)).getD k 0))]).map iE) (((inF (frL l i) (l.getD i Ty.zero) k)++[(((aw [] (l.getD i Ty.zero)).getD k 0))]).map iE).length,.arr 1 (((toL (inF (frL l i) (l.getD i Ty.zero) k).length)++[((((inF (frL l i) (l.getD i Ty.zero) k)++[(((aw [] (l.getD i Ty.zero)).getD k 0))]).length:Nat):Int)]).map iE) 0] (by simp [cd]) ?_
 apply qZ [(0,.imm (l.map Ty.enc)),(3,.own 0 0 ((inF (frL l i) (l.getD i Ty.zero) k)++[(((aw [] (l.getD i Ty.zero)).getD k 0))]).length),(4,.own 1 0 ((toL (inF (frL l i) (l.getD i Ty.zero) k).length)++[((((inF (frL l i) (l.getD i Ty.zero) k)++[(((aw [] (l.getD i Ty.zero)).getD k 0))]).length:Nat):Int)]).length),(5,nI i),(6,.imm ((aw [] (l.getD i Ty.zero)).map iE)),(7,nI k)] [.arr 1 (((inF (frL l i) (l.getD i Ty.zero) k)++[(((aw [] (l.getD i Ty.zero)).getD k 0))]).map iE) (((inF (frL l i) (l.getD i Ty.zero) k)++[(((aw [] (l.getD i Ty.zero)).getD k 0))]).map iE).length,.arr 1 (((toL (inF (frL l i) (l.getD i Ty.zero) k).length)++[((((inF (frL l i) (l.getD i Ty.zero) k)++[(((aw [] (l.getD i Ty.zero)).getD k 0))]).length:Nat):Int)]).map iE) 0]
 apply qo
 apply qr 1
 refine qy (aN (a:=((k:Nat):Int)) (b:=1) kq oq GU) ?_ ?_ ?_
 apply qr 1
 apply qe
 refine ab ⟨k+1,?_,?_,⟨⟨kq,(Eq.trans (b:=.own 0 0 ((inF (frL l i) (l.getD i Ty.zero) k)++[(((aw [] (l.getD i Ty.zero)).getD k 0))]).length) kq (by rw [iU oq,← Du aq])),(Eq.trans (b:=.own 1 0 ((toL (inF (frL l i) (l.getD i Ty.zero) k).length)++[((((inF (frL l i) (l.getD i Ty.zero) k)++[(((aw [] (l.getD i Ty.zero)).getD k 0))]).length:Nat):Int)]).length) kq (by rw [wk,iU oq,← Du aq])),kq,kq,kq,trivial⟩,by simp [aQ,aa.bel],by simp,(Eq.trans (b:=[.arr 1 (((inF (frL l i) (l.getD i Ty.zero) k)++[(((aw [] (l.getD i Ty.zero)).getD k 0))]).map iE) (((inF (frL l i) (l.getD i Ty.zero) k)++[(((aw [] (l.getD i Ty.zero)).getD k 0))]).map iE).length,.arr 1 (((toL (inF (frL l i) (l.getD i Ty.zero) k).length)++[((((inF (frL l i) (l.getD i Ty.zero) k)++[(((aw [] (l.getD i Ty.zero)).getD k 0))]).length:Nat):Int)]).map iE) 0]) kq (by rw [wk,iU oq,← Du aq])),by simp [af.belO,-List.map_append]⟩⟩
 · omega
 · omega
 iterate 37 kernel_rfl
 apply qf (decide_eq_false hb2)
 refine bn 2 kq kq ?_
 apply ae
 apply ae
 apply ay
 apply aj
 apply ab
 apply qz [(0,.imm (l.map Ty.enc)),(3,.own 0 0 (inF (frL l i) (l.getD i Ty.zero) k).length),(4,.own 1 0 (toL (inF (frL l i) (l.getD i Ty.zero) k).length).length),(5,nI i)]
 apply qo
 apply qr 1
 refine qy (aN (a:=((i:Nat):Int)) (b:=1) kq oq oq) ?_ ?_ ?_
 apply qr 1
 apply qe
 refine ab ⟨i+1,?_,?_,⟨⟨kq,(Eq.trans (b:=.own 0 0 (inF (frL l i) (l.getD i Ty.zero) k).length) kq (by rw [pd oq,md oq])),(Eq.trans (b:=.own 1 0 (toL (inF (frL l i) (l.getD i Ty.zero) k).length).length) kq (by rw [pd oq,md oq])),kq,trivial⟩,by simp [aQ,aa.bel],by simp,(Eq.trans (b:=[.arr 1 ((inF (frL l i) (l.getD i Ty.zero) k).map iE) ((inF (frL l i) (l.getD i Ty.zero) k).map iE).length,.arr 1 ((toL (inF (frL l i) (l.getD i Ty.zero) k).length).map iE) 0]) kq (by rw [pd oq,md oq])),by simp [af.belO]⟩⟩
 · omega
 · omega
 iterate 27 kernel_rfl
 apply qf (decide_eq_false hb1)
 refine bn 0 kq kq ?_
 apply ae
 apply ae
 apply ay
 apply ab
 apply qz [(0,.imm (l.map Ty.enc)),(3,.own 0 0 (frL l i).length),(4,.own 1 0 (toL (frL l i).length).length)]
 apply qU 1 [(0,.imm (l.map Ty.enc)),(3,.own 0 0 (frL l i).length),(4,.own 1 0 (toL (frL l i).length).length),(9,.full [])]
 refine rK 9 5 dq kq ?_
 refine wP 1 [.arr 1 ((frL l i).map iE) ((frL l i).map iE).length,.arr 1 ((toL (frL l i).length).map iE) ((toL (frL l i).length).map iE).length,.arr 5 (([]:List (Ty)).map Ty.enc) 0] (by simp [cd]) ?_
 apply qZ [(0,.imm (l.map Ty.enc)),(3,.own 0 0 (frL l i).length),(4,.own 1 0 (toL (frL l i).length).length),(9,.own 2 0 0)] [.arr 1 ((frL l i).map iE) ((frL l i).map iE).length,.arr 1 ((toL (frL l i).length).map iE) ((toL (frL l i).length).map iE).length,.arr 5 (([]:List (Ty)).map Ty.enc) 0]
 apply ao
 apply qU 1 [(0,.imm (l.map Ty.enc)),(3,.own 0 0 (frL l i).length),(4,.own 1 0 (toL (frL l i).length).length),(9,.own 2 0 0),(10,.int .i64 0)]
 apply qB 4
 refine bB (σ:=Nat) (fun k=>[(0,.imm (l.map Ty.enc)),(3,.own 0 0 (frL l l.length).length),(4,.own 1 0 (toL (frL l l.length).length).length),(9,.own 2 0 (gc l k).length),(10,.int .i64 ((k:Nat):Int))]) (fun k=>[.arr 1 ((frL l l.length).map iE) ((frL l l.length).map iE).length,.arr 1 ((toL (frL l l.length).length).map iE) ((toL (frL l l.length).length).map iE).length,.arr 5 ((gc l k).map Ty.enc) 0]) (fun k=>k≤l.length) (fun k=>l.length - k) 0 kq (by exact Nat.zero_le _) ⟨⟨kq,(Eq.trans (b:=.own 0 0 (frL l i).length) kq (by rw [show i=l.length by omega])),(Eq.trans (b:=.own 1 0 (toL (frL l i).length).length) kq (by rw [show i=l.length by omega])),kq,kq,trivial⟩,by simp [aQ,aa.bel],by simp,(Eq.trans (b:=[.arr 1 ((frL l i).map iE) ((frL l i).map iE).length,.arr 1 ((toL (frL l i).length).map iE) ((toL (frL l i).length).map iE).length,.arr 5 (([]:List (Ty)).map Ty.enc) 0]) kq (by rw [show i=l.length by omega];rfl)),by simp [af.belO,bL,Ty.enc_v]⟩ ?_
 rintro k hk
 have hcl:=DS l k
 have htl:=uA (frL l l.length).length
 apply ao
 apply qV 2
 refine qy (au (l:=l) (enc:=Ty.enc) kq ba) ?_ ?_ ?_
 apply qR 1 [(0,.imm (l.map Ty.enc)),(3,.own 0 0 (frL l l.length).length),(4,.own 1 0 (toL (frL l l.length).length).length),(9,.own 2 0 (gc l k).length),(10,nI k),(51,.bool (decide (((k:Nat):Int)<((l.length:Nat):Int))))] [.arr 1 ((frL l l.length).map iE) ((frL l l.length).map iE).length,.arr 1 ((toL (frL l l.length).length).map iE) ((toL (frL l l.length).length).map iE).length,.arr 5 ((gc l k).map Ty.enc) 0]
 by_cases hb4:((k:Nat):Int)<((l.length:Nat):Int)
 apply qt (decide_eq_true hb4)
 apply qK
 apply qz [(0,.imm (l.map Ty.enc)),(3,.own 0 0 (frL l l.length).length),(4,.own 1 0 (toL (frL l l.length).length).length),(9,.own 2 0 (gc l k).length),(10,nI k)]
 apply ao
 apply qB 5
 apply qo
 apply qr 3
 refine qy ((aA (k:=.i64) (l:=l) (enc:=Ty.enc) (i:=((k:Nat):Int)) Ty.zero kq ba bV bk oq oq).trans (congrArg (fun cs=>some (aa.pimm cs 0,_)) (aU (l.getD k Ty.zero)))) ?_ ?_ ?_
 apply qr 3
 refine vZ (args:=[aG (l.getD k Ty.zero),.own 0 0 (frL l l.length).length,.own 1 0 (toL (frL l l.length).length).length]) (F:=[.arr 1 ((frL l l.length).map iE) ((frL l l.length).map iE).length,.arr 1 ((toL (frL l l.length).length).map iE) ((toL (frL l l.length).length).map iE).length,.arr 5 ((gc l k).map Ty.enc) 0]) kq kq kq kq (xA (l.getD k Ty.zero) (frL l l.length) (toL (frL l l.length).length) (hl2 _) oq oq) [.arr 1 ((frL l l.length).map iE) ((frL l l.length).map iE).length,.arr 1 ((toL (frL l l.length).length).map iE) ((toL (frL l l.length).length).map iE).length,.arr 5 ((gc l k).map Ty.enc) 0] kq FX (by simp [Ty.v]) FX ?_
 apply qr 1
 refine qY (bc (o:=2) (len:=((gc l k).length)) (l:=(gc l k)) (xs:=[(renT (bp (frL l l.length) (toL (frL l l.length).length)) (l.getD k Ty.zero))]) (enc:=Ty.enc) (sz:=5) (fr:=0) (x:=(.full [Ty.v (renT (bp (frL l l.length) (toL (frL l l.length).length)) (l.getD k Ty.zero))])) kq ba bV ba rfl kq rfl rfl (Eq.trans (b:=some [Ty.v (renT (bp (frL l l.length) (toL (frL l l.length).length)) (l.getD k Ty.zero))]) kq (by simp [Ty.enc_v])) ⟨by decide,by kernel_rfl⟩ gZ Bn Bn) ?_ ?_ ?_
 apply qr 1
 apply qe
 apply aj
 apply ab
 apply qZ [(0,.imm (l.map Ty.enc)),(3,.own 0 0 (frL l l.length).length),(4,.own 1 0 (toL (frL l l.length).length).length),(9,.own 2 0 ((gc l k)++[(renT (bp (frL l l.length) (toL (frL l l.length).length)) (l.getD k Ty.zero))]).length),(10,nI k)] [.arr 1 ((frL l l.length).map iE) ((frL l l.length).map iE).length,.arr 1 ((toL (frL l l.length).length).map iE) ((toL (frL l l.length).length).map iE).length,.arr 5 (((gc l k)++[(renT (bp (frL l l.length) (toL (frL l l.length).length)) (l.getD k Ty.zero))]).map Ty.enc) 0]
 apply qo
 apply qr 1
 refine qy (aN (a:=((k:Nat):Int)) (b:=1) kq oq oq) ?_ ?_ ?_
 apply qr 1
 apply qe
 refine ab ⟨k+1,?_,?_,⟨⟨kq,kq,kq,(Eq.trans (b:=.own 2 0 ((gc l k)++[(renT (bp (frL l l.length) (toL (frL l l.length).length)) (l.getD k Ty.zero))]).length) kq (by rw [sV oq])),kq,trivial⟩,by simp [aQ,aa.bel],by simp,(Eq.trans (b:=[.arr 1 ((frL l l.length).map iE) ((frL l l.length).map iE).length,.arr 1 ((toL (frL l l.length).length).map iE) ((toL (frL l l.length).length).map iE).length,.arr 5 (((gc l k)++[(renT (bp (frL l l.length) (toL (frL l l.length).length)) (l.getD k Ty.zero))]).map Ty.enc) 0]) kq (by rw [sV oq])),by simp [af.belO,bL,Ty.enc_v]⟩⟩
 · omega
 · omega
 iterate 23 kernel_rfl
 apply qf (decide_eq_false hb4)
 refine bn 4 kq kq ?_
 apply ae
 apply ae
 apply ay
 apply ab
 apply qz [(9,.own 2 0 (gc l k).length)]
 apply qU 2 [(2,.own 2 0 (gc l k).length)]
 refine a8 kq ?_
 refine fk (l:=[.own 2 0 (gc l k).length]) iq kq ?_
 · rw [Dl oq]
   simp [aK,aa.frz,bf]
 iterate 29 kernel_rfl
def ch (t:Ty):List Int:=(az t).map Occ.n
def cJ (l:List Ty):List Int:=(aF l).map Occ.n
theorem ca (t:Ty) (l:List Ty):cJ (t::l)=ch t++cJ l:=by simp only [cJ,ch,aF,List.map_append]
theorem Gl (t:Ty):ch t=((if t.kind=6 then [t.n] else [])++cJ t.kids)++(if t.kind=5∧t.n≠0 then [t.n] else []):=by
 unfold ch cJ
 rw [kB,List.map_append,List.map_append]
 congr 1
 · congr 1
   unfold rW;split <;> rfl
 · unfold rV;split <;> rfl
theorem mo (k:Int) (x:List UInt8) (n:Int) (l:List (List UInt8)) (ks:List Ty):ch (.mk k x n l ks)=((if k=6 then [n] else [])++cJ ks)++(if k=5∧n≠0 then [n] else []):=Gl _
theorem qG {F:List Int} {n m:Int}:m∈cP F n↔m∈F∨m=n:=by
 unfold cP
 split
 · rename_i h
   rw [List.contains_iff_mem] at h
   exact ⟨.inl,fun h'=>h'.elim id (fun e=>e▸h)⟩
 · simp
theorem ko {m:Int}:∀ (xs F:List Int),m∈xs.foldl cP F↔m∈F∨m∈xs
 | [],F=>by simp
 | x::xs,F=>by rw [List.foldl_cons,ko xs,qG,List.mem_cons,or_assoc]
theorem AL {F:List Int} {n:Int} (h:n∈F):cP F n=F:=by unfold cP;rw [if_pos (List.contains_iff_mem.2 h)]
theorem Cp {A F:List Int} {x:Int}:(cP A x).foldl cP F=cP (A.foldl cP F) x:=by
 by_cases h:x∈A
 · rw [AL h,AL ((ko A F).2 (.inr h))]
 · unfold cP
   rw [if_neg (by rw [List.contains_iff_mem];exact h),List.foldl_append];rfl
theorem s7:∀ (xs A F:List Int),(xs.foldl cP A).foldl cP F=xs.foldl cP (A.foldl cP F)
 | [],A,F=>rfl
 | x::xs,A,F=>by rw [List.foldl_cons,List.foldl_cons,s7 xs,Cp]
theorem GX (F:List Int) (t:Ty):stF F t=(ch t).foldl cP F:=s7 (ch t) [] F
theorem CK:∀ (l:List Ty) (F:List Int),l.foldl stF F=(cJ l).foldl cP F
 | [],F=>rfl
 | t::l,F=>by rw [List.foldl_cons,CK l,GX,ca,List.foldl_append]
theorem tQ (l:List Ty):frL l l.length=(cJ l).foldl cP []:=by rw [frL,List.take_length,CK]
theorem nS {t:Ty} {n:Int}:∀ {l:List Ty},t∈l→n∈ch t→n∈cJ l
 | [],h,_=>by simp at h
 | x::l,h,hn=>by
  rw [ca,List.mem_append]
  rcases List.mem_cons.1 h with rfl|h
  · exact .inl hn
  · exact .inr (nS h hn)
theorem FA {l:List Ty} {t:Ty} {n:Int} (h:t∈l) (hn:n∈ch t):n∈frL l l.length:=by
 rw [tQ,ko];exact .inr (nS h hn)
theorem ew {k n:Int} {x:List UInt8} {l:List (List UInt8)} {ks:List Ty} (h:isV k n=true):n∈ch (.mk k x n l ks):=by
 rw [mo]
 simp only [isV,Bool.or_eq_true,decide_eq_true_eq,Bool.and_eq_true] at h
 simp only [List.mem_append]
 rcases h with h|h
 · rw [if_pos h];exact .inl (.inl zq)
 · rw [if_pos h];exact .inr zq
theorem eo {k n m:Int} {x:List UInt8} {l:List (List UInt8)} {ks:List Ty} (h:m∈cJ ks):m∈ch (.mk k x n l ks):=by
 rw [mo]
 simp only [List.mem_append]
 exact .inl (.inr h)
mutual
theorem pT {f g:Int→Int}:∀ (t:Ty),(∀ n∈ch t,f n=g n)→renT f t=renT g t
 | .mk k x n l ks,h=>by
  rw [renT,renT,oL ks fun m hm=>h m (eo hm)]
  congr 1
  split
  · rename_i hv;exact h n (ew hv)
  · rfl
theorem oL {f g:Int→Int}:∀ (l:List Ty),(∀ n∈cJ l,f n=g n)→dG f l=dG g l
 | [],_=>rfl
 | t::l,h=>by
  rw [ca] at h
  rw [dG,dG,pT t fun n hn=>h n (List.mem_append_left _ hn),oL l fun n hn=>h n (List.mem_append_right _ hn)]
end
theorem EC {f:Int→Int} {k n:Int} (h:isV k n=true) (h0:f n≠0):isV k (f n)=true:=by
 simp only [isV,Bool.or_eq_true,decide_eq_true_eq,Bool.and_eq_true] at h ⊢
 rcases h with h|h
 · exact .inl h
 · exact .inr ⟨h.1,h0⟩
mutual
theorem xY {f g h:Int→Int}:∀ (t:Ty),(∀ n∈ch t,g n≠0∧h (g n)=f n)→renT h (renT g t)=renT f t
 | .mk k x n l ks,hh=>by
  rw [renT,renT,renT,tw ks fun m hm=>hh m (eo hm)]
  congr 1
  by_cases hv:isV k n=true
  · have:=hh n (ew hv)
    rw [if_pos hv,if_pos (EC hv this.1),if_pos hv,this.2]
  · rw [if_neg hv,if_neg hv,if_neg hv]
theorem tw {f g h:Int→Int}:∀ (l:List Ty),(∀ n∈cJ l,g n≠0∧h (g n)=f n)→dG h (dG g l)=dG f l
 | [],_=>rfl
 | t::l,hh=>by
  rw [ca] at hh
  rw [dG,dG,dG,xY t fun n hn=>hh n (List.mem_append_left _ hn),tw l fun n hn=>hh n (List.mem_append_right _ hn)]
end
mutual
theorem CZ {g:Int→Int}:∀ (t:Ty),(∀ n∈ch t,g n≠0)→ch (renT g t)=(ch t).map g
 | .mk k x n l ks,h=>by
  have ih:=nP ks fun m hm=>h m (eo hm)
  rw [renT,mo,mo]
  simp only [List.map_append,ih]
  by_cases h6:k=6
  · have hv:isV k n=true:=by simp [isV,h6]
    rw [if_pos h6,if_pos h6,if_pos hv,if_neg oq,if_neg oq];rfl
  · rw [if_neg h6,if_neg h6]
    by_cases h5:k=5∧n≠0
    · have hv:isV k n=true:=by simp [isV,h5]
      rw [if_pos hv,if_pos ⟨h5.1,h n (ew hv)⟩,if_pos h5];rfl
    · have hv:¬ isV k n=true:=by
       simp only [isV,Bool.or_eq_true,decide_eq_true_eq,Bool.and_eq_true]
       rintro (hc|hc)
       · exact h6 hc
       · exact h5 hc
      rw [if_neg hv,if_neg h5];rfl
theorem nP {g:Int→Int}:∀ (l:List Ty),(∀ n∈cJ l,g n≠0)→cJ (dG g l)=(cJ l).map g
 | [],_=>rfl
 | t::l,h=>by
  rw [ca] at h
  rw [dG,ca,ca,List.map_append,CZ t fun n hn=>h n (List.mem_append_left _ hn),nP l fun n hn=>h n (List.mem_append_right _ hn)]
end
theorem vj:∀ (F:List Int) (k:Nat) (n:Int),n∈F→bp F ((List.range F.length).map fun i=>((i+k+1:Nat):Int)) n=(ai n (atF F k)).getD 0
 | [],k,n,h=>by simp at h
 | a::F,k,n,h=>by
  rw [List.length_cons,List.range_succ_eq_map,List.map_cons,bp,atF,ai]
  by_cases e:a=n
  · rw [if_pos e,if_pos e.symm];simp
  · rw [if_neg e,if_neg (fun q=>e q.symm),List.map_map]
    have hm:n∈F:=by
     rcases List.mem_cons.1 h with h|h
     · exact absurd h.symm e
     · exact h
    rw [← vj F (k+1) n hm]
    congr 1
    refine List.map_congr_left fun i _=>?_
    simp only [Function.comp];omega
theorem sK (l:List Ty):wi l=bu l:=by
 refine List.map_congr_left fun t ht=>pT t fun n hn=>?_
 have:=vj (frL l l.length) 0 n (FA ht hn)
 simp only [Nat.add_zero] at this
 exact this.symm
theorem FT {g:Int→Int} {F:List Int} {n:Int} (h:∀ a∈F,g a=g n→a=n):cP (F.map g) (g n)=(cP F n).map g:=by
 unfold cP
 by_cases hm:n∈F
 · rw [if_pos (List.contains_iff_mem.2 (List.mem_map_of_mem hm)),if_pos (List.contains_iff_mem.2 hm)]
 · rw [if_neg,if_neg (fun hc=>hm (List.contains_iff_mem.1 hc)),List.map_append]
   · rfl
   · rw [List.contains_iff_mem]
     intro hc
     obtain ⟨a,ha,e⟩:=List.mem_map.1 hc
     exact hm (h a ha e▸ha)
theorem xM {g:Int→Int}:∀ (xs F:List Int),(∀ a,a∈F∨a∈xs→∀ b,b∈F∨b∈xs→g a=g b→a=b)→(xs.map g).foldl cP (F.map g)=(xs.foldl cP F).map g
 | [],F,_=>rfl
 | x::xs,F,h=>by
  rw [List.map_cons,List.foldl_cons,List.foldl_cons,FT fun a ha e=>h a (.inl ha) x (.inr zq) e]
  refine xM xs (cP F x) fun a ha b hb e=>h a ?_ b ?_ e
  · rcases ha with ha|ha
    · rcases qG.1 ha with ha|ha
      · exact .inl ha
      · exact .inr (by simp [ha])
    · exact .inr (by simp [ha])
  · rcases hb with hb|hb
    · rcases qG.1 hb with hb|hb
      · exact .inl hb
      · exact .inr (by simp [hb])
    · exact .inr (by simp [hb])
theorem xg {g:Int→Int}:∀ (F:List Int) (k:Nat) (n:Int),(∀ a∈F,g a=g n→a=n)→ai (g n) (atF (F.map g) k)=ai n (atF F k)
 | [],k,n,_=>rfl
 | a::F,k,n,h=>by
  rw [List.map_cons,atF,atF,ai,ai]
  by_cases e:n=a
  · rw [if_pos e,if_pos (congrArg g e)]
  · rw [if_neg e,if_neg (fun q=>e (h a zq q.symm).symm)]
    exact xg F (k+1) n fun b hb=>h b (by simp [hb])
theorem Di (l:List Ty) (g:Int→Int) (h0:∀ n∈cJ l,g n≠0) (hi:∀ a∈cJ l,∀ b∈cJ l,g a=g b→a=b):wi (l.map (renT g))=wi l:=by
 have hF:frL (l.map (renT g)) (l.map (renT g)).length=(frL l l.length).map g:=by
  rw [tQ,tQ,← iM,nP l h0]
  exact xM (cJ l) [] fun a ha b hb e=>hi a (ha.elim zq id) b (hb.elim zq id) e
 unfold wi
 rw [List.map_map]
 refine List.map_congr_left fun t ht=>xY t fun n hn=>?_
 have hm:=nS ht hn
 refine ⟨h0 n hm,?_⟩
 unfold Hs i4 atM
 rw [hF,xg _ 0 n fun a ha e=>?_]
 rw [tQ,ko] at ha
 exact hi a (ha.elim zq id) n hm e
structure Vr where
 row:Bool
 lv:Int
 bd:Bool
 val:Ty
 names:List (List UInt8)
def Vr.v (x:Vr):aa:=.agg [.bool x.row,.int .i64 x.lv,.bool x.bd,.int .i64 x.val.kind,.str x.val.name,.int .i64 x.val.n,.imm (x.val.names.map .str),.imm (x.val.kids.map Ty.enc),.imm (x.names.map .str)]
def Vr.zero:Vr:=⟨false,0,false,Ty.zero,[]⟩
abbrev St:=List (Int×Vr)
abbrev mS (m:St):af:=.map (av (aa.int .i64) Vr.v m)
abbrev mA (f:At):af:=.map (av iE iE f)
abbrev vrB (x:Vr):af:=.box [.bool x.row,.int .i64 x.lv,.bool x.bd,.int .i64 x.val.kind,.str x.val.name,.int .i64 x.val.n,.imm (x.val.names.map .str),.imm (x.val.kids.map Ty.enc),.imm (x.names.map .str)]
abbrev bS (lv:Int):af:=.box [.int .i64 lv,.map 1]
@[simp] theorem AW (k:Nat) (l:St):((av iE Vr.v l).all fun e=>e.1.bel k && e.2.bel k)=true:=by
 simp [av,Vr.v,List.all_eq_true]
def dn (m:St):Prop:=∀ n x,ai n m=some x→x.names.length<100000000
def vOk (m:St) (t:Ty):Bool:=if isV t.kind t.n=true then (match ai t.n m with
 | none=>false
 | some x=>(x.row==(t.kind==5)) && (!x.row || x.names==t.names)) else true
mutual
def i3 (m:St):Ty→Bool
 | .mk k x n l ks=>vOk m (.mk k x n l ks) && cr m ks
def cr (m:St):List Ty→Bool
 | []=>true
 | t::l=>i3 m t && cr m l
end
theorem E6 (m:St) (t:Ty):i3 m t=(vOk m t && cr m t.kids):=by cases t;rfl
theorem nq (m:St):∀ l,cr m l=l.all (i3 m)
 | []=>rfl
 | t::l=>by rw [cr,nq m l,List.all_cons]
theorem rr (m:St) (l:List Ty) (k:Nat) (h:k<l.length):cr m (l.take (k+1))=(cr m (l.take k) && i3 m (l.getD k Ty.zero)):=by
 rw [eB l k h,nq,nq,List.all_append];simp
def cT (m:St) (t:Ty):Bool:=fC t && i3 m t
def hpS (lv:Int) (m:St):ac:=[bS lv,mS m]
def hpH (lv:Int) (m:St) (u:Ty) (b:Bool):ac:=[bS lv,mS m,pB,u.bx,.box [.bool b]]
theorem GD {m:St} {t:Ty} (h:¬ isV t.kind t.n=true):vOk m t=true:=by rw [vOk,if_neg h]
theorem HX {m:St} {t:Ty} (h:isV t.kind t.n=true) (hm:ai t.n m=none):vOk m t=false:=by rw [vOk,if_pos h,hm]
theorem As {m:St} {t:Ty} {x:Vr} (h:isV t.kind t.n=true) (hm:ai t.n m=some x):vOk m t=((x.row==(t.kind==5)) && (!x.row || x.names==t.names)):=by rw [vOk,if_pos h,hm]
noncomputable def JS:Code:=aB Tryz.f103
theorem eM {p:Prop} (h:p:=by simp [aK]):p:=h
theorem so (t u:Ty) (lv:Int) (m:St) (b:Bool) (hs:t.sz<100000000) (hm:dn m):ar cx 103 [Ty.v t,.ptr 2 0,.ptr 4 0] (hpH lv m u b) (fun v h=>v=(.tup [])∧h=hpH lv m u (b && vOk m t)):=by
 have hz1:=bP t
 refine am (cx:=cx) 43 5 [] Tryz.func103 rfl rfl rfl rfl rfl zq ?_
 show wpA cx 43 5 (at_ JS []) _ _ _
 apply qZ [(0,Ty.v t),(1,.ptr 2 0),(2,.ptr 4 0)] [bS lv,mS m,pB,u.bx,.box [.bool (b)]]
 apply qW 1 [(1,.ptr 2 0),(2,.ptr 4 0),(3,.ptr 5 0)] [bS lv,mS m,pB,u.bx,.box [.bool (b)],t.bx]
 apply ao
 apply qV 1
 refine dD (args:=[aG t]) (v:=.bool (isV (t.kind) (t.n))) (h':=[bS lv,mS m,pB,u.bx,.box [.bool (b)],t.bx]) [bS lv,mS m,pB,u.bx,.box [.bool (b)],t.bx] kq kq kq kq kq (j7 (pM (t.kind) (t.n) t.name) rfl rfl rfl) ?_
 apply qR 1 [(1,.ptr 2 0),(2,.ptr 4 0),(3,.ptr 5 0),(8,.bool (!(isV (t.kind) (t.n))))] [bS lv,mS m,pB,u.bx,.box [.bool (b)],t.bx]
 by_cases hb1:(isV (t.kind) (t.n))=true
 refine qf (x:=(!(isV (t.kind) (t.n)))) (congrArg not (hb1)) ?_ ?_
 apply qK
 apply qz [(1,.ptr 2 0),(2,.ptr 4 0),(3,.ptr 5 0)]
 apply ao
 refine cR cxM kq aJ (bq ?_)
 apply qu 6
 rcases hm2:ai (t.n) m with _|x2
 refine qd (eO (ok:=true) (o:=1) (ek:=iE) (ev:=Vr.v) (l:=m) (k:=(t.n)) df hm2 kq ip ty3 rfl jw kq) ?_ ?_ ?_ ?_
 apply qu 6
 refine cq kq ⟨kq,?_⟩
 apply ab
 apply qZ [(2,.ptr 4 0),(3,.ptr 5 0),(4,.ptr 6 0),(5,.bool false)] [bS lv,mS m,pB,u.bx,.box [.bool (b)],t.bx,.box [.bool false,.int .i64 0,.bool false,.int .i64 0,.str [],.int .i64 0,.full [],.full [],.full []]]
 apply qo
 apply qr 2
 by_cases hb3:(b)=true
 refine gu 19 (.bool (b)) (.bool true) (gm dB) kq (congrArg aa.bool (hb3)) ?_
 refine gu 20 (.bool (b)) (.bool true) (gm dB) kq (congrArg aa.bool (hb3)) ?_
 apply qr 23
 apply qe
 refine aM (l:=[]) jq kq eM eM eM ?_ ?_
 refine Eq.trans (b:=[bS lv,mS m,pB,u.bx,.box [.bool false]]) kq ?_
 rotate_left
 · simp [af.belO,hpH,Ty.v]
 iterate 2 kernel_rfl
 refine gu 19 (.bool (b)) (.bool false) (gm dB) kq (congrArg aa.bool (Bool.eq_false_iff.2 hb3)) ?_
 refine gu 20 (.bool (b)) (.bool false) (gm dB) kq (congrArg aa.bool (Bool.eq_false_iff.2 hb3)) ?_
 apply qr 23
 apply qe
 refine aM (l:=[]) jq kq eM eM eM ?_ ?_
 refine Eq.trans (b:=[bS lv,mS m,pB,u.bx,.box [.bool false]]) kq ?_
 rotate_left
 · simp [af.belO,hpH,Ty.v]
 iterate 9 kernel_rfl
 refine qd (cg (ok:=true) (o:=1) (ek:=iE) (ev:=Vr.v) (l:=m) (k:=(t.n)) (x:=x2) df hm2 kq ip ty3 rfl jw kq) ?_ ?_ ?_ ?_
 apply qu 6
 refine cq kq ⟨kq,?_⟩
 apply ab
 apply qZ [(2,.ptr 4 0),(3,.ptr 5 0),(4,.ptr 6 0),(5,.bool true)] [bS lv,mS m,pB,u.bx,.box [.bool (b)],t.bx,.box [.bool (x2.row),.int .i64 (x2.lv),.bool (x2.bd),.int .i64 (x2.val.kind),.str x2.val.name,.int .i64 (x2.val.n),.imm (x2.val.names.map aa.str),.imm (x2.val.kids.map Ty.enc),.imm (x2.names.map aa.str)]]
 apply qo
 apply qr 2
 by_cases hb4:(b)=true
 refine gu 19 (.bool (b)) (.bool true) (gm dB) kq (congrArg aa.bool (hb4)) ?_
 refine gu 20 (.bool (b)) (.bool true) (gm dB) kq (congrArg aa.bool (hb4)) ?_
 apply qr 11
 by_cases hb5:((x2.row)==((t.kind)==5))=true
 refine gu 29 (.bool ((x2.row)==((t.kind)==5))) (.bool true) (gm dB) kq (congrArg aa.bool (hb5)) ?_
 refine gu 30 (.bool ((x2.row)==((t.kind)==5))) (.bool true) (gm dB) kq (congrArg aa.bool (hb5)) ?_
 refine gu 31 (.bool ((x2.row)==((t.kind)==5))) (.bool true) (gm dB) kq (congrArg aa.bool (hb5)) ?_
 apply qr 4
 by_cases hb6:(x2.row)=true
 refine gu 34 (.bool (!(x2.row))) (.bool false) (gm dB) kq (congrArg aa.bool (congrArg not (hb6))) ?_
 refine gu 35 (.bool (!(x2.row))) (.bool false) (gm dB) kq (congrArg aa.bool (congrArg not (hb6))) ?_
 apply qr 4
 refine bR (args:=[.imm (x2.names.map aa.str),.imm (t.names.map aa.str)]) kq kq kq kq (jh x2.names t.names (by have:=hm _ _ aq;omega)) (by simp [Ty.v,bo,Occ.v]) (by simp [Ty.v]) (by simp [Ty.v,bh]) ?_
 apply qr 3
 apply qe
 refine aM (l:=[]) jq kq eM eM eM ?_ ?_
 refine Eq.trans (b:=[bS lv,mS m,pB,u.bx,.box [.bool (x2.names==t.names)]]) kq ?_
 rotate_left
 · simp [af.belO,hpH,Ty.v]
 iterate 3 kernel_rfl
 refine gu 34 (.bool (!(x2.row))) (.bool true) (gm dB) kq (congrArg aa.bool (congrArg not (Bool.eq_false_iff.2 hb6))) ?_
 refine gu 35 (.bool (!(x2.row))) (.bool true) (gm dB) kq (congrArg aa.bool (congrArg not (Bool.eq_false_iff.2 hb6))) ?_
 apply qr 8
 apply qe
 refine aM (l:=[]) jq kq eM eM eM ?_ ?_
 refine Eq.trans (b:=[bS lv,mS m,pB,u.bx,.box [.bool true]]) kq ?_
 rotate_left
 · simp [af.belO,hpH,Ty.v]
 iterate 3 kernel_rfl
 refine gu 29 (.bool ((x2.row)==((t.kind)==5))) (.bool false) (gm dB) kq (congrArg aa.bool (Bool.eq_false_iff.2 hb5)) ?_
 refine gu 30 (.bool ((x2.row)==((t.kind)==5))) (.bool false) (gm dB) kq (congrArg aa.bool (Bool.eq_false_iff.2 hb5)) ?_
 refine gu 31 (.bool ((x2.row)==((t.kind)==5))) (.bool false) (gm dB) kq (congrArg aa.bool (Bool.eq_false_iff.2 hb5)) ?_
 apply qr 12
 apply qe
 refine aM (l:=[]) jq kq eM eM eM ?_ ?_
 refine Eq.trans (b:=[bS lv,mS m,pB,u.bx,.box [.bool false]]) kq ?_
 rotate_left
 · simp [af.belO,hpH,Ty.v]
 iterate 3 kernel_rfl
 refine gu 19 (.bool (b)) (.bool false) (gm dB) kq (congrArg aa.bool (Bool.eq_false_iff.2 hb4)) ?_
 refine gu 20 (.bool (b)) (.bool false) (gm dB) kq (congrArg aa.bool (Bool.eq_false_iff.2 hb4)) ?_
 apply qr 23
 apply qe
 refine aM (l:=[]) jq kq eM eM eM ?_ ?_
 refine Eq.trans (b:=[bS lv,mS m,pB,u.bx,.box [.bool false]]) kq ?_
 rotate_left
 · simp [af.belO,hpH,Ty.v]
 iterate 14 kernel_rfl
 refine qt (x:=(!(isV (t.kind) (t.n)))) (congrArg not (Bool.eq_false_iff.2 hb1)) ?_ ?_
 refine a8 kq ?_
 apply aR
 refine aM (l:=[]) iq kq eM eM eM ?_ ?_
 refine Eq.trans (b:=[bS lv,mS m,pB,u.bx,.box [.bool (b)]]) kq ?_
 rotate_left
 · simp [af.belO,hpH,Ty.v]
 iterate 6 kernel_rfl
 all_goals
  refine congrArg (hpH lv m u) ?_
  first|(rw [GD aq,Bool.and_true];done)|(rw [HX aq aq,Bool.and_false];done)|(rw [As aq aq];cases b <;> simp_all;done)|(rw [As aq aq];simp_all;done)
theorem kZ {p:Prop} (h:p:=by simp [af.belO,hpH,Ty.v]):p:=h
theorem wH (t u:Ty) (lv:Int) (m:St) (b:Bool) (hs:t.sz<100000000) (hm:dn m):ar cx 54 [Ty.v t,.fn (.func 103) [] [.ptr 2 0,.ptr 4 0]] (hpH lv m u b) (fun v h=>v=(.tup [])∧h=hpH lv m u (b && i3 m t)):=by
 induction hN:t.sz using Nat.strongRecOn generalizing t u b with|_ N ih =>
 have ihV:∀ (t' u:Ty) (b:Bool),t'.sz<t.sz→ar cx 54 [t'.v,.fn (.func 103) [] [.ptr 2 0,.ptr 4 0]] (hpH lv m u b) (fun v h=>v=.tup []∧h=hpH lv m u (b && i3 m t')):=fun t' u b h1=>ih _ (by rw [← hN];exact h1) t' u b oq rfl
 have hz2:=cF t
 refine am (cx:=cx) 29 5 [] Tryz.func54 rfl rfl rfl rfl rfl zq ?_
 show wpA cx 29 5 (at_ c54 []) _ _ _
 apply qZ [(0,Ty.v t),(1,.fn (.func 103) [] [.ptr 2 0,.ptr 4 0])] [bS lv,mS m,pB,u.bx,.box [.bool (b)]]
 apply qW 1 [(1,.fn (.func 103) [] [.ptr 2 0,.ptr 4 0]),(2,.ptr 5 0)] [bS lv,mS m,pB,u.bx,.box [.bool (b)],t.bx]
 apply ao
 apply qU 3 [(1,.fn (.func 103) [] [.ptr 2 0,.ptr 4 0]),(2,.ptr 5 0),(8,.bool ((t.kind) != 5))]
 by_cases hb1:(t.kind)=5
 refine qf (x:=((t.kind) != 5)) (bne_eq_false_iff_eq.2 hb1) ?_ ?_
 apply qK
 apply qz [(1,.fn (.func 103) [] [.ptr 2 0,.ptr 4 0]),(2,.ptr 5 0)]
 apply ao
 apply qV 2
 refine qy (au (l:=t.kids) (enc:=Ty.enc) kq ba) ?_ ?_ ?_
 apply qR 1 [(1,.fn (.func 103) [] [.ptr 2 0,.ptr 4 0]),(2,.ptr 5 0),(13,.imm (t.kids.map Ty.enc)),(14,nI t.kids.length),(15,.int .i64 0)] [bS lv,mS m,pB,u.bx,.box [.bool (b)],t.bx]
 apply qB 0
 refine bB (σ:=Nat) (fun k=>[(1,.fn (.func 103) [] [.ptr 2 0,.ptr 4 0]),(2,.ptr 5 0),(13,.imm (t.kids.map Ty.enc)),(14,.int .i64 ((t.kids.length:Nat):Int)),(15,.int .i64 ((k:Nat):Int))]) (fun k=>[bS lv,mS m,pB,u.bx,.box [.bool ((b) && cr m (t.kids.take k))],t.bx]) (fun k=>k≤t.kids.length) (fun k=>t.kids.length - k) 0 kq (by exact Nat.zero_le _) ⟨⟨kq,kq,kq,kq,kq,trivial⟩,by simp [aQ,aa.bel],by simp,(Eq.trans (b:=[bS lv,mS m,pB,u.bx,.box [.bool (b)],t.bx]) kq (by simp [cr])),by simp [af.belO]⟩ ?_
 rintro k hk
 apply qW 1 [(1,.fn (.func 103) [] [.ptr 2 0,.ptr 4 0]),(2,.ptr 5 0),(13,.imm (t.kids.map Ty.enc)),(14,nI t.kids.length),(15,nI k),(16,.bool (decide (((k:Nat):Int)<((t.kids.length:Nat):Int))))] [bS lv,mS m,pB,u.bx,.box [.bool ((b) && cr m (t.kids.take k))],t.bx]
 apply ao
 by_cases hb2:((k:Nat):Int)<((t.kids.length:Nat):Int)
 apply qt (decide_eq_true hb2)
 apply qK
 apply qz [(1,.fn (.func 103) [] [.ptr 2 0,.ptr 4 0]),(2,.ptr 5 0),(13,.imm (t.kids.map Ty.enc)),(14,nI t.kids.length),(15,nI k)]
 apply ao
 apply qB 1
 apply qO
 refine qy ((aA (k:=.i64) (l:=t.kids) (enc:=Ty.enc) (i:=((k:Nat):Int)) Ty.zero kq ba bV bk oq oq).trans (congrArg (fun cs=>some (aa.pimm cs 0,_)) (aU (t.kids.getD k Ty.zero)))) ?_ ?_ ?_
 apply qR 3 [(1,.fn (.func 103) [] [.ptr 2 0,.ptr 4 0]),(2,.ptr 5 0),(5,.ptr 6 0),(13,.imm (t.kids.map Ty.enc)),(14,nI t.kids.length),(15,nI k)] [bS lv,mS m,pB,u.bx,.box [.bool ((b) && cr m (t.kids.take k))],t.bx,(t.kids.getD k Ty.zero).bx]
 apply qo
 apply qr 2
 refine aT (args:=[aG (t.kids.getD k Ty.zero),.fn (.func 103) [] [.ptr 2 0,.ptr 4 0]]) (hs:=[bS lv,mS m,pB,u.bx,.box [.bool ((b) && cr m (t.kids.take k))]]) (hs':=[.box [.int .i64 ((lv)),.map 1],mS m,pB,u.bx,.box [.bool ((((b) && cr m (t.kids.take k)) && i3 m (t.kids.getD k Ty.zero)))]]) (aO:=[t.bx,(t.kids.getD k Ty.zero).bx]) kq kq kq kq kq (ihV (t.kids.getD k Ty.zero) u ((b) && cr m (t.kids.take k)) (cu t k oq)) kZ kZ rfl kZ kZ kq ?_
 apply qe
 apply aj
 apply ab
 apply qZ [(1,.fn (.func 103) [] [.ptr 2 0,.ptr 4 0]),(2,.ptr 5 0),(13,.imm (t.kids.map Ty.enc)),(14,nI t.kids.length),(15,nI k)] [.box [.int .i64 ((lv)),.map 1],mS m,pB,u.bx,.box [.bool ((((b) && cr m (t.kids.take k)) && i3 m (t.kids.getD k Ty.zero)))],t.bx,(t.kids.getD k Ty.zero).bx]
 apply qo
 refine qy (aN (a:=((k:Nat):Int)) (b:=1) kq oq oq) ?_ ?_ ?_
 apply qr 1
 apply qe
 refine ab ⟨k+1,?_,?_,⟨⟨kq,kq,kq,kq,kq,trivial⟩,by simp [aQ,aa.bel],by simp,(Eq.trans (b:=[.box [.int .i64 ((lv)),.map 1],mS m,pB,u.bx,.box [.bool ((((b) && cr m (t.kids.take k)) && i3 m (t.kids.getD k Ty.zero)))],t.bx]) kq (by rw [rr m t.kids k oq,Bool.and_assoc])),by simp [af.belO]⟩⟩
 · omega
 · omega
 iterate 19 kernel_rfl
 apply qf (decide_eq_false hb2)
 refine bn 0 kq kq ?_
 apply ae
 apply ae
 apply ay
 apply ab
 apply qz [(1,.fn (.func 103) [] [.ptr 2 0,.ptr 4 0]),(2,.ptr 5 0)]
 apply qU 3 [(1,.fn (.func 103) [] [.ptr 2 0,.ptr 4 0]),(2,.ptr 5 0),(25,.bool ((t.kind)==5))]
 apply qt (beq_iff_eq.2 hb1)
 apply qo
 apply qr 2
 refine aT (args:=[aG t,.ptr 2 0,.ptr 4 0]) (hs:=[bS lv,mS m,pB,u.bx,.box [.bool ((b) && cr m (t.kids.take k))]]) (hs':=[.box [.int .i64 ((lv)),.map 1],mS m,pB,u.bx,.box [.bool ((((b) && cr m (t.kids.take k)) && vOk m t))]]) (aO:=[t.bx]) kq kq kq kq kq (so t u (lv) m ((b) && cr m (t.kids.take k)) oq oq) kZ kZ rfl kZ kZ kq ?_
 apply qe
 refine aM (l:=[]) jq kq eM eM eM ?_ ?_
 refine Eq.trans (b:=[.box [.int .i64 ((lv)),.map 1],mS m,pB,u.bx,.box [.bool ((((b) && cr m (t.kids.take k)) && vOk m t))]]) kq ?_
 rotate_left
 · simp [af.belO,hpH,Ty.v]
 iterate 19 kernel_rfl
 refine qt (x:=((t.kind) != 5)) (bne_iff_ne.2 hb1) ?_ ?_
 apply qo
 apply qr 2
 refine aT (args:=[aG t,.ptr 2 0,.ptr 4 0]) (hs:=[bS lv,mS m,pB,u.bx,.box [.bool (b)]]) (hs':=[.box [.int .i64 ((lv)),.map 1],mS m,pB,u.bx,.box [.bool (((b) && vOk m t))]]) (aO:=[t.bx]) kq kq kq kq kq (so t u (lv) m (b) oq oq) kZ kZ rfl kZ kZ kq ?_
 apply qN [(1,.fn (.func 103) [] [.ptr 2 0,.ptr 4 0]),(2,.ptr 5 0)] [.box [.int .i64 ((lv)),.map 1],mS m,pB,u.bx,.box [.bool (((b) && vOk m t))],t.bx]
 apply ao
 apply qV 2
 refine qy (au (l:=t.kids) (enc:=Ty.enc) kq ba) ?_ ?_ ?_
 apply qR 1 [(1,.fn (.func 103) [] [.ptr 2 0,.ptr 4 0]),(2,.ptr 5 0),(13,.imm (t.kids.map Ty.enc)),(14,nI t.kids.length),(15,.int .i64 0)] [.box [.int .i64 ((lv)),.map 1],mS m,pB,u.bx,.box [.bool (((b) && vOk m t))],t.bx]
 apply qB 0
 refine bB (σ:=Nat) (fun k=>[(1,.fn (.func 103) [] [.ptr 2 0,.ptr 4 0]),(2,.ptr 5 0),(13,.imm (t.kids.map Ty.enc)),(14,.int .i64 ((t.kids.length:Nat):Int)),(15,.int .i64 ((k:Nat):Int))]) (fun k=>[bS lv,mS m,pB,u.bx,.box [.bool ((((b) && vOk m t)) && cr m (t.kids.take k))],t.bx]) (fun k=>k≤t.kids.length) (fun k=>t.kids.length - k) 0 kq (by exact Nat.zero_le _) ⟨⟨kq,kq,kq,kq,kq,trivial⟩,by simp [aQ,aa.bel],by simp,(Eq.trans (b:=[.box [.int .i64 ((lv)),.map 1],mS m,pB,u.bx,.box [.bool (((b) && vOk m t))],t.bx]) kq (by simp [cr])),by simp [af.belO]⟩ ?_
 rintro k hk
 apply qW 1 [(1,.fn (.func 103) [] [.ptr 2 0,.ptr 4 0]),(2,.ptr 5 0),(13,.imm (t.kids.map Ty.enc)),(14,nI t.kids.length),(15,nI k),(16,.bool (decide (((k:Nat):Int)<((t.kids.length:Nat):Int))))] [bS lv,mS m,pB,u.bx,.box [.bool ((((b) && vOk m t)) && cr m (t.kids.take k))],t.bx]
 apply ao
 by_cases hb4:((k:Nat):Int)<((t.kids.length:Nat):Int)
 apply qt (decide_eq_true hb4)
 apply qK
 apply qz [(1,.fn (.func 103) [] [.ptr 2 0,.ptr 4 0]),(2,.ptr 5 0),(13,.imm (t.kids.map Ty.enc)),(14,nI t.kids.length),(15,nI k)]
 apply ao
 apply qB 1
 apply qO
 refine qy ((aA (k:=.i64) (l:=t.kids) (enc:=Ty.enc) (i:=((k:Nat):Int)) Ty.zero kq ba bV bk oq oq).trans (congrArg (fun cs=>some (aa.pimm cs 0,_)) (aU (t.kids.getD k Ty.zero)))) ?_ ?_ ?_
 apply qR 3 [(1,.fn (.func 103) [] [.ptr 2 0,.ptr 4 0]),(2,.ptr 5 0),(5,.ptr 6 0),(13,.imm (t.kids.map Ty.enc)),(14,nI t.kids.length),(15,nI k)] [bS lv,mS m,pB,u.bx,.box [.bool ((((b) && vOk m t)) && cr m (t.kids.take k))],t.bx,(t.kids.getD k Ty.zero).bx]
 apply qo
 apply qr 2
 refine aT (args:=[aG (t.kids.getD k Ty.zero),.fn (.func 103) [] [.ptr 2 0,.ptr 4 0]]) (hs:=[bS lv,mS m,pB,u.bx,.box [.bool ((((b) && vOk m t)) && cr m (t.kids.take k))]]) (hs':=[.box [.int .i64 ((lv)),.map 1],mS m,pB,u.bx,.box [.bool ((((((b) && vOk m t)) && cr m (t.kids.take k)) && i3 m (t.kids.getD k Ty.zero)))]]) (aO:=[t.bx,(t.kids.getD k Ty.zero).bx]) kq kq kq kq kq (ihV (t.kids.getD k Ty.zero) u ((((b) && vOk m t)) && cr m (t.kids.take k)) (cu t k oq)) kZ kZ rfl kZ kZ kq ?_
 apply qe
 apply aj
 apply ab
 apply qZ [(1,.fn (.func 103) [] [.ptr 2 0,.ptr 4 0]),(2,.ptr 5 0),(13,.imm (t.kids.map Ty.enc)),(14,nI t.kids.length),(15,nI k)] [.box [.int .i64 ((lv)),.map 1],mS m,pB,u.bx,.box [.bool ((((((b) && vOk m t)) && cr m (t.kids.take k)) && i3 m (t.kids.getD k Ty.zero)))],t.bx,(t.kids.getD k Ty.zero).bx]
 apply qo
 refine qy (aN (a:=((k:Nat):Int)) (b:=1) kq oq oq) ?_ ?_ ?_
 apply qr 1
 apply qe
 refine ab ⟨k+1,?_,?_,⟨⟨kq,kq,kq,kq,kq,trivial⟩,by simp [aQ,aa.bel],by simp,(Eq.trans (b:=[.box [.int .i64 ((lv)),.map 1],mS m,pB,u.bx,.box [.bool ((((((b) && vOk m t)) && cr m (t.kids.take k)) && i3 m (t.kids.getD k Ty.zero)))],t.bx]) kq (by rw [rr m t.kids k oq,Bool.and_assoc])),by simp [af.belO]⟩⟩
 · omega
 · omega
 iterate 19 kernel_rfl
 apply qf (decide_eq_false hb4)
 refine bn 0 kq kq ?_
 apply ae
 apply ae
 apply ay
 apply ab
 apply qz [(1,.fn (.func 103) [] [.ptr 2 0,.ptr 4 0]),(2,.ptr 5 0)]
 apply qU 3 [(1,.fn (.func 103) [] [.ptr 2 0,.ptr 4 0]),(2,.ptr 5 0),(25,.bool ((t.kind)==5))]
 apply qf (beq_eq_false_iff_ne.2 hb1)
 apply qk
 refine aM (l:=[]) jq kq eM eM eM ?_ ?_
 refine Eq.trans (b:=[bS lv,mS m,pB,u.bx,.box [.bool ((((b) && vOk m t)) && cr m (t.kids.take k))]]) kq ?_
 rotate_left
 · simp [af.belO,hpH,Ty.v]
 iterate 22 kernel_rfl
 all_goals
  refine congrArg (hpH lv m u) ?_
  rw [E6,List.take_of_length_le oq]
  first|(rw [Bool.and_assoc];done)|(rw [Bool.and_assoc,Bool.and_comm (cr m t.kids)];done)
noncomputable def c64:Code:=aB Tryz.f64
theorem EG {p:Prop} (h:p:=by simp [af.belO,hpH,hpS,Ty.v]):p:=h
theorem qq (t:Ty) (lv:Int) (m:St) (hs:t.sz<100000000) (hm:dn m):ar cx 64 [.ptr 0 0,Ty.v t] (hpS lv m) (fun v h=>v=(.bool (cT m t))∧h=hpS lv m):=by
 refine am (cx:=cx) 12 2 [(ResultVar.tmp 4)] Tryz.func64 rfl rfl rfl rfl rfl zq ?_
 show wpA cx 12 2 (at_ c64 []) _ _ _
 apply qZ [(0,.ptr 0 0),(1,Ty.v t)] [bS lv,mS m]
 apply qW 3 [(2,.ptr 2 0),(3,.ptr 3 0)] [bS lv,mS m,pB,t.bx]
 apply qV 1
 refine bR (args:=[aG t]) kq kq kq kq (wA t oq) (by simp [Ty.v,bo,Occ.v]) (by simp [Ty.v]) (by simp [Ty.v,bh]) ?_
 apply qR 2 [(2,.ptr 2 0),(3,.ptr 3 0),(5,.ptr 4 0)] [bS lv,mS m,pB,t.bx,.box [.bool (fC t)]]
 apply qV 2
 refine aT (args:=[aG t,.fn (.func 103) [] [.ptr 2 0,.ptr 4 0]]) (hs:=[bS lv,mS m,pB,t.bx,.box [.bool (fC t)]]) (hs':=[.box [.int .i64 ((lv)),.map 1],mS m,pB,t.bx,.box [.bool (((fC t) && i3 m t))]]) (aO:=[]) kq kq kq kq kq (wH t t (lv) m (fC t) oq oq) EG EG rfl EG EG kq ?_
 apply qN [(5,.ptr 4 0)] [.box [.int .i64 ((lv)),.map 1],mS m,pB,t.bx,.box [.bool (((fC t) && i3 m t))]]
 apply qU 2 [(4,.bool (((fC t) && i3 m t)))]
 refine a8 kq ?_
 refine aM (l:=[.bool (((fC t) && i3 m t))]) iq kq (by simp [aK,cT]) eM eM ?_ ?_
 refine Eq.trans (b:=[.box [.int .i64 ((lv)),.map 1],mS m]) kq ?_
 · rfl
 · simp [af.belO,hpH,hpS,Ty.v]
 iterate 7 kernel_rfl
noncomputable def c21:Code:=aB Tryz.f21
theorem FO  :ar cx 21 [] [] (fun v h=>v=.ptr 1 0∧h=[mS ([]:St),.box [.int .i64 0,.map 0]]):=by
 refine dN (cx:=cx) 4 0 [(ResultVar.tmp 0)] Tryz.func21 rfl rfl rfl rfl rfl zq ?_
 show wpA cx 4 0 (at_ c21 []) _ _ _
 apply qZ [] []
 apply qU 1 []
 apply qW 4 [(0,.ptr 1 0)] [mS ([]:List (Int×Vr)),.box [.int .i64 0,.map 0]]
 refine a8 kq ?_
 refine ee (l:=[.ptr 1 0]) 2 [mS ([]:List (Int×Vr)),.box [.int .i64 0,.map 0]] iq kq (Nat.zero_le _) kq (by simp [aK,-List.map_append,-List.map_take,-List.map_drop,-List.append_assoc]) (by simp [af.belO,-List.map_append,-List.map_take,-List.map_drop,-List.append_assoc]) ?_
 · exact ⟨rfl,rfl⟩
 iterate 3 kernel_rfl
noncomputable def c80:Code:=aB Tryz.f80
theorem nz (x:Vr) (lv:Int) (m:St) (hml:m.length<100000000):ar cx 80 [.ptr 0 0,Vr.v x] [bS lv,mS m] (fun v h=>v=(.int .i64 (((m.length+1):Nat):Int))∧h=[bS lv,mS (aI ((((m.length+1):Nat):Int)) x m)]):=by
 refine am (cx:=cx) 19 2 [(ResultVar.tmp 4)] Tryz.func80 rfl rfl rfl rfl rfl zq ?_
 show wpA cx 19 2 (at_ c80 []) _ _ _
 apply qZ [(0,.ptr 0 0),(1,Vr.v x)] [bS lv,mS m]
 apply qW 2 [(0,.ptr 0 0),(3,.ptr 2 0)] [bS lv,mS m,vrB x]
 apply qV 4
 refine qy (He (o:=1) (ek:=iE) (ev:=Vr.v) (l:=m) kq ip kq) ?_ ?_ ?_
 refine qy (aN (a:=((m.length:Nat):Int)) (b:=1) kq oq oq) ?_ ?_ ?_
 apply qR 1 [(0,.ptr 0 0),(3,.ptr 2 0),(5,nI (m.length+1))] [bS lv,mS m,vrB x]
 apply ao
 refine cR cxM kq aJ (bq ?_)
 apply qu 6
 refine qD (dC (o:=1) (ek:=iE) (ev:=Vr.v) (l:=m) (k:=(((m.length+1):Nat):Int)) (x:=(Vr.mk (x.row) (x.lv) (x.bd) x.val x.names)) df kq ip ty3 rfl kq kq) ?_ ?_ ?_ ?_
 refine cq kq ⟨kq,?_⟩
 apply ab
 apply qZ [(5,nI (m.length+1))] [bS lv,mS (aI (((m.length+1):Nat):Int) (Vr.mk (x.row) (x.lv) (x.bd) x.val x.names) m),vrB x]
 apply qU 2 [(4,nI (m.length+1))]
 refine a8 kq ?_
 refine aM (l:=[.int .i64 (((m.length+1):Nat):Int)]) iq kq (by simp [aK]) (by simp [aK]) (by simp [aK]) ?_ ?_
 refine Eq.trans (b:=[bS lv,mS (aI (((m.length+1):Nat):Int) (Vr.mk (x.row) (x.lv) (x.bd) x.val x.names) m)]) kq ?_
 · rfl
 · simp [af.belO,Vr.v]
 iterate 15 kernel_rfl
theorem DJ (lv:Int) (m:St) (hml:m.length<100000000):ar cx 80 [.ptr 0 0,.agg [.bool false,.int .i64 (lv),.bool false,.int .i64 0,.str [],.int .i64 0,.full [],.full [],.full []]] [bS lv,mS m] (fun v h=>v=(.int .i64 ((((m.length+1):Nat)):Int))∧h=[bS lv,mS (aI ((((m.length+1):Nat):Int)) ⟨false,lv,false,Ty.zero,[]⟩ m)]):=by
 refine gF ?_
 have:=nz ⟨false,lv,false,Ty.zero,[]⟩ lv m hml
 simpa [bf,cd,aV,aa.frz,aa.owns,Vr.v,Ty.zero] using this
noncomputable def c33:Code:=aB Tryz.f33
theorem uV (lv:Int) (m:St) (hml:m.length<100000000):ar cx 33 [.ptr 0 0] [bS lv,mS m] (fun v h=>v=(.agg [.int .i64 6,.str [],.int .i64 (((m.length+1):Nat):Int),.imm [],.imm []])∧h=[bS lv,mS (aI ((((m.length+1):Nat):Int)) ⟨false,lv,false,Ty.zero,[]⟩ m)]):=by
 refine am (cx:=cx) 11 2 [(ResultVar.cell 2 25)] Tryz.func33 rfl rfl rfl rfl rfl zq ?_
 show wpA cx 11 2 (at_ c33 []) _ _ _
 apply qZ [(0,.ptr 0 0)] [bS lv,mS m]
 apply qW 1 [(0,.ptr 0 0),(2,.ptr 2 0)] [bS lv,mS m,.box zC]
 apply qV 6
 refine aT (args:=[.ptr 0 0,.agg [.bool false,.int .i64 (lv),.bool false,.int .i64 0,.str [],.int .i64 0,.full [],.full [],.full []]]) (hs:=[bS lv,mS m]) (hs':=[bS lv,mS (aI ((((m.length+1):Nat):Int)) ⟨false,(lv),false,Ty.zero,[]⟩ m)]) (aO:=[.box zC]) kq kq kq kq kq (DJ (lv) m oq) (by simp [af.belO]) (by simp [af.belO]) rfl (by simp [af.belO]) (by simp [af.belO]) kq ?_
 refine qR 2 [(2,.ptr 2 0)] [bS lv,mS (aI ((((m.length+1):Nat):Int)) ⟨false,(lv),false,Ty.zero,[]⟩ m),.box [.int .i64 6,.str [],nI (m.length+1),.full [],.full []]] ?_ ?_
 refine a8 kq ?_
 refine aM (l:=[.agg [.int .i64 6,.str [],.int .i64 (((m.length+1):Nat):Int),.full [],.full []]]) iq kq (by simp [aK,aa.frz,bf]) (by simp [aK]) (by simp [aK]) ?_ ?_
 refine Eq.trans (b:=[bS lv,mS (aI ((((m.length+1):Nat):Int)) ⟨false,(lv),false,Ty.zero,[]⟩ m)]) kq ?_
 · rfl
 · simp [af.belO]
 iterate 4 kernel_rfl
noncomputable def c23:Code:=aB Tryz.f23
noncomputable def c37:Code:=aB Tryz.f37
noncomputable def c24:Code:=aB Tryz.f24
noncomputable def c38:Code:=aB Tryz.f38
noncomputable def c36:Code:=aB Tryz.f36
@[simp] theorem G4 (k:Nat) (x:Vr):x.v.bel k=true:=by simp [Vr.v]
@[simp] theorem FC (k:Nat):∀ l:List Vr,bN k (l.map Vr.v)=true
 | []=>rfl
 | x::l=>by simp [bN,FC k l]
theorem Gr (x:Vr):x.v.refs=[]:=jR _ (G4 0 x)
theorem Fc (l:St):(av iE Vr.v l).flatMap (fun e=>e.1.refs++e.2.refs)=[]:=by
 rw [List.flatMap_eq_nil_iff]
 intro e he
 obtain ⟨p,_,rfl⟩:=List.mem_map.1 he
 simp [aa.refs,Gr]
theorem Gq (r:Nat→Nat) (l:St):j9 r (av iE Vr.v l)=av iE Vr.v l:=kM (k:=0) (fun i hi=>by omega) _ (AW 0 l)
def m1:St:=[(1,⟨false,0,false,Ty.zero,[]⟩)]
def vT:Ty:=.mk 6 [] 1 [] []
def lsT (t:Ty):Ty:=.mk 4 [] 0 [] [t]
mutual
theorem beq_refl:∀ a:Ty,a.beq a=true
 | .mk k x n l ks=>by rw [Ty.beq];simp [sU ks]
theorem sU:∀ a:List Ty,Ty.beqL a a=true
 | []=>rfl
 | x::a=>by
  simp only [Ty.beqL,Bool.and_eq_true]
  exact ⟨beq_refl x,sU a⟩
end
noncomputable def c28:Code:=aB Tryz.f28
theorem Cy (t:Ty) :aC cx 28 [Ty.v t] (Ty.v (lsT t)):=by
 refine am (cx:=cx) 6 0 [(ResultVar.cell 2 25)] Tryz.func28 rfl rfl rfl rfl rfl zq ?_
 show wpA cx 6 0 (at_ c28 []) _ _ _
 apply qZ [(0,Ty.v t)] []
 apply qW 2 [(1,.ptr 0 0),(2,.ptr 1 0)] [t.bx,.box zC]
 apply qW 4 [(2,.ptr 1 0)] [t.bx,.box [.int .i64 4,.str [],.int .i64 0,.full [],.full [aG t]]]
 refine a8 kq ?_
 refine fk (l:=[.agg [.int .i64 4,.str [],.int .i64 0,.full [],.full [aG t]]]) iq kq ?_
 · simp [aK,aa.frz,bf,lsT,Ty.v,Ty.kind,Ty.name,Ty.n,Ty.names,Ty.kids,Ty.enc_v]
 iterate 3 kernel_rfl
theorem gd {t:Ty} {n:Int}:n∈aw [] t↔n∈ch t:=by
 show n∈(ch t).foldl cP []↔_
 rw [ko];simp
inductive Gt:Ty→Prop
 | leaf (k:Int) (x:List UInt8) (h4:k≠4) (h5:k≠5) (h6:k≠6):Gt (.mk k x 0 [] [])
 | list (t:Ty) (h:Gt t):Gt (.mk 4 [] 0 [] [t])
 | var (n:Int) (h:0<n):Gt (.mk 6 [] n [] [])
 | rcd (n:Int) (ns:List (List UInt8)) (ks:List Ty) (h0:0≤n) (hs:ns.Pairwise (fun a b=>a<b)) (hl:ns.length=ks.length) (hk:∀ k∈ks,Gt k):Gt (.mk 5 [] n ns ks)
def fg (s:List UInt8) (t:Ty):Option Ty:=ai s (t.names.zip t.kids)
theorem gC {κ α:Type} [DecidableEq κ] {k:κ} {x:α}:∀ {l:List (κ×α)},ai k l=some x→(k,x)∈l
 | [],h=>by simp [ai] at h
 | p::l,h=>by
  rw [ai] at h
  split at h
  · rename_i e;cases h;subst e;exact List.mem_cons_self
  · exact List.mem_cons_of_mem _ (gC h)
theorem cX {κ α:Type} [DecidableEq κ] {k:κ}:∀ {l:List (κ×α)},(ai k l).isSome=true↔k∈l.map Prod.fst
 | []=>by simp [ai]
 | p::l=>by
  rw [ai]
  by_cases e:k=p.1
  · rw [if_pos e];simp [e]
  · rw [if_neg e,cX];simp [e]
theorem km {κ α:Type} [DecidableEq κ] {k:κ} {x:α}:∀ {l:List (κ×α)},(l.map Prod.fst).Nodup→(k,x)∈l→ai k l=some x
 | [],_,h=>by simp at h
 | p::l,hn,h=>by
  rw [List.map_cons,List.nodup_cons] at hn
  rw [ai]
  rcases List.mem_cons.1 h with rfl|h
  · rw [if_pos rfl]
  · rw [if_neg,km hn.2 h]
    intro e
    exact hn.1 (e▸List.mem_map_of_mem (f:=Prod.fst) h)
theorem du {α β:Type}:∀ {a:List α} {b:List β},a.length=b.length→(a.zip b).map Prod.fst=a
 | [],_,_=>rfl
 | x::a,y::b,h=>by simp only [List.zip_cons_cons,List.map_cons,du (a:=a) (b:=b) (by simpa using h)]
 | x::a,[],h=>by simp at h
theorem aE {l:List (List UInt8)} (h:l.Pairwise (fun a b=>a<b)):l.Nodup:=h.imp fun {a b} h=>by rintro rfl;exact absurd h (List.lt_irrefl a)
theorem b3 {s:List UInt8} {t:Ty} (hl:t.names.length=t.kids.length):fg s t=none↔s∉t.names:=by
 have:=cX (k:=s) (l:=t.names.zip t.kids)
 rw [du hl] at this
 unfold fg
 rw [← this];simp
theorem dP {s:List UInt8} {t:Ty} (hl:t.names.length=t.kids.length) (h:s∈t.names):∃ x,fg s t=some x:=by
 have:=cX (k:=s) (l:=t.names.zip t.kids)
 rw [du hl] at this
 exact Option.isSome_iff_exists.1 (this.2 h)
theorem gG {s:List UInt8} {t x:Ty} (h:fg s t=some x):x∈t.kids:=(List.of_mem_zip (gC h)).2
theorem mt {s:List UInt8} {t x:Ty} (h:fg s t=some x):s∈t.names:=(List.of_mem_zip (gC h)).1
theorem yO {t x:Ty} (hn:t.names.Nodup) (hl:t.names.length=t.kids.length) (h:x∈t.kids):∃ s,fg s t=some x:=by
 obtain ⟨i,hi,e⟩:=List.getElem_of_mem h
 have hz:i<(t.names.zip t.kids).length:=by rw [List.length_zip];omega
 have hm:(t.names.zip t.kids)[i]∈t.names.zip t.kids:=List.getElem_mem hz
 rw [List.getElem_zip,e] at hm
 exact ⟨t.names[i],km (by rw [du hl];exact hn) hm⟩
theorem Gt.sorted {t:Ty} (h:Gt t) (h5:t.kind=5):t.names.Pairwise (fun a b=>a<b)∧t.names.length=t.kids.length∧t.name=[]∧0≤t.n∧∀ k∈t.kids,Gt k:=by
 cases h with
 | leaf k x h4 h5' h6=>exact absurd h5 h5'
 | list t h=>simp at h5
 | var n h=>simp at h5
 | rcd n ns ks h0 hs hl hk=>exact ⟨hs,hl,rfl,h0,hk⟩
theorem eu {a b:Ty} (ha:Gt a) (hb:Gt b) (ka:a.kind=5) (kb:b.kind=5) (hn:a.n=b.n) (hf:∀ s,fg s a=fg s b):a=b:=by
 obtain ⟨sa,la,na,_,_⟩:=ha.sorted ka
 obtain ⟨sb,lb,nb,_,_⟩:=hb.sorted kb
 have hm:∀ s,s∈a.names↔s∈b.names:=by
  intro s
  have h1:=b3 (s:=s) la
  have h2:=b3 (s:=s) lb
  rw [hf s] at h1
  constructor
  · intro h;exact Classical.byContradiction fun h'=>(h1.1 (h2.2 h')) h
  · intro h;exact Classical.byContradiction fun h'=>(h2.1 (h1.2 h')) h
 have hnm:a.names=b.names:=by
  have hp:a.names.Perm b.names:=(List.perm_ext_iff_of_nodup (aE sa) (aE sb)).2 hm
  exact List.Perm.eq_of_pairwise (le:=fun a b=>a<b) (fun x y _ _ h1 h2=>absurd (List.lt_trans h1 h2) (List.lt_irrefl _)) sa sb hp
 have hk:a.kids=b.kids:=by
  have hnl:a.names.length=b.names.length:=by rw [hnm]
  refine List.ext_getElem oq fun i h1 h2=>?_
  have hi:i<a.names.length:=by omega
  have hi':i<b.names.length:=by omega
  have e1:fg a.names[i] a=some a.kids[i]:=km (by rw [du la];exact aE sa) (by have:=List.getElem_mem (l:=a.names.zip a.kids) (n:=i) (by rw [List.length_zip];omega);rwa [List.getElem_zip] at this)
  have e2:fg b.names[i] b=some b.kids[i]:=km (by rw [du lb];exact aE sb) (by have:=List.getElem_mem (l:=b.names.zip b.kids) (n:=i) (by rw [List.length_zip];omega);rwa [List.getElem_zip] at this)
  have e3:a.names[i]=b.names[i]:=by simp only [hnm]
  rw [hf,e3,e2] at e1
  exact (Option.some.inj e1).symm
 rw [← Ty.eta a,← Ty.eta b,ka,kb,na,nb,hn,hnm,hk]
def dr (l:Fd) (t:Ty):Fd:=(t.names.zip t.kids).foldl (fun l p=>aI p.1 p.2 l) l
theorem ti {s:List UInt8}:∀ (z:Fd) (l:Fd),(z.map Prod.fst).Nodup→ai s (z.foldl (fun l p=>aI p.1 p.2 l) l)=(ai s z).orElse fun _=>ai s l
 | [],l,_=>rfl
 | p::z,l,h=>by
  rw [List.map_cons,List.nodup_cons] at h
  rw [List.foldl_cons,ti z _ h.2,ai,aP]
  by_cases e:s=p.1
  · rw [if_pos e,if_pos e]
    have:ai s z=none:=by
     cases hm:ai s z with
     | none=>rfl
     | some x=>exact absurd (cX.1 (by rw [hm];rfl)) (e▸h.1)
    rw [this];rfl
  · rw [if_neg e,if_neg e]
theorem iT {s:List UInt8} {l:Fd} {t:Ty} (hn:t.names.Nodup) (hl:t.names.length=t.kids.length):ai s (dr l t)=(fg s t).orElse fun _=>ai s l:=ti _ _ (by rw [du hl];exact hn)
theorem pP:∀ (z l:Fd),(l.map Prod.fst).Nodup→((z.foldl (fun l p=>aI p.1 p.2 l) l).map Prod.fst).Nodup
 | [],l,h=>h
 | p::z,l,h=>by
  rw [List.foldl_cons]
  refine pP z _ ?_
  rw [fU]
  split
  · exact h
  · rename_i hm
    rw [List.nodup_append]
    exact ⟨h,by simp,fun a ha b hb=>by simp only [List.mem_singleton] at hb;subst hb;rintro rfl;exact hm ha⟩
theorem dv {l:Fd} (t:Ty) (h:(l.map Prod.fst).Nodup):((dr l t).map Prod.fst).Nodup:=pP _ _ h
theorem nT {q:List UInt8×Ty}:∀ (z l:Fd),q∈z.foldl (fun l p=>aI p.1 p.2 l) l→q∈z∨q∈l
 | [],l,h=>.inr h
 | p::z,l,h=>by
  rw [List.foldl_cons] at h
  rcases nT z _ h with h|h
  · exact .inl (List.mem_cons_of_mem _ h)
  · have:∀ l:Fd,q∈aI p.1 p.2 l→q=p∨q∈l:=by
     intro l
     induction l with
     | nil=>intro h;simp only [aI,List.mem_singleton] at h;exact .inl (h.trans (by cases p;rfl))
     | cons r l ih =>
      intro h
      rw [aI] at h
      split at h
      · rcases List.mem_cons.1 h with h|h
        · exact .inl (h.trans (by cases p;rfl))
        · exact .inr (List.mem_cons_of_mem _ h)
      · rcases List.mem_cons.1 h with h|h
        · exact .inr (h▸List.mem_cons_self)
        · rcases ih h with h|h
          · exact .inl h
          · exact .inr (List.mem_cons_of_mem _ h)
    rcases this l h with h|h
    · exact .inl (h▸List.mem_cons_self)
    · exact .inr h
theorem d7 {q:List UInt8×Ty} {l:Fd} {t:Ty} (h:q∈dr l t):(q.1∈t.names∧q.2∈t.kids)∨q∈l:=by
 rcases nT _ _ h with h|h
 · exact .inl (List.of_mem_zip h)
 · exact .inr h
theorem mu {l:List (List UInt8)} (h:l.Nodup):(aD l).Pairwise (fun a b=>a<b):=by
 have h1:=jg l
 have h2:(aD l).Nodup:=(bU l).nodup_iff.2 h
 refine (List.Pairwise.and h1 h2).imp fun {a b} hh=>?_
 have h3:=hh.1
 simp only [leB,decide_eq_true_eq] at h3
 rcases List.le_iff_lt_or_eq.1 h3 with h|h
 · exact h
 · exact absurd h hh.2
theorem eC (l:Fd) (n:Int):(recT l n).names=aD (l.map Prod.fst):=rfl
theorem dw (l:Fd) (n:Int):(recT l n).kids=(aD (l.map Prod.fst)).map fun s=>(ai s l).getD Ty.zero:=by
 show cb l _=_
 rw [cb,List.take_length]
theorem pa {l:Fd} {n:Int} {s:List UInt8} (h:(l.map Prod.fst).Nodup):fg s (recT l n)=ai s l:=by
 have hl:(recT l n).names.length=(recT l n).kids.length:=by rw [eC,dw,List.length_map]
 by_cases hs:s∈l.map Prod.fst
 · have hs':s∈aD (l.map Prod.fst):=(bU _).mem_iff.2 hs
   obtain ⟨i,hi,e⟩:=List.getElem_of_mem hs'
   have hz:i<((recT l n).names.zip (recT l n).kids).length:=by rw [List.length_zip,← hl,eC];omega
   have hm:=List.getElem_mem hz
   rw [List.getElem_zip] at hm
   simp only [eC,dw,List.getElem_map] at hm
   have hfst:((recT l n).names.zip (recT l n).kids).map Prod.fst=aD (l.map Prod.fst):=du hl
   have:=km (k:=s) (x:=(ai s l).getD Ty.zero) (l:=(recT l n).names.zip (recT l n).kids) (by rw [hfst];exact aE (mu h)) (by rw [eC,dw];rw [e] at hm;exact hm)
   unfold fg
   rw [this]
   have h2:=cX.2 hs
   obtain ⟨x,hx⟩:=Option.isSome_iff_exists.1 h2
   rw [hx];rfl
 · have h1:ai s l=none:=by
    cases hm:ai s l with
    | none=>rfl
    | some x=>exact absurd (cX.1 (by rw [hm];rfl)) hs
   rw [h1,b3 hl,eC,(bU _).mem_iff]
   exact hs
theorem ug {l:Fd} {n:Int} (h:(l.map Prod.fst).Nodup) (h0:0≤n) (hk:∀ p∈l,Gt p.2):Gt (recT l n):=by
 have:=dw l n
 refine .rcd n _ _ h0 (mu h) (by show _=(recT l n).kids.length;rw [this,List.length_map]) fun k hm=>?_
 have hm:k∈(recT l n).kids:=hm
 rw [this] at hm
 obtain ⟨s,hs,rfl⟩:=List.mem_map.1 hm
 have h2:=cX.2 ((bU _).mem_iff.1 hs)
 obtain ⟨x,hx⟩:=Option.isSome_iff_exists.1 h2
 rw [hx]
 exact hk _ (gC hx)
def mrg (a b:Ty):Ty:=recT (dr (dr [] a) b) b.n
theorem xl (a b:Ty):((dr (dr [] a) b).map Prod.fst).Nodup:=dv b (dv a zq)
theorem yg {a b:Ty} {s:List UInt8} (ha:a.names.Nodup) (la:a.names.length=a.kids.length) (hb:b.names.Nodup) (lb:b.names.length=b.kids.length):fg s (mrg a b)=(fg s b).orElse fun _=>fg s a:=by
 rw [mrg,pa (xl a b),iT hb lb,iT ha la]
 congr 1
 funext _
 simp [ai]
theorem D8 {a b:Ty} (h0:0≤b.n) (ha:∀ k∈a.kids,Gt k) (hb:∀ k∈b.kids,Gt k):Gt (mrg a b):=by
 refine ug (xl a b) h0 fun p hp=>?_
 rcases d7 hp with h|h
 · exact hb _ h.2
 · rcases d7 h with h|h
   · exact ha _ h.2
   · simp at h
@[simp] theorem Ka (a b:Ty):(mrg a b).n=b.n:=rfl
@[simp] theorem Db (a b:Ty):(mrg a b).kind=5:=rfl
theorem F0 {a b k:Ty} (h:k∈(mrg a b).kids):k∈a.kids∨k∈b.kids:=by
 rw [mrg,dw] at h
 obtain ⟨s,hs,rfl⟩:=List.mem_map.1 h
 have h2:=cX.2 ((bU _).mem_iff.1 hs)
 obtain ⟨x,hx⟩:=Option.isSome_iff_exists.1 h2
 rw [hx]
 rcases d7 (gC hx) with h|h
 · exact .inr h.2
 · rcases d7 h with h|h
   · exact .inl h.2
   · simp at h
mutual
def sub (σ:Int→Ty):Ty→Ty
 | .mk k x n l ks=>if k=6 then σ n else if k=5∧n≠0 then mrg (.mk 5 [] 0 l (nO σ ks)) (σ n) else .mk k x n l (nO σ ks)
def nO (σ:Int→Ty):List Ty→List Ty
 | []=>[]
 | t::l=>sub σ t::nO σ l
end
theorem kn (σ:Int→Ty):∀ l,nO σ l=l.map (sub σ)
 | []=>rfl
 | t::l=>by rw [nO,kn σ l];rfl
theorem de (σ:Int→Ty) (x:List UInt8) (n:Int) (l:List (List UInt8)) (ks:List Ty):sub σ (.mk 6 x n l ks)=σ n:=by rw [sub,if_pos rfl]
theorem gS (σ:Int→Ty) {n:Int} (x:List UInt8) (l:List (List UInt8)) (ks:List Ty) (h:n≠0):sub σ (.mk 5 x n l ks)=mrg (.mk 5 [] 0 l (ks.map (sub σ))) (σ n):=by rw [sub,if_neg oq,if_pos ⟨rfl,h⟩,kn]
theorem bT (σ:Int→Ty) {k n:Int} (x:List UInt8) (l:List (List UInt8)) (ks:List Ty) (h6:k≠6) (h5:k=5→n=0):sub σ (.mk k x n l ks)=.mk k x n l (ks.map (sub σ)):=by rw [sub,if_neg h6,if_neg (fun h=>h.2 (h5 h.1)),kn]
theorem yC (σ:Int→Ty) (s:List UInt8) (k k':Int) (x x':List UInt8) (n n':Int) (l:List (List UInt8)) (ks:List Ty):fg s (.mk k x n l (ks.map (sub σ)))=(fg s (.mk k' x' n' l ks)).map (sub σ):=by
 show ai s (l.zip (ks.map (sub σ)))=(ai s (l.zip ks)).map (sub σ)
 induction l generalizing ks with
 | nil=>simp [ai]
 | cons a l ih =>
  cases ks with
  | nil=>simp [ai]
  | cons b ks =>
   simp only [List.map_cons,List.zip_cons_cons,ai]
   by_cases e:s=a
   · rw [if_pos e,if_pos e];rfl
   · rw [if_neg e,if_neg e,ih]
theorem sy {o:Occ} {t:Ty}:∀ {l:List Ty},t∈l→o∈az t→o∈aF l
 | [],h,_=>by simp at h
 | x::l,h,ho=>by
  rw [aF,List.mem_append]
  rcases List.mem_cons.1 h with rfl|h
  · exact .inl ho
  · exact .inr (sy h ho)
theorem sW {o:Occ}:∀ {l:List Ty},o∈aF l→∃ t∈l,o∈az t
 | [],h=>by simp [aF] at h
 | x::l,h=>by
  rw [aF,List.mem_append] at h
  rcases h with h|h
  · exact ⟨x,List.mem_cons_self,h⟩
  · obtain ⟨t,h1,h2⟩:=sW h;exact ⟨t,List.mem_cons_of_mem _ h1,h2⟩
theorem cB {o:Occ} {k:Int} {x:List UInt8} {n:Int} {l:List (List UInt8)} {ks:List Ty} {t:Ty} (h:t∈ks) (ho:o∈az t):o∈az (.mk k x n l ks):=by
 rw [az,List.mem_append,List.mem_append];exact .inl (.inr (sy h ho))
theorem cE {x:List UInt8} {n:Int} {l:List (List UInt8)} {ks:List Ty}:(⟨n,false,[]⟩:Occ)∈az (.mk 6 x n l ks):=by
 rw [az,List.mem_append,List.mem_append,if_pos rfl];exact .inl (.inl zq)
theorem cm {x:List UInt8} {n:Int} {l:List (List UInt8)} {ks:List Ty} (h:n≠0):(⟨n,true,l⟩:Occ)∈az (.mk 5 x n l ks):=by
 rw [az,List.mem_append];exact .inr (by rw [if_pos ⟨rfl,h⟩];simp)
theorem bD {o:Occ} {k:Int} {x:List UInt8} {n:Int} {l:List (List UInt8)} {ks:List Ty} (h:o∈az (.mk k x n l ks)):(k=6∧o=⟨n,false,[]⟩)∨(k=5∧n≠0∧o=⟨n,true,l⟩)∨∃ t∈ks,o∈az t:=by
 rw [az,List.mem_append,List.mem_append] at h
 rcases h with (h|h)|h
 · split at h
   · rename_i h6;exact .inl ⟨h6,by simpa using h⟩
   · simp at h
 · exact .inr (.inr (sW h))
 · split at h
   · rename_i h5;exact .inr (.inl ⟨h5.1,h5.2,by simpa using h⟩)
   · simp at h
def okG (σ:Int→Ty) (t:Ty):Prop:=∀ o∈az t,Gt (σ o.n)∧(o.row=true→(σ o.n).kind=5)
theorem okG.kid {σ:Int→Ty} {k:Int} {x:List UInt8} {n:Int} {l:List (List UInt8)} {ks:List Ty} (h:okG σ (.mk k x n l ks)) {t:Ty} (ht:t∈ks):okG σ t:=fun o ho=>h o (cB ht ho)
theorem eX {σ:Int→Ty} {t:Ty} (h:Gt t):okG σ t→Gt (sub σ t):=by
 induction h with
 | leaf k x h4 h5 h6=>intro _;rw [bT σ x [] [] h6 (fun h=>absurd h h5)];exact .leaf k x h4 h5 h6
 | list t h ih =>
  intro ho
  rw [bT σ _ _ _ dq dq]
  exact .list _ (ih (ho.kid List.mem_cons_self))
 | var n h=>intro ho;rw [de];exact (ho _ cE).1
 | rcd n ns ks h0 hs hl hk ih =>
  intro ho
  by_cases hn:n=0
  · rw [bT σ _ _ _ dq (fun _=>hn)]
    refine .rcd n ns _ h0 hs (by rw [List.length_map];exact hl) fun k hm=>?_
    obtain ⟨t,ht,rfl⟩:=List.mem_map.1 hm
    exact ih t ht (ho.kid ht)
  · rw [gS σ _ _ _ hn]
    have hg:=ho _ (cm hn)
    obtain ⟨s1,s2,s3,s4,s5⟩:=hg.1.sorted (hg.2 rfl)
    refine D8 s4 (fun k hm=>?_) s5
    obtain ⟨t,ht,rfl⟩:=List.mem_map.1 hm
    exact ih t ht (ho.kid ht)
theorem bG {σ:Int→Ty} {t:Ty} (h:t.kind≠6):(sub σ t).kind=t.kind:=by
 obtain ⟨k,x,n,l,ks⟩:=t
 simp only [Ty.kind_mk] at h ⊢
 by_cases h5:k=5∧n≠0
 · rw [h5.1,gS σ _ _ _ h5.2];rfl
 · rw [bT σ _ _ _ h (fun e=>Classical.byContradiction fun hn=>h5 ⟨e,hn⟩)];rfl
theorem dh {σ:Int→Ty} {t:Ty} (h:Gt t) (h5:t.kind=5) (ho:okG σ t) (s:List UInt8):fg s (sub σ t)=if t.n=0 then (fg s t).map (sub σ) else (fg s (σ t.n)).orElse fun _=>(fg s t).map (sub σ):=by
 obtain ⟨s1,s2,s3,s4,s5⟩:=h.sorted h5
 obtain ⟨k,x,n,l,ks⟩:=t
 simp only [Ty.kind_mk,Ty.names_mk,Ty.kids_mk] at h5 s1 s2 s4 s5
 subst h5
 by_cases hn:n=0
 · rw [Ty.n_mk,if_pos hn,bT σ _ _ _ dq (fun _=>hn)];exact yC σ s _ _ _ _ _ _ _ _
 · rw [Ty.n_mk,if_neg hn]
   have hg:=ho _ (cm hn)
   obtain ⟨r1,r2,r3,r4,r5⟩:=hg.1.sorted (hg.2 rfl)
   rw [gS σ _ _ _ hn,yg (a:=.mk 5 [] 0 l (ks.map (sub σ))) (aE s1) (by simpa using s2) (aE r1) r2]
   congr 1
   funext _
   exact yC σ s _ _ _ _ _ _ _ _
theorem d9 {σ:Int→Ty} {t:Ty} (h5:t.kind=5):(sub σ t).n=if t.n=0 then 0 else (σ t.n).n:=by
 obtain ⟨k,x,n,l,ks⟩:=t
 simp only [Ty.kind_mk] at h5
 subst h5
 by_cases hn:n=0
 · rw [Ty.n_mk,if_pos hn,bT σ _ _ _ dq (fun _=>hn)];exact hn
 · rw [Ty.n_mk,if_neg hn,gS σ _ _ _ hn];rfl
theorem bC {n:Int} {t:Ty}:n∈ch t↔∃ o∈az t,o.n=n:=by unfold ch;rw [List.mem_map]
mutual
theorem dA {σ τ:Int→Ty}:∀ (t:Ty),(∀ o∈az t,σ o.n=τ o.n)→sub σ t=sub τ t
 | .mk k x n l ks,h=>by
  have ih:=qS ks fun o ho=>h o (by rw [az,List.mem_append,List.mem_append];exact .inl (.inr ho))
  rw [sub,sub,ih]
  by_cases h6:k=6
  · subst h6
    rw [if_pos rfl,if_pos rfl]
    exact h ⟨n,false,[]⟩ cE
  · rw [if_neg h6,if_neg h6]
    by_cases h5:k=5∧n≠0
    · obtain ⟨rfl,hn⟩:=h5
      rw [if_pos ⟨rfl,hn⟩,if_pos ⟨rfl,hn⟩,h ⟨n,true,l⟩ (cm hn)]
    · rw [if_neg h5,if_neg h5]
theorem qS {σ τ:Int→Ty}:∀ (l:List Ty),(∀ o∈aF l,σ o.n=τ o.n)→nO σ l=nO τ l
 | [],_=>rfl
 | t::l,h=>by
  rw [nO,nO,dA t fun o ho=>h o (by rw [aF,List.mem_append];exact .inl ho),qS l fun o ho=>h o (by rw [aF,List.mem_append];exact .inr ho)]
end
theorem Fj {o:Occ} {a b:Ty} (h:o∈az (mrg a b)):(o.n=b.n∧b.n≠0∧o.row=true)∨(∃ t∈a.kids,o∈az t)∨(∃ t∈b.kids,o∈az t):=by
 rw [← Ty.eta (mrg a b)] at h
 rcases bD h with h|h|⟨t,ht,ho⟩
 · exact absurd h.1 (by rw [Db];decide)
 · exact .inl ⟨by rw [h.2.2];rfl,h.2.1,by rw [h.2.2]⟩
 · rcases F0 ht with h|h
   · exact .inr (.inl ⟨t,h,ho⟩)
   · exact .inr (.inr ⟨t,h,ho⟩)
theorem cI {t:Ty} (h5:t.kind=5) (hn:t.n≠0):(⟨t.n,true,t.names⟩:Occ)∈az t:=by
 obtain ⟨k,x,n,l,ks⟩:=t
 simp only [Ty.kind_mk,Ty.n_mk] at *
 subst h5
 exact cm hn
theorem iJ {o:Occ} {t k:Ty} (h:k∈t.kids) (ho:o∈az k):o∈az t:=by cases t;exact cB h ho
theorem uc {σ:Int→Ty} {t:Ty} (h:Gt t):okG σ t→∀ o∈az (sub σ t),∃ p∈az t,∃ q∈az (σ p.n),q.n=o.n∧q.row=o.row:=by
 induction h with
 | leaf k x h4 h5 h6 =>
  intro _ o ho
  rw [bT σ x [] [] h6 (fun h=>absurd h h5)] at ho
  rcases bD ho with h|h|⟨t,ht,_⟩
  · exact absurd h.1 h6
  · exact absurd h.1 h5
  · simp at ht
 | list t h ih =>
  intro hk o ho
  rw [bT σ _ _ _ dq dq] at ho
  rcases bD ho with h|h|⟨t',ht,ho⟩
  · exact absurd h.1 dq
  · exact absurd h.1 dq
  · simp only [List.map_cons,List.map_nil,List.mem_singleton] at ht
    subst ht
    obtain ⟨p,hp,q,hq⟩:=ih (hk.kid List.mem_cons_self) o ho
    exact ⟨p,cB List.mem_cons_self hp,q,hq⟩
 | var n h =>
  intro _ o ho
  rw [de] at ho
  exact ⟨_,cE,o,ho,rfl,rfl⟩
 | rcd n ns ks h0 hs hl hk ih =>
  intro hkk o ho
  have kids:∀ t'∈ks.map (sub σ),o∈az t'→∃ p∈az (Ty.mk 5 [] n ns ks),∃ q∈az (σ p.n),q.n=o.n∧q.row=o.row:=by
   intro t' ht' ho
   obtain ⟨t,ht,rfl⟩:=List.mem_map.1 ht'
   obtain ⟨p,hp,q,hq⟩:=ih t ht (hkk.kid ht) o ho
   exact ⟨p,cB ht hp,q,hq⟩
  by_cases hn:n=0
  · rw [bT σ _ _ _ dq (fun _=>hn)] at ho
    rcases bD ho with h|h|⟨t',ht,ho⟩
    · exact absurd h.1 dq
    · exact absurd hn h.2.1
    · exact kids t' ht ho
  · rw [gS σ _ _ _ hn] at ho
    have hg:=hkk _ (cm hn)
    rcases Fj ho with h|⟨t',ht,ho⟩|⟨t',ht,ho⟩
    · exact ⟨_,cm hn,_,cI (hg.2 rfl) h.2.1,h.1.symm,h.2.2.symm⟩
    · exact kids t' ht ho
    · exact ⟨_,cm hn,o,iJ ht ho,rfl,rfl⟩
theorem FSa {σ τ:Int→Ty} {t:Ty} (h:Gt t) (ht:okG τ t) (hs:∀ o∈az t,okG σ (τ o.n)):okG σ (sub τ t):=by
 intro o ho
 obtain ⟨p,hp,q,hq,e1,e2⟩:=uc h ht o ho
 have:=hs p hp q hq
 rwa [e1,e2] at this
theorem mv {σ τ:Int→Ty} {t:Ty} (h:Gt t):okG τ t→(∀ o∈az t,okG σ (τ o.n))→sub σ (sub τ t)=sub (fun n=>sub σ (τ n)) t:=by
 induction h with
 | leaf k x h4 h5 h6 =>
  intro _ _
  rw [bT τ x [] [] h6 (fun h=>absurd h h5),bT _ x [] [] h6 (fun h=>absurd h h5)]
  exact bT _ x [] _ h6 (fun h=>absurd h h5)
 | list t h ih =>
  intro h1 h2
  rw [bT τ _ _ _ dq dq,bT _ _ _ _ dq dq,bT _ _ _ _ dq dq]
  simp only [List.map_cons,List.map_nil]
  rw [ih (h1.kid List.mem_cons_self) fun o ho=>h2 o (cB List.mem_cons_self ho)]
 | var n h=>intro _ _;rw [de,de]
 | rcd n ns ks h0 hs hl hk ih =>
  intro h1 h2
  have kids:(ks.map (sub τ)).map (sub σ)=ks.map (sub fun n=>sub σ (τ n)):=by
   rw [List.map_map]
   exact List.map_congr_left fun t ht=>ih t ht (h1.kid ht) fun o ho=>h2 o (cB ht ho)
  by_cases hn:n=0
  · rw [bT τ _ _ _ dq (fun _=>hn),bT _ _ _ _ dq (fun _=>hn),bT _ _ _ _ dq (fun _=>hn),kids]
  · have hG:Gt (Ty.mk 5 [] n ns ks):=.rcd n ns ks h0 hs hl hk
    have g1:=eX hG h1
    have g2:=FSa hG h1 h2
    have g3:okG (fun n=>sub σ (τ n)) (Ty.mk 5 [] n ns ks):=fun o ho=>⟨eX (h1 o ho).1 (h2 o ho),fun hr=>by have:=(h1 o ho).2 hr;rw [bG (by rw [this];decide)];exact this⟩
    have hr:=h1 _ (cm hn)
    have h2r:=h2 _ (cm hn)
    have k1:(sub τ (Ty.mk 5 [] n ns ks)).kind=5:=by rw [bG zq];rfl
    have n1:(sub τ (Ty.mk 5 [] n ns ks)).n=(τ n).n:=by rw [d9 rfl,Ty.n_mk,if_neg hn]
    refine eu (eX g1 g2) (eX hG g3) (by rw [bG (by rw [k1];decide),k1]) (by rw [bG zq];rfl) ?_ fun s=>?_
    · have e3:=d9 (σ:=fun n=>sub σ (τ n)) (t:=Ty.mk 5 [] n ns ks) rfl
      rw [Ty.n_mk,if_neg hn] at e3
      rw [d9 k1,e3,n1,d9 (hr.2 rfl)]
    · have e:=dh hG rfl h1 s
      rw [Ty.n_mk,if_neg hn] at e
      rw [dh g1 k1 g2,dh hG rfl g3,Ty.n_mk,if_neg hn,n1,e,dh hr.1 (hr.2 rfl) h2r]
      have hm:(fg s (.mk 5 [] n ns ks)).map (sub fun n=>sub σ (τ n))=((fg s (.mk 5 [] n ns ks)).map (sub τ)).map (sub σ):=by
       cases hf:fg s (.mk 5 [] n ns ks) with
       | none=>rfl
       | some x =>
        have hx:=gG hf
        simp only [Option.map_some]
        rw [ih x hx (h1.kid hx) fun o ho=>h2 o (cB hx ho)]
      rw [hm]
      by_cases hb:(τ n).n=0
      · rw [if_pos hb,if_pos hb]
        cases fg s (τ n) <;> simp
      · rw [if_neg hb,if_neg hb]
        cases fg s (τ n) <;> cases fg s (σ (τ n).n) <;> simp
def idv (row:Bool) (n:Int):Ty:=if row=true then .mk 5 [] n [] [] else .mk 6 [] n [] []
theorem q9 {σ:Int→Ty} {t:Ty} (h:Gt t):(∀ o∈az t,σ o.n=idv o.row o.n)→sub σ t=t:=by
 induction h with
 | leaf k x h4 h5 h6=>intro _;rw [bT σ x [] [] h6 (fun h=>absurd h h5)];rfl
 | list t h ih =>
  intro ho
  rw [bT σ _ _ _ dq dq]
  simp only [List.map_cons,List.map_nil]
  rw [ih fun o h=>ho o (cB List.mem_cons_self h)]
 | var n h=>intro ho;rw [de];exact ho _ cE
 | rcd n ns ks h0 hs hl hk ih =>
  intro ho
  have kids:ks.map (sub σ)=ks:=by
   conv=>rhs;rw [← List.map_id ks]
   exact List.map_congr_left fun t ht=>ih t ht fun o h=>ho o (cB ht h)
  by_cases hn:n=0
  · rw [bT σ _ _ _ dq (fun _=>hn),kids]
  · have e:=ho _ (cm hn)
    rw [gS σ _ _ _ hn,kids]
    have e:σ n=Ty.mk 5 [] n [] []:=e
    rw [e]
    have hG:Gt (Ty.mk 5 [] n ns ks):=.rcd n ns ks h0 hs hl hk
    refine eu (D8 h0 hk zq) hG rfl rfl rfl fun s=>?_
    rw [yg (a:=.mk 5 [] 0 ns ks) (b:=.mk 5 [] n [] []) (aE hs) hl .nil rfl]
    rfl
def bdV (S:St) (n:Int):Option Ty:=match ai n S with
 | some x=>if x.bd=true then some x.val else none
 | none=>none
theorem fl {S:St} {n:Int} {v:Ty} (h:bdV S n=some v):∃ x,ai n S=some x∧x.bd=true∧x.val=v:=by
 unfold bdV at h
 split at h
 · rename_i x hx
   split at h
   · rename_i hb;cases h;exact ⟨x,hx,hb,rfl⟩
   · cases h
 · cases h
theorem bZ {S:St} {n:Int} {x:Vr} (h:bdV S n=none) (hx:ai n S=some x):x.bd=false:=by
 unfold bdV at h
 rw [hx] at h
 cases hb:x.bd with
 | false=>rfl
 | true=>simp [hb] at h
theorem ii {S:St} {n:Int} {x:Vr} (hx:ai n S=some x):bdV S n=if x.bd=true then some x.val else none:=by unfold bdV;rw [hx]
def tyS (S:St) (t:Ty):Prop:=Gt t∧∀ o∈az t,∃ x,ai o.n S=some x∧x.row=o.row∧(o.row=true→x.names=o.names)
structure rwS (S:St) (L:List (List UInt8)) (t:Ty):Prop where
 gt:Gt t
 k5:t.kind=5
 kids:∀ k∈t.kids,tyS S k
 apart:∀ s∈t.names,s∉L
 row:t.n≠0→∃ x,ai t.n S=some x∧x.row=true∧∀ s,s∈x.names↔s∈L∨s∈t.names
structure Wf (S:St):Prop where
 dom:∀ n,(ai n S).isSome=true↔1≤n∧n≤(S.length:Int)
 srt:∀ n x,ai n S=some x→x.names.Pairwise (fun a b=>a<b)
 tv:∀ n x,ai n S=some x→x.bd=true→x.row=false→tyS S x.val
 rv:∀ n x,ai n S=some x→x.bd=true→x.row=true→rwS S x.names x.val
theorem Wf.zero {S:St} (h:Wf S):ai 0 S=none:=by
 cases hm:ai 0 S with
 | none=>rfl
 | some x=>have:=(h.dom 0).1 (by rw [hm];rfl);omega
theorem Gt.kid_G {t k:Ty} (h:Gt t) (hk:k∈t.kids):Gt k:=by
 cases h with
 | leaf k x h4 h5 h6=>simp at hk
 | list t h=>simp at hk;subst hk;exact h
 | var n h=>simp at hk
 | rcd n ns ks h0 hs hl hg=>exact hg _ hk
theorem tyS.kid {S:St} {t k:Ty} (h:tyS S t) (hk:k∈t.kids):tyS S k:=⟨h.1.kid_G hk,fun o ho=>h.2 o (iJ hk ho)⟩
theorem tyS.toR {S:St} {t:Ty} (h:tyS S t) (h5:t.kind=5):rwS S [] t where
 gt:=h.1
 k5:=h5
 kids:=fun k hk=>h.kid hk
 apart:=fun s _=>by simp
 row:=fun hn=>by
  obtain ⟨x,h1,h2,h3⟩:=h.2 _ (cI h5 hn)
  exact ⟨x,h1,h2,fun s=>by rw [h3 rfl];simp⟩
structure Sol (S:St) (σ:Int→Ty):Prop where
 gt:∀ n x,ai n S=some x→Gt (σ n)
 row:∀ n x,ai n S=some x→x.row=true→(σ n).kind=5∧∀ s∈x.names,fg s (σ n)=none
 eqs:∀ n x,ai n S=some x→x.bd=true→σ n=sub σ x.val
theorem tyS.okG {S:St} {σ:Int→Ty} {t:Ty} (h:tyS S t) (hs:Sol S σ):okG σ t:=fun o ho=>by
 obtain ⟨x,h1,h2,_⟩:=h.2 o ho
 exact ⟨hs.gt _ x h1,fun hr=>(hs.row _ x h1 (h2.trans hr)).1⟩
theorem dU {o:Occ} {t:Ty} (h5:t.kind=5) (ho:o∈az t):(t.n≠0∧o=⟨t.n,true,t.names⟩)∨∃ k∈t.kids,o∈az k:=by
 obtain ⟨k,x,n,l,ks⟩:=t
 simp only [Ty.kind_mk] at h5
 subst h5
 rcases bD ho with h|h|h
 · exact absurd h.1 dq
 · exact .inl ⟨h.2.1,h.2.2⟩
 · exact .inr h
theorem rwS.okG {S:St} {σ:Int→Ty} {t:Ty} {L:List (List UInt8)} (h:rwS S L t) (hs:Sol S σ):okG σ t:=fun o ho=>by
 rcases dU h.k5 ho with ⟨hn,rfl⟩|⟨k,hk,ho⟩
 · obtain ⟨x,h1,h2,_⟩:=h.row hn
   exact ⟨hs.gt _ x h1,fun _=>(hs.row _ x h1 h2).1⟩
 · exact (h.kids k hk).okG hs o ho
theorem rwS.in {S:St} {t:Ty} {L:List (List UInt8)} (h:rwS S L t):∀ o∈az t,∃ x,ai o.n S=some x∧x.row=o.row:=fun o ho=>by
 rcases dU h.k5 ho with ⟨hn,rfl⟩|⟨k,hk,ho⟩
 · obtain ⟨x,h1,h2,_⟩:=h.row hn;exact ⟨x,h1,h2⟩
 · obtain ⟨x,h1,h2,_⟩:=(h.kids k hk).2 o ho;exact ⟨x,h1,h2⟩
inductive Dj (σ:Int→Ty):Ty→Prop
 | mk (t:Ty) (hr:t.kind=5→t.n≠0→∀ s∈t.names,fg s (σ t.n)=none) (hk:∀ k∈t.kids,Dj σ k):Dj σ t
theorem tyS.dj {S:St} {σ:Int→Ty} (hs:Sol S σ) {t:Ty} (hg:Gt t):(∀ o∈az t,∃ x,ai o.n S=some x∧x.row=o.row∧(o.row=true→x.names=o.names))→Dj σ t:=by
 induction hg with
 | leaf k x h4 h5 h6=>intro _;exact .mk _ (fun h=>absurd h h5) zq
 | list t h ih=>intro ho;exact .mk _ zq (fun k hk=>by simp at hk;subst hk;exact ih fun o h=>ho o (cB List.mem_cons_self h))
 | var n h=>intro _;exact .mk _ zq zq
 | rcd n ns ks h0 hs' hl hk ih =>
  intro ho
  refine .mk _ (fun _ hn s hs''=>?_) (fun k hk=>ih k hk fun o h=>ho o (cB hk h))
  obtain ⟨x,h1,h2,h3⟩:=ho _ (cm hn)
  exact (hs.row _ x h1 h2).2 s (by rw [h3 rfl];exact hs'')
theorem rwS.dj {S:St} {σ:Int→Ty} (hs:Sol S σ) {t:Ty} {L:List (List UInt8)} (h:rwS S L t):Dj σ t:=by
 refine .mk _ (fun _ hn s hs'=>?_) (fun k hk=>tyS.dj hs (h.kids k hk).1 (h.kids k hk).2)
 obtain ⟨x,h1,h2,h3⟩:=h.row hn
 exact (hs.row _ x h1 h2).2 s ((h3 s).2 (.inr hs'))
theorem mc {σ:Int→Ty} {t k:Ty} (hg:Gt t) (ho:okG σ t) (hd:t.kind=5→t.n≠0→∀ s∈t.names,fg s (σ t.n)=none) (h6:t.kind≠6) (hk:k∈t.kids):sub σ k∈(sub σ t).kids:=by
 cases hg with
 | leaf k x h4 h5 h6=>simp at hk
 | list t h=>simp at hk;subst hk;rw [bT σ _ _ _ dq dq];simp
 | var n h=>exact absurd rfl h6
 | rcd n ns ks h0 hs hl hk' =>
  by_cases hn:n=0
  · rw [bT σ _ _ _ dq (fun _=>hn)];exact List.mem_map_of_mem hk
  · obtain ⟨s,hf⟩:=yO (t:=Ty.mk 5 [] n ns ks) (aE hs) hl hk
    have e:=dh (σ:=σ) (.rcd n ns ks h0 hs hl hk') rfl ho s
    rw [Ty.n_mk,if_neg hn,hf,show fg s (σ n)=none from hd rfl hn s (mt hf)] at e
    exact gG e
theorem qE {σ:Int→Ty} {t k:Ty} (hg:Gt t) (ho:okG σ t) (h5:t.kind=5) (hn:t.n≠0) (hk:k∈(σ t.n).kids):k∈(sub σ t).kids:=by
 have hr:=ho _ (cI h5 hn)
 obtain ⟨r1,r2,_⟩:=hr.1.sorted (hr.2 rfl)
 obtain ⟨s,hf⟩:=yO (aE r1) r2 hk
 have e:=dh (σ:=σ) hg h5 ho s
 rw [if_neg hn,show fg s (σ t.n)=some k from hf] at e
 exact gG e
theorem Gt.occ_list {o:Occ} {t:Ty} (h:o∈az (Ty.mk 4 [] 0 [] [t])):o∈az t:=by
 rcases bD h with h|h|⟨t',ht,ho⟩
 · exact absurd h.1 dq
 · exact absurd h.1 dq
 · simp at ht;subst ht;exact ho
theorem ow {σ:Int→Ty} {t:Ty} (hg:Gt t):okG σ t→Dj σ t→∀ p∈az t,∀ q∈az (σ p.n),q.n∈ch (sub σ t):=by
 induction hg with
 | leaf k x h4 h5 h6 =>
  intro _ _ p hp
  rcases bD hp with h|h|⟨t',ht,ho⟩
  · exact absurd h.1 h6
  · exact absurd h.1 h5
  · simp at ht
 | list t h ih =>
  intro ho hd p hp q hq
  obtain ⟨_,hr,hk⟩:=hd
  have hp':=Gt.occ_list hp
  have:=ih (ho.kid List.mem_cons_self) (hk t zq) p hp' q hq
  rw [bT σ _ _ _ dq dq]
  obtain ⟨o,h1,h2⟩:=bC.1 this
  exact bC.2 ⟨o,cB (t:=sub σ t) zq h1,h2⟩
 | var n h =>
  intro _ _ p hp q hq
  rcases bD hp with h|h|⟨t',ht,ho⟩
  · rw [h.2] at hq;rw [de];exact bC.2 ⟨q,hq,rfl⟩
  · exact absurd h.1 dq
  · simp at ht
 | rcd n ns ks h0 hs hl hk ih =>
  intro ho hd p hp q hq
  obtain ⟨_,hr,hdk⟩:=hd
  have hG:Gt (Ty.mk 5 [] n ns ks):=.rcd n ns ks h0 hs hl hk
  rcases dU (t:=Ty.mk 5 [] n ns ks) rfl hp with ⟨hn,rfl⟩|⟨k,hk',ho'⟩
  · have hgr:=ho _ (cm hn)
    rcases dU (hgr.2 rfl) hq with ⟨hn',rfl⟩|⟨k,hk',ho'⟩
    · have e:=d9 (σ:=σ) (t:=Ty.mk 5 [] n ns ks) rfl
      rw [if_neg hn] at e
      have:=cI (t:=sub σ (Ty.mk 5 [] n ns ks)) (by rw [bG zq];rfl) (by rw [e];exact hn')
      exact bC.2 ⟨_,this,e⟩
    · have:=qE hG ho rfl hn hk'
      exact bC.2 ⟨q,iJ this ho',rfl⟩
  · have:=ih k hk' (ho.kid hk') (hdk k hk') p ho' q hq
    obtain ⟨o,h1,h2⟩:=bC.1 this
    exact bC.2 ⟨o,iJ (mc hG ho hr zq hk') h1,h2⟩
mutual
def hgt:Ty→Nat
 | .mk _ _ _ _ ks=>Ch ks
def Ch:List Ty→Nat
 | []=>0
 | t::l=>max (hgt t+1) (Ch l)
end
theorem zO {d:Nat}:∀ {l:List Ty},(∀ k∈l,hgt k+1≤d)→Ch l≤d
 | [],_=>Nat.zero_le _
 | t::l,h=>by rw [Ch];exact Nat.max_le.2 ⟨h t zq,zO fun k hk=>h k (by simp [hk])⟩
theorem wj {k:Ty}:∀ {l:List Ty},k∈l→hgt k+1≤Ch l
 | [],h=>by simp at h
 | t::l,h=>by
  rw [Ch]
  rcases List.mem_cons.1 h with rfl|h
  · exact Nat.le_max_left _ _
  · exact Nat.le_trans (wj h) (Nat.le_max_right _ _)
theorem pv {k t:Ty} (h:k∈t.kids):hgt k+1≤hgt t:=by cases t;exact wj h
theorem GR {t:Ty} {d:Nat} (h:∀ k∈t.kids,hgt k+1≤d):hgt t≤d:=by cases t;exact zO h
theorem FV {σ:Int→Ty} {t:Ty} (hg:Gt t):okG σ t→Dj σ t→∀ p∈az t,hgt (σ p.n)≤hgt (sub σ t):=by
 induction hg with
 | leaf k x h4 h5 h6 =>
  intro _ _ p hp
  rcases bD hp with h|h|⟨t',ht,ho⟩
  · exact absurd h.1 h6
  · exact absurd h.1 h5
  · simp at ht
 | list t h ih =>
  intro ho hd p hp
  obtain ⟨_,hr,hk⟩:=hd
  have:=ih (ho.kid List.mem_cons_self) (hk t zq) p (Gt.occ_list hp)
  have h2:=pv (mc (σ:=σ) (.list t h) ho zq zq (k:=t) zq)
  omega
 | var n h =>
  intro _ _ p hp
  rcases bD hp with h|h|⟨t',ht,ho⟩
  · rw [h.2,de];exact Nat.le_refl _
  · exact absurd h.1 dq
  · simp at ht
 | rcd n ns ks h0 hs hl hk ih =>
  intro ho hd p hp
  obtain ⟨_,hr,hdk⟩:=hd
  have hG:Gt (Ty.mk 5 [] n ns ks):=.rcd n ns ks h0 hs hl hk
  rcases dU (t:=Ty.mk 5 [] n ns ks) rfl hp with ⟨hn,rfl⟩|⟨k,hk',ho'⟩
  · exact GR fun k hk'=>pv (qE hG ho rfl hn hk')
  · have:=ih k hk' (ho.kid hk') (hdk k hk') p ho'
    have:=pv (mc hG ho hr zq hk')
    omega
structure Rv (S:St) (ρ:Int→Ty):Prop where
 sol:Sol S ρ
 free:∀ n x,ai n S=some x→x.bd=false→ρ n=idv x.row n
 fac:∀ σ,Sol S σ→∀ n x,ai n S=some x→σ n=sub σ (ρ n)
 occ:∀ n x,ai n S=some x→∀ o∈az (ρ n),∃ y,ai o.n S=some y∧y.row=o.row∧y.bd=false
 tail:∀ n x,ai n S=some x→x.row=true→(ρ n).n≠0→∃ y,ai (ρ n).n S=some y∧∀ s,s∈y.names↔s∈x.names∨s∈(ρ n).names
structure Gp (S:St) (τ:Int→Ty):Prop where
 gt:∀ n x,ai n S=some x→x.bd=false→Gt (τ n)
 row:∀ n x,ai n S=some x→x.bd=false→x.row=true→(τ n).kind=5∧∀ s∈x.names,fg s (τ n)=none
theorem Gp.okG {S:St} {τ:Int→Ty} (h:Gp S τ) {t:Ty} (ho:∀ o∈az t,∃ y,ai o.n S=some y∧y.row=o.row∧y.bd=false):okG τ t:=fun o hm=>by
 obtain ⟨y,h1,h2,h3⟩:=ho o hm
 exact ⟨h.gt _ y h1 h3,fun hr=>(h.row _ y h1 h3 (h2.trans hr)).1⟩
theorem Rv.comp {S:St} {ρ τ:Int→Ty} (wf:Wf S) (h:Rv S ρ) (ht:Gp S τ):Sol S (fun n=>sub τ (ρ n)) where
 gt:=fun n x hx=>eX (h.sol.gt n x hx) (ht.okG (h.occ n x hx))
 row:=fun n x hx hr=>by
  have hk:=(h.sol.row n x hx hr).1
  refine ⟨by rw [bG (by rw [hk];decide)];exact hk,fun s hs=>?_⟩
  have h1:=(h.sol.row n x hx hr).2 s hs
  rw [dh (h.sol.gt n x hx) hk (ht.okG (h.occ n x hx)),h1]
  split
  · rfl
  · rename_i hn
    obtain ⟨y,h2,h3⟩:=h.tail n x hx hr hn
    obtain ⟨y',h2',h4,h5⟩:=h.occ n x hx _ (cI hk hn)
    have h2':ai (ρ n).n S=some y':=h2'
    rw [h2] at h2'
    cases h2'
    have:=(ht.row _ y h2 h5 h4).2 s ((h3 s).2 (.inl hs))
    rw [this];rfl
 eqs:=fun n x hx hb=>by
  have hv:okG ρ x.val∧Gt x.val∧∀ o∈az x.val,∃ y,ai o.n S=some y∧y.row=o.row:=by
   cases hr:x.row with
   | true=>have:=wf.rv n x hx hb hr;exact ⟨this.okG h.sol,this.gt,this.in⟩
   | false=>have:=wf.tv n x hx hb hr;exact ⟨this.okG h.sol,this.1,fun o ho=>by obtain ⟨y,h1,h2,_⟩:=this.2 o ho;exact ⟨y,h1,h2⟩⟩
  show sub τ (ρ n)=_
  rw [h.sol.eqs n x hx hb,mv hv.2.1 hv.1]
  intro o ho
  obtain ⟨y,h1,h2⟩:=hv.2.2 o ho
  exact ht.okG (h.occ _ y h1)
theorem yP {S:St} {ρ σ:Int→Ty} (h:Rv S ρ) (hs:Sol S σ) {t:Ty} (hg:Gt t) (hi:∀ o∈az t,∃ y,ai o.n S=some y∧y.row=o.row):sub σ (sub ρ t)=sub σ t:=by
 rw [mv hg (fun o ho=>by obtain ⟨y,h1,h2⟩:=hi o ho;exact ⟨h.sol.gt _ y h1,fun hr=>(h.sol.row _ y h1 (h2.trans hr)).1⟩)]
 · exact dA _ fun o ho=>by obtain ⟨y,h1,h2⟩:=hi o ho;exact (h.fac σ hs _ y h1).symm
 · intro o ho p hp
   obtain ⟨y,h1,h2⟩:=hi o ho
   obtain ⟨z,h3,h4,h5⟩:=h.occ _ y h1 p hp
   exact ⟨hs.gt _ z h3,fun hr=>(hs.row _ z h3 (h4.trans hr)).1⟩
def Ext (S S':St):Prop:=∀ m x,ai m S=some x→∃ x',ai m S'=some x'∧x'.row=x.row∧x'.names=x.names
theorem Ext.refl (S:St):Ext S S:=fun _ x h=>⟨x,h,rfl,rfl⟩
theorem Ext.trans {S T U:St} (h:Ext S T) (k:Ext T U):Ext S U:=fun m x hx=>by
 obtain ⟨y,h1,h2,h3⟩:=h m x hx
 obtain ⟨z,k1,k2,k3⟩:=k m y h1
 exact ⟨z,k1,k2.trans h2,k3.trans h3⟩
theorem tyS.ext {S S':St} (he:Ext S S') {t:Ty} (h:tyS S t):tyS S' t:=⟨h.1,fun o ho=>by
 obtain ⟨x,h1,h2,h3⟩:=h.2 o ho
 obtain ⟨x',k1,k2,k3⟩:=he _ x h1
 exact ⟨x',k1,k2.trans h2,fun hr=>k3.trans (h3 hr)⟩⟩
theorem rwS.ext {S S':St} (he:Ext S S') {t:Ty} {L:List (List UInt8)} (h:rwS S L t):rwS S' L t where
 gt:=h.gt
 k5:=h.k5
 kids:=fun k hk=>(h.kids k hk).ext he
 apart:=h.apart
 row:=fun hn=>by
  obtain ⟨x,h1,h2,h3⟩:=h.row hn
  obtain ⟨x',k1,k2,k3⟩:=he _ x h1
  exact ⟨x',k1,k2.trans h2,fun s=>by rw [k3];exact h3 s⟩
structure Bnd (S S':St) (n:Int) (t:Ty):Prop where
 len:S'.length=S.length
 fw:∀ m x,ai m S=some x→∃ x',ai m S'=some x'∧x'.row=x.row∧x'.names=x.names∧(m=n→x'.bd=true∧x'.val=t)∧(m≠n→x'.bd=x.bd∧x'.val=x.val)
 bw:∀ m x',ai m S'=some x'→∃ x,ai m S=some x
theorem Bnd.ext {S S':St} {n:Int} {t:Ty} (h:Bnd S S' n t):Ext S S':=fun m x hx=>by
 obtain ⟨x',h1,h2,h3,_⟩:=h.fw m x hx;exact ⟨x',h1,h2,h3⟩
theorem Bnd.at {S S':St} {n m:Int} {t:Ty} {x':Vr} (h:Bnd S S' n t) (hx:ai m S'=some x'):∃ x,ai m S=some x∧x'.row=x.row∧x'.names=x.names∧(m=n→x'.bd=true∧x'.val=t)∧(m≠n→x'.bd=x.bd∧x'.val=x.val):=by
 obtain ⟨x,h1⟩:=h.bw m x' hx
 obtain ⟨y,h2,h3⟩:=h.fw m x h1
 rw [hx] at h2;cases h2
 exact ⟨x,h1,h3⟩
def Rk (S:St) (rk:Int→Nat):Prop:=∀ n x,ai n S=some x→x.bd=true→∀ o∈az x.val,rk o.n<rk n
theorem GE {r:Bool} {n:Int} (h:0<n):Gt (idv r n):=by
 cases r
 · exact .var n h
 · exact .rcd n [] [] oq .nil rfl zq
theorem uj {r:Bool} {n:Int} {o:Occ} (h:o∈az (idv r n)):o.n=n∧o.row=r:=by
 cases r
 · rcases bD (show o∈az (.mk 6 [] n [] []) from h) with h|h|⟨t,ht,_⟩
   · rw [h.2];exact ⟨rfl,rfl⟩
   · exact absurd h.1 dq
   · simp at ht
 · rcases bD (show o∈az (.mk 5 [] n [] []) from h) with h|h|⟨t,ht,_⟩
   · exact absurd h.1 dq
   · rw [h.2.2];exact ⟨rfl,rfl⟩
   · simp at ht
theorem uH {σ:Int→Ty} {r:Bool} {n:Int} (hn:n≠0) (hg:Gt (σ n)) (hr:r=true→(σ n).kind=5):sub σ (idv r n)=σ n:=by
 cases r
 · exact de σ [] n [] []
 · have h5:=hr rfl
   obtain ⟨s1,s2,s3,s4,s5⟩:=hg.sorted h5
   show sub σ (.mk 5 [] n [] [])=_
   rw [gS σ _ _ _ hn]
   refine eu (D8 s4 zq s5) hg rfl h5 rfl fun s=>?_
   rw [yg (a:=.mk 5 [] 0 [] (List.map (sub σ) [])) .nil rfl (aE s1) s2]
   cases fg s (σ n) <;> rfl
theorem rwS.nof {S:St} {σ:Int→Ty} {t:Ty} {L:List (List UInt8)} (h:rwS S L t) (hs:Sol S σ) {s:List UInt8} (hm:s∈L):fg s (sub σ t)=none:=by
 obtain ⟨s1,s2,_⟩:=h.gt.sorted h.k5
 have h0:fg s t=none:=(b3 s2).2 fun hm'=>h.apart s hm' hm
 rw [dh h.gt h.k5 (h.okG hs),h0]
 split
 · rfl
 · rename_i hn
   obtain ⟨y,h1,h2,h3⟩:=h.row hn
   rw [(hs.row _ y h1 h2).2 s ((h3 s).2 (.inl hm))];rfl
def CM (S:St) (n:Int):Bool:=match ai n S with
 | some x=>x.row
 | none=>false
theorem gl {S:St} {n:Int} {x:Vr} (h:ai n S=some x):CM S n=x.row:=by unfold CM;rw [h]
def one (S:St) (n:Int) (u:Ty):Int→Ty:=fun k=>if k=n then u else idv (CM S k) k
theorem tV {S:St} (wf:Wf S) {n:Int} {x:Vr} (hx:ai n S=some x) (hb:x.bd=true):Gt x.val∧∀ o∈az x.val,∃ y,ai o.n S=some y∧y.row=o.row:=by
 cases hr:x.row with
 | true=>have:=wf.rv n x hx hb hr;exact ⟨this.gt,this.in⟩
 | false=>have:=wf.tv n x hx hb hr;exact ⟨this.1,fun o ho=>by obtain ⟨y,h1,h2,_⟩:=this.2 o ho;exact ⟨y,h1,h2⟩⟩
def vV (S:St) (x:Vr) (t:Ty):Prop:=(x.row=false→tyS S t)∧(x.row=true→rwS S x.names t)
theorem vV.in {S:St} {x:Vr} {t:Ty} (h:vV S x t):Gt t∧∀ o∈az t,∃ y,ai o.n S=some y∧y.row=o.row:=by
 cases hr:x.row with
 | true=>have:=h.2 hr;exact ⟨this.gt,this.in⟩
 | false=>have:=h.1 hr;exact ⟨this.1,fun o ho=>by obtain ⟨y,h1,h2,_⟩:=this.2 o ho;exact ⟨y,h1,h2⟩⟩
theorem vV.dj {S:St} {σ:Int→Ty} {x:Vr} {t:Ty} (h:vV S x t) (hs:Sol S σ):Dj σ t:=by
 cases hr:x.row with
 | true=>exact (h.2 hr).dj hs
 | false=>exact tyS.dj hs (h.1 hr).1 (h.1 hr).2
theorem Sol.okG {S:St} {σ:Int→Ty} (hs:Sol S σ) {t:Ty} (hi:∀ o∈az t,∃ y,ai o.n S=some y∧y.row=o.row):okG σ t:=fun o ho=>by
 obtain ⟨y,h1,h2⟩:=hi o ho;exact ⟨hs.gt _ y h1,fun hr=>(hs.row _ y h1 (h2.trans hr)).1⟩
section
variable {S S':St} {n:Int} {t:Ty} {x:Vr} {ρ:Int→Ty} {rk:Int→Nat}
theorem jY (wf:Wf S) (hx:ai n S=some x) (hnb:x.bd=false) (hb:Bnd S S' n t) (σ:Int→Ty):Sol S' σ↔Sol S σ∧σ n=sub σ t:=by
 constructor
 · intro h
   obtain ⟨x',h1,h2,h3,h4,_⟩:=hb.fw n x hx
   refine ⟨⟨fun m y hy=>?_,fun m y hy hr=>?_,fun m y hy hyb=>?_⟩,by have:=h.eqs n x' h1 (h4 rfl).1;rwa [(h4 rfl).2] at this⟩
   · obtain ⟨y',k1,_⟩:=hb.fw m y hy;exact h.gt m y' k1
   · obtain ⟨y',k1,k2,k3,_⟩:=hb.fw m y hy
     have:=h.row m y' k1 (k2.trans hr);rwa [k3] at this
   · obtain ⟨y',k1,k2,k3,k4,k5⟩:=hb.fw m y hy
     have hne:m≠n:=by rintro rfl;rw [hx] at hy;cases hy;rw [hnb] at hyb;cases hyb
     have:=h.eqs m y' k1 ((k5 hne).1.trans hyb);rwa [(k5 hne).2] at this
 · rintro ⟨h,he⟩
   refine ⟨fun m y' hy=>?_,fun m y' hy hr=>?_,fun m y' hy hyb=>?_⟩
   · obtain ⟨y,k1,_⟩:=hb.at hy;exact h.gt m y k1
   · obtain ⟨y,k1,k2,k3,_⟩:=hb.at hy
     have:=h.row m y k1 (k2.symm.trans hr);rwa [← k3] at this
   · obtain ⟨y,k1,k2,k3,k4,k5⟩:=hb.at hy
     by_cases e:m=n
     · subst e;rw [(k4 rfl).2];exact he
     · rw [(k5 e).2];exact h.eqs m y k1 ((k5 e).1.symm.trans hyb)
theorem E1 (wf:Wf S) (hx:ai n S=some x) (hv:vV S x t) (hb:Bnd S S' n t):Wf S' where
 dom:=fun m=>by
  rw [hb.len,← wf.dom m]
  constructor
  · intro h
    obtain ⟨y,hy⟩:=Option.isSome_iff_exists.1 h
    obtain ⟨z,hz⟩:=hb.bw m y hy
    rw [hz];rfl
  · intro h
    obtain ⟨y,hy⟩:=Option.isSome_iff_exists.1 h
    obtain ⟨z,hz,_⟩:=hb.fw m y hy
    rw [hz];rfl
 srt:=fun m y hy=>by
  obtain ⟨z,k1,k2,k3,_⟩:=hb.at hy
  rw [k3];exact wf.srt m z k1
 tv:=fun m y hy hyb hr=>by
  obtain ⟨z,k1,k2,k3,k4,k5⟩:=hb.at hy
  by_cases e:m=n
  · subst e;rw [hx] at k1;cases k1;rw [(k4 rfl).2];exact (hv.1 (k2.symm.trans hr)).ext hb.ext
  · rw [(k5 e).2];exact (wf.tv m z k1 ((k5 e).1.symm.trans hyb) (k2.symm.trans hr)).ext hb.ext
 rv:=fun m y hy hyb hr=>by
  obtain ⟨z,k1,k2,k3,k4,k5⟩:=hb.at hy
  by_cases e:m=n
  · subst e;rw [hx] at k1;cases k1;rw [(k4 rfl).2,k3];exact (hv.2 (k2.symm.trans hr)).ext hb.ext
  · rw [(k5 e).2,k3];exact (wf.rv m z k1 ((k5 e).1.symm.trans hyb) (k2.symm.trans hr)).ext hb.ext
theorem DT (wf:Wf S) (h:Rv S ρ) (hx:ai n S=some x) (hv:vV S x t):Gp S (one S n (sub ρ t)) where
 gt:=fun m y hy hb=>by
  unfold one
  split
  · exact eX hv.in.1 (h.sol.okG hv.in.2)
  · have:=(wf.dom m).1 (by rw [hy];rfl)
    exact GE oq
 row:=fun m y hy hb hr=>by
  unfold one
  split
  · rename_i e
    subst e
    rw [hx] at hy;cases hy
    have hV:=hv.2 hr
    exact ⟨by rw [bG (by rw [hV.k5];decide)];exact hV.k5,fun s hs=>hV.nof h.sol hs⟩
  · rw [gl hy,hr]
    exact ⟨rfl,fun s _=>rfl⟩
theorem Gg (wf:Wf S) (h:Rv S ρ) (hx:ai n S=some x) (hnb:x.bd=false) (hv:vV S x t) (hb:Bnd S S' n t) (hno:n∉ch (sub ρ t)):Rv S' (fun m=>sub (one S n (sub ρ t)) (ρ m)):=by
 have hp:=DT wf h hx hv
 have hc:=h.comp wf hp
 have hpos:∀ m y,ai m S=some y→m≠0:=fun m y hy=>by have:=(wf.dom m).1 (by rw [hy];rfl);omega
 have hidn:∀ m y,ai m S=some y→y.bd=false→sub (one S n (sub ρ t)) (idv y.row m)=one S n (sub ρ t) m:=fun m y hy hyb =>
  uH (hpos m y hy) (hp.gt m y hy hyb) (fun hr=>(hp.row m y hy hyb hr).1)
 have hone:one S n (sub ρ t) n=sub ρ t:=by unfold one;rw [if_pos rfl]
 have hocc:∀ o∈az (sub ρ t),∃ y,ai o.n S=some y∧y.row=o.row∧y.bd=false:=by
  intro o ho
  obtain ⟨p,hp',q,hq,e1,e2⟩:=uc hv.in.1 (h.sol.okG hv.in.2) o ho
  obtain ⟨y,hy,_⟩:=hv.in.2 p hp'
  have:=h.occ _ y hy q hq
  rwa [e1,e2] at this
 have hsame:sub (one S n (sub ρ t)) (sub ρ t)=sub ρ t:=q9 (eX hv.in.1 (h.sol.okG hv.in.2)) fun o ho=>by
  obtain ⟨y,h1,h2,h3⟩:=hocc o ho
  have hne:o.n≠n:=fun e=>hno (bC.2 ⟨o,ho,e⟩)
  unfold one
  rw [if_neg hne,gl h1,h2]
 have hsubt:sub (fun m=>sub (one S n (sub ρ t)) (ρ m)) t=sub ρ t:=by
  rw [← mv hv.in.1 (h.sol.okG hv.in.2),hsame]
  intro o ho
  obtain ⟨y,h1,h2⟩:=hv.in.2 o ho
  exact hp.okG (h.occ _ y h1)
 refine ⟨(jY wf hx hnb hb _).2 ⟨hc,?_⟩,?_,?_,?_,?_⟩
 · show sub (one S n (sub ρ t)) (ρ n)=_
   rw [hsubt,h.free n x hx hnb,hidn n x hx hnb,hone]
 · intro m y' hy' hyb'
   obtain ⟨y,k1,k2,k3,k4,k5⟩:=hb.at hy'
   have hne:m≠n:=by rintro rfl;rw [(k4 rfl).1] at hyb';cases hyb'
   have hyb:y.bd=false:=(k5 hne).1.symm.trans hyb'
   show sub _ (ρ m)=_
   rw [h.free m y k1 hyb,hidn m y k1 hyb]
   unfold one
   rw [if_neg hne,gl k1,k2]
 · intro σ hσ m y' hy'
   obtain ⟨hs,he⟩:=(jY wf hx hnb hb σ).1 hσ
   obtain ⟨y,k1,k2,k3,k4,k5⟩:=hb.at hy'
   have ho:=h.occ m y k1
   rw [mv (h.sol.gt m y k1) (hp.okG ho),h.fac σ hs m y k1]
   · refine dA _ fun o hm=>?_
     obtain ⟨z,z1,z2,z3⟩:=ho o hm
     show σ o.n=sub σ (one S n (sub ρ t) o.n)
     unfold one
     split
     · rename_i e
       rw [yP h hs hv.in.1 hv.in.2,e];exact he
     · rw [gl z1]
       exact (uH (hpos _ z z1) (hs.gt _ z z1) (fun hr=>(hs.row _ z z1 hr).1)).symm
   · intro o hm
     obtain ⟨z,z1,z2,z3⟩:=ho o hm
     unfold one
     split
     · exact hs.okG fun p hp'=>by obtain ⟨w,w1,w2,_⟩:=hocc p hp';exact ⟨w,w1,w2⟩
     · intro p hp'
       obtain ⟨e1,e2⟩:=uj hp'
       rw [e1,e2,gl z1]
       exact ⟨hs.gt _ z z1,fun hr=>(hs.row _ z z1 hr).1⟩
 · intro m y' hy' o ho
   obtain ⟨y,k1,k2,k3,k4,k5⟩:=hb.at hy'
   obtain ⟨p,hp',q,hq,e1,e2⟩:=uc (h.sol.gt m y k1) (hp.okG (h.occ m y k1)) o ho
   have key:∃ z,ai q.n S=some z∧z.row=q.row∧z.bd=false∧q.n≠n:=by
    unfold one at hq
    split at hq
    · obtain ⟨z,z1,z2,z3⟩:=hocc q hq
      exact ⟨z,z1,z2,z3,fun e=>hno (bC.2 ⟨q,hq,e⟩)⟩
    · rename_i hne
      obtain ⟨z,z1,z2,z3⟩:=h.occ m y k1 p hp'
      obtain ⟨f1,f2⟩:=uj hq
      rw [f1,f2,gl z1]
      exact ⟨z,z1,rfl,z3,hne⟩
   obtain ⟨z,z1,z2,z3,z4⟩:=key
   obtain ⟨z',w1,w2,w3,w4,w5⟩:=hb.fw _ z z1
   rw [← e1,← e2]
   exact ⟨z',w1,w2.trans z2,(w5 z4).1.trans z3⟩
 · intro m y' hy' hr hn
   obtain ⟨y,k1,k2,k3,k4,k5⟩:=hb.at hy'
   have hr0:=k2.symm.trans hr
   have h5:=(h.sol.row m y k1 hr0).1
   have hG:=h.sol.gt m y k1
   have hO:=hp.okG (h.occ m y k1)
   have hnn:¬ (ρ m).n=0:=by
    intro e
    have:=d9 (σ:=one S n (sub ρ t)) h5
    rw [if_pos e] at this
    exact hn this
   obtain ⟨w,w1,w2⟩:=h.tail m y k1 hr0 hnn
   obtain ⟨w',v1,v2,v3⟩:=h.occ m y k1 _ (cI h5 hnn)
   have v1:ai (ρ m).n S=some w':=v1
   rw [w1] at v1;cases v1
   have hnm:=d9 (σ:=one S n (sub ρ t)) h5
   rw [if_neg hnn] at hnm
   have hfld:∀ s,s∈(sub (one S n (sub ρ t)) (ρ m)).names↔s∈(one S n (sub ρ t) (ρ m).n).names∨s∈(ρ m).names:=by
    intro s
    have hG':=eX hG hO
    have h5':(sub (one S n (sub ρ t)) (ρ m)).kind=5:=by rw [bG (by rw [h5];decide)];exact h5
    obtain ⟨_,a2,_⟩:=hG'.sorted h5'
    obtain ⟨_,b2,_⟩:=hG.sorted h5
    obtain ⟨_,c2,_⟩:=(hp.gt _ w w1 v3).sorted (hp.row _ w w1 v3 v2).1
    have e:=dh hG h5 hO s
    rw [if_neg hnn] at e
    have ia:=b3 (s:=s) a2
    have ib:=b3 (s:=s) b2
    have ic:=b3 (s:=s) c2
    rw [e] at ia
    cases hf:fg s (one S n (sub ρ t) (ρ m).n) with
    | some q =>
     rw [hf] at ia ic
     simp only [Option.orElse_some,reduceCtorEq,false_iff,Classical.not_not] at ia ic
     exact ⟨fun _=>.inl ic,fun _=>ia⟩
    | none =>
     rw [hf] at ia ic
     simp only [Option.orElse_none,Option.map_eq_none_iff,true_iff] at ia ic
     constructor
     · intro hm
       refine .inr (Classical.byContradiction fun h'=>?_)
       exact (ia.1 (ib.2 h')) hm
     · rintro (hm|hm)
       · exact absurd hm ic
       · exact Classical.byContradiction fun h'=>(ib.1 (ia.2 h')) hm
   show ∃ z,ai (sub (one S n (sub ρ t)) (ρ m)).n S'=some z∧∀ s,s∈z.names↔s∈y'.names∨s∈(sub (one S n (sub ρ t)) (ρ m)).names
   by_cases e:(ρ m).n=n
   · rw [e,hone] at hnm
     rw [e,hone] at hfld
     rw [e,hx] at w1;cases w1
     have hV:=hv.2 v2
     have hne:¬ t.n=0:=by
      intro e0
      have:=d9 (σ:=ρ) hV.k5
      rw [if_pos e0] at this
      exact hn (hnm.trans this)
     obtain ⟨y2,a1,a2,a3⟩:=hV.row hne
     have hun:=d9 (σ:=ρ) hV.k5
     rw [if_neg hne] at hun
     have hn2:(ρ t.n).n≠0:=fun e0=>hn (hnm.trans (hun.trans e0))
     obtain ⟨y3,b1,b2⟩:=h.tail _ y2 a1 a2 hn2
     obtain ⟨y4,c1,c2,c3,_⟩:=hb.fw _ y3 b1
     refine ⟨y4,by rw [hnm,hun];exact c1,fun s=>?_⟩
     have hfu:s∈(sub ρ t).names↔s∈(ρ t.n).names∨s∈t.names:=by
      have hG':=eX hV.gt (hV.okG h.sol)
      have h5':(sub ρ t).kind=5:=by rw [bG (by rw [hV.k5];decide)];exact hV.k5
      obtain ⟨_,p2,_⟩:=hG'.sorted h5'
      obtain ⟨_,q2,_⟩:=hV.gt.sorted hV.k5
      obtain ⟨_,r2,_⟩:=(h.sol.gt _ y2 a1).sorted (h.sol.row _ y2 a1 a2).1
      have e:=dh hV.gt hV.k5 (hV.okG h.sol) s
      rw [if_neg hne] at e
      have ia:=b3 (s:=s) p2
      have ib:=b3 (s:=s) q2
      have ic:=b3 (s:=s) r2
      rw [e] at ia
      cases hf:fg s (ρ t.n) with
      | some q =>
       rw [hf] at ia ic
       simp only [Option.orElse_some,reduceCtorEq,false_iff,Classical.not_not] at ia ic
       exact ⟨fun _=>.inl ic,fun _=>ia⟩
      | none =>
       rw [hf] at ia ic
       simp only [Option.orElse_none,Option.map_eq_none_iff,true_iff] at ia ic
       constructor
       · intro hm
         refine .inr (Classical.byContradiction fun h'=>?_)
         exact (ia.1 (ib.2 h')) hm
       · rintro (hm|hm)
         · exact absurd hm ic
         · exact Classical.byContradiction fun h'=>(ib.1 (ia.2 h')) hm
     rw [c3,b2,a3,w2,k3,hfld,hfu]
     constructor
     · rintro (((h|h)|h)|h)
       · exact .inl h
       · exact .inr (.inr h)
       · exact .inr (.inl (.inr h))
       · exact .inr (.inl (.inl h))
     · rintro (h|(h|h)|h)
       · exact .inl (.inl (.inl h))
       · exact .inr h
       · exact .inl (.inr h)
       · exact .inl (.inl (.inr h))
   · have ho:one S n (sub ρ t) (ρ m).n=idv true (ρ m).n:=by unfold one;rw [if_neg e,gl w1,v2]
     rw [ho] at hnm hfld
     obtain ⟨y4,c1,c2,c3,_⟩:=hb.fw _ w w1
     refine ⟨y4,by rw [hnm];exact c1,fun s=>?_⟩
     rw [c3,w2,k3,hfld]
     have:s∉(idv true (ρ m).n).names:=by simp [idv]
     constructor
     · rintro (h|h)
       · exact .inl h
       · exact .inr (.inr h)
     · rintro (h|h|h)
       · exact .inl h
       · exact absurd h this
       · exact .inr h
theorem Ez (wf:Wf S) (h:Rv S ρ) (hr:Rk S rk) (hx:ai n S=some x) (hnb:x.bd=false) (hv:vV S x t) (hb:Bnd S S' n t) (hno:n∉ch (sub ρ t)):∃ rk',Rk S' rk':=by
 obtain ⟨K,hK⟩:∃ K,∀ o∈az t,rk o.n<K:=by
  have:∀ l:List Occ,∃ K,∀ o∈l,rk o.n<K:=by
   intro l
   induction l with
   | nil=>exact ⟨0,by simp⟩
   | cons a l ih =>
    obtain ⟨K,hK⟩:=ih
    exact ⟨K+rk a.n+1,fun o ho=>by rcases List.mem_cons.1 ho with rfl|ho;omega;have:=hK o ho;omega⟩
  exact this _
 refine ⟨fun m=>rk m+(if n∈ch (ρ m) then K else 0),fun m y' hy' hyb o ho=>?_⟩
 obtain ⟨y,k1,k2,k3,k4,k5⟩:=hb.at hy'
 by_cases e:m=n
 · subst e
   rw [(k4 rfl).2] at ho
   have h1:m∈ch (ρ m):=by
    rw [h.free m x hx hnb]
    have:=(wf.dom m).1 (by rw [hx];rfl)
    cases x.row
    · exact bC.2 ⟨⟨m,false,[]⟩,cE,rfl⟩
    · exact bC.2 ⟨⟨m,true,[]⟩,cm oq,rfl⟩
   have h2:m∉ch (ρ o.n):=by
    intro hm
    obtain ⟨q,hq,e⟩:=bC.1 hm
    exact hno (e▸ow hv.in.1 (h.sol.okG hv.in.2) (hv.dj h.sol) o ho q hq)
   show rk o.n+(if m∈ch (ρ o.n) then K else 0)<rk m+(if m∈ch (ρ m) then K else 0)
   rw [if_pos h1,if_neg h2]
   have:=hK o ho
   omega
 · rw [(k5 e).2] at ho
   have hyb':=(k5 e).1.symm.trans hyb
   have h1:=hr m y k1 hyb' o ho
   have h2:n∈ch (ρ o.n)→n∈ch (ρ m):=by
    intro hm
    obtain ⟨q,hq,e⟩:=bC.1 hm
    rw [h.sol.eqs m y k1 hyb']
    have hi:=tV wf k1 hyb'
    have hvv:vV S y y.val:=⟨fun hf=>wf.tv m y k1 hyb' hf,fun ht=>wf.rv m y k1 hyb' ht⟩
    exact e▸ow hi.1 (h.sol.okG hi.2) (hvv.dj h.sol) o ho q hq
   show rk o.n+(if n∈ch (ρ o.n) then K else 0)<rk m+(if n∈ch (ρ m) then K else 0)
   by_cases hm:n∈ch (ρ o.n)
   · rw [if_pos hm,if_pos (h2 hm)];omega
   · rw [if_neg hm];omega
end
structure New (S S':St) (v:Vr):Prop where
 len:S'.length=S.length+1
 at_:ai ((S.length+1:Nat):Int) S'=some v
 oth:∀ m:Int,m≠((S.length+1:Nat):Int)→ai m S'=ai m S
 bd:v.bd=false
 srt:v.names.Pairwise (fun a b=>a<b)
theorem Wf.fresh {S:St} (wf:Wf S):ai ((S.length+1:Nat):Int) S=none:=by
 cases hm:ai ((S.length+1:Nat):Int) S with
 | none=>rfl
 | some x=>have:=(wf.dom _).1 (by rw [hm];rfl);omega
theorem Wf.ne {S:St} (wf:Wf S) {m:Int} {x:Vr} (h:ai m S=some x):m≠((S.length+1:Nat):Int):=by
 rintro rfl;rw [wf.fresh] at h;cases h
def upd (σ:Int→Ty) (k:Int) (w:Ty):Int→Ty:=fun m=>if m=k then w else σ m
theorem fh (σ:Int→Ty) (k:Int) (w:Ty):upd σ k w k=w:=by unfold upd;rw [if_pos rfl]
theorem eA {σ:Int→Ty} {k m:Int} {w:Ty} (h:m≠k):upd σ k w m=σ m:=by unfold upd;rw [if_neg h]
section
variable {S S':St} {v:Vr} {σ ρ:Int→Ty}
theorem New.ext (wf:Wf S) (h:New S S' v):Ext S S':=fun m x hx=>⟨x,by rw [h.oth m (wf.ne hx)];exact hx,rfl,rfl⟩
theorem New.wf (wf:Wf S) (h:New S S' v):Wf S':=by
 have he:=h.ext wf
 refine ⟨fun m=>?_,fun m x hx=>?_,fun m x hx hb hr=>?_,fun m x hx hb hr=>?_⟩
 · rw [h.len]
   by_cases e:m=((S.length+1:Nat):Int)
   · rw [e,h.at_];simp;omega
   · rw [h.oth m e,wf.dom m];omega
 · by_cases e:m=((S.length+1:Nat):Int)
   · rw [e,h.at_] at hx;cases hx;exact h.srt
   · rw [h.oth m e] at hx;exact wf.srt m x hx
 · by_cases e:m=((S.length+1:Nat):Int)
   · rw [e,h.at_] at hx;cases hx;rw [h.bd] at hb;cases hb
   · rw [h.oth m e] at hx;exact (wf.tv m x hx hb hr).ext he
 · by_cases e:m=((S.length+1:Nat):Int)
   · rw [e,h.at_] at hx;cases hx;rw [h.bd] at hb;cases hb
   · rw [h.oth m e] at hx;exact (wf.rv m x hx hb hr).ext he
theorem Fk (wf:Wf S) {t w:Ty} (hi:∀ o∈az t,∃ y,ai o.n S=some y∧y.row=o.row):sub (upd σ ((S.length+1:Nat):Int) w) t=sub σ t :=
 dA _ fun o ho=>by obtain ⟨y,h1,_⟩:=hi o ho;exact eA (wf.ne h1)
theorem New.sol (wf:Wf S) (h:New S S' v) (hs:Sol S σ) {w:Ty} (hw:Gt w) (hr:v.row=true→w.kind=5∧∀ s∈v.names,fg s w=none):Sol S' (upd σ ((S.length+1:Nat):Int) w):=by
 refine ⟨fun m x hx=>?_,fun m x hx hxr=>?_,fun m x hx hb=>?_⟩
 · by_cases e:m=((S.length+1:Nat):Int)
   · rw [e,fh];exact hw
   · rw [h.oth m e] at hx;rw [eA e];exact hs.gt m x hx
 · by_cases e:m=((S.length+1:Nat):Int)
   · rw [e,h.at_] at hx;cases hx;rw [e,fh];exact hr hxr
   · rw [h.oth m e] at hx;rw [eA e];exact hs.row m x hx hxr
 · by_cases e:m=((S.length+1:Nat):Int)
   · rw [e,h.at_] at hx;cases hx;rw [h.bd] at hb;cases hb
   · rw [h.oth m e] at hx
     rw [eA e,Fk wf (tV wf hx hb).2]
     exact hs.eqs m x hx hb
theorem GV {p:Prop} (h:p:=by rw [h.oth m (wf.ne hx)];exact hx):p:=h
theorem New.back (wf:Wf S) (h:New S S' v) (hs:Sol S' σ):Sol S σ :=
 ⟨fun m x hx=>hs.gt m x GV,fun m x hx=>hs.row m x GV,fun m x hx=>hs.eqs m x GV⟩
theorem New.rv (wf:Wf S) (h:New S S' v) (hv:Rv S ρ):Rv S' (upd ρ ((S.length+1:Nat):Int) (idv v.row ((S.length+1:Nat):Int))):=by
 refine ⟨h.sol wf hv.sol (GE oq) (fun hr=>by rw [hr];exact ⟨rfl,fun s _=>rfl⟩),fun m x hx hb=>?_,fun τ hτ m x hx=>?_,fun m x hx o ho=>?_,fun m x hx hr hn=>?_⟩
 · by_cases e:m=((S.length+1:Nat):Int)
   · rw [e,h.at_] at hx;cases hx;rw [e,fh]
   · rw [h.oth m e] at hx;rw [eA e];exact hv.free m x hx hb
 · by_cases e:m=((S.length+1:Nat):Int)
   · have hx':=hx
     rw [e,h.at_] at hx';cases hx'
     have hx2:=hx
     rw [e,fh]
     rw [e] at hx2
     exact (uH oq (hτ.gt _ _ hx2) (fun hr=>(hτ.row _ _ hx2 hr).1)).symm
   · have hx':=hx
     rw [h.oth m e] at hx';rw [eA e];exact hv.fac τ (h.back wf hτ) m x hx'
 · by_cases e:m=((S.length+1:Nat):Int)
   · rw [e,h.at_] at hx;cases hx
     rw [e,fh] at ho
     obtain ⟨e1,e2⟩:=uj ho
     rw [e1,e2]
     exact ⟨_,h.at_,rfl,h.bd⟩
   · rw [h.oth m e] at hx;rw [eA e] at ho
     obtain ⟨y,h1,h2,h3⟩:=hv.occ m x hx o ho
     exact ⟨y,by rw [h.oth _ (wf.ne h1)];exact h1,h2,h3⟩
 · by_cases e:m=((S.length+1:Nat):Int)
   · have hx':=hx
     rw [e,h.at_] at hx';cases hx'
     rw [e,fh,hr]
     refine ⟨_,h.at_,fun s=>?_⟩
     simp [idv]
   · have hx':=hx
     rw [h.oth m e] at hx';rw [eA e] at hn ⊢
     obtain ⟨y,h1,h2⟩:=hv.tail m x hx' hr hn
     exact ⟨y,by rw [h.oth _ (wf.ne h1)];exact h1,h2⟩
theorem New.rk (wf:Wf S) (h:New S S' v) {rk:Int→Nat} (hr:Rk S rk):Rk S' rk:=fun m x hx hb o ho=>by
 by_cases e:m=((S.length+1:Nat):Int)
 · rw [e,h.at_] at hx;cases hx;rw [h.bd] at hb;cases hb
 · rw [h.oth m e] at hx;exact hr m x hx hb o ho
end
abbrev lim:Nat:=100000000
def hdV:Nat→St→Ty→Option Ty
 | 0,_,_=>none
 | f+1,S,t=>if t.kind=6 then (match bdV S t.n with
  | some v=>if v.sz<lim then hdV f S v else none
  | none=>some t) else some t
def hdR:Nat→St→Fd→Ty→Option Ty
 | 0,_,_,_=>none
 | f+1,S,l,t=>if t.sz<lim∧(dr l t).length<lim∧t.names.length=t.kids.length then (match bdV S t.n with
  | some v=>hdR f S (dr l t) v
  | none=>some (recT (dr l t) t.n)) else none
def bY (f:Nat) (S:St) (t:Ty):Option Ty:=match hdV f S t with
 | some u=>if u.kind=5 then (match bdV S u.n with
  | some _=>hdR f S [] u
  | none=>some u) else some u
 | none=>none
theorem rwS.congr {S:St} {L L':List (List UInt8)} {t:Ty} (h:rwS S L t) (e:∀ s,s∈L↔s∈L'):rwS S L' t where
 gt:=h.gt
 k5:=h.k5
 kids:=h.kids
 apart:=fun s hs hm=>h.apart s hs ((e s).2 hm)
 row:=fun hn=>by obtain ⟨x,h1,h2,h3⟩:=h.row hn;exact ⟨x,h1,h2,fun s=>by rw [h3,e]⟩
theorem xm {l:Fd} {t:Ty} {s:List UInt8} (hn:t.names.Nodup) (hl:t.names.length=t.kids.length):s∈(dr l t).map Prod.fst↔s∈l.map Prod.fst∨s∈t.names:=by
 rw [← cX,← cX,iT hn hl]
 have:=b3 (s:=s) hl
 cases hf:fg s t with
 | some x =>
  rw [hf] at this
  simp only [reduceCtorEq,false_iff,Classical.not_not] at this
  simp [this]
 | none =>
  have:=this.1 hf
  simp [this]
section
variable {S:St} (wf:Wf S)
include wf
theorem yF:∀ (f:Nat) (t u:Ty),hdV f S t=some u→tyS S t→tyS S u∧(u.kind=6→bdV S u.n=none)∧∀ σ,Sol S σ→sub σ u=sub σ t
 | 0,t,u,h,_=>by simp [hdV] at h
 | f+1,t,u,h,ht=>by
  rw [hdV] at h
  split at h
  · rename_i h6
    split at h
    · rename_i v hv
      split at h <;> try (cases h;done)
      obtain ⟨x,h1,h2,h3⟩:=fl hv
      subst h3
      have ho:(⟨t.n,false,[]⟩:Occ)∈az t:=by rw [← Ty.eta t,h6];exact cE
      obtain ⟨x',k1,k2,_⟩:=ht.2 _ ho
      have k1:ai t.n S=some x':=k1
      rw [h1] at k1;cases k1
      obtain ⟨q1,q2,q3⟩:=yF f x.val u h (wf.tv _ x h1 h2 k2)
      refine ⟨q1,q2,fun σ hs=>(q3 σ hs).trans ?_⟩
      rw [← hs.eqs _ x h1 h2,← Ty.eta t,h6,de];rfl
    · rename_i hn
      cases h
      exact ⟨ht,fun _=>hn,fun _ _=>rfl⟩
  · rename_i h6
    cases h
    exact ⟨ht,fun h=>absurd h h6,fun _ _=>rfl⟩
theorem Ee:∀ (f:Nat) (l:Fd) (t r:Ty),hdR f S l t=some r→(l.map Prod.fst).Nodup→(∀ p∈l,tyS S p.2)→rwS S (l.map Prod.fst) t →
 tyS S r∧r.kind=5∧bdV S r.n=none∧∀ σ,Sol S σ→(sub σ r).n=(sub σ t).n∧∀ s,fg s (sub σ r)=(fg s (sub σ t)).orElse fun _=>(ai s l).map (sub σ)
 | 0,l,t,r,h,_,_,_=>by simp [hdR] at h
 | f+1,l,t,r,h,hnd,hl,ht=>by
  rw [hdR] at h
  split at h <;> try (cases h;done)
  obtain ⟨s1,s2,s3,s4,s5⟩:=ht.gt.sorted ht.k5
  have hkey:∀ s,s∈(dr l t).map Prod.fst↔s∈l.map Prod.fst∨s∈t.names:=fun s=>xm (aE s1) s2
  have hkids:∀ p∈dr l t,tyS S p.2:=fun p hp=>by
   rcases d7 hp with h|h
   · exact ht.kids _ h.2
   · exact hl p h
  split at h
  · rename_i v hv
    obtain ⟨x,h1,h2,h3⟩:=fl hv
    subst h3
    have hn:t.n≠0:=by intro e;rw [e,wf.zero] at h1;cases h1
    obtain ⟨y,k1,k2,k3⟩:=ht.row hn
    rw [h1] at k1;cases k1
    have hv:=(wf.rv _ x h1 h2 k2).congr (L':=(dr l t).map Prod.fst) (fun s=>by rw [k3,hkey])
    obtain ⟨q1,q2,q3,q4⟩:=Ee f (dr l t) x.val r h (dv t hnd) hkids hv
    refine ⟨q1,q2,q3,fun σ hs=>?_⟩
    obtain ⟨r1,r2⟩:=q4 σ hs
    have e:=hs.eqs _ x h1 h2
    have e2:=d9 (σ:=σ) ht.k5
    rw [if_neg hn] at e2
    refine ⟨by rw [r1,e2,e],fun s=>?_⟩
    have e3:=dh ht.gt ht.k5 (ht.okG hs) s
    rw [if_neg hn,e] at e3
    rw [r2 s,e3,iT (aE s1) s2]
    cases fg s (sub σ x.val) <;> cases fg s t <;> simp
  · rename_i hn
    cases h
    have hg:Gt (recT (dr l t) t.n):=ug (dv t hnd) s4 fun p hp=>(hkids p hp).1
    have hnm:∀ s,s∈(recT (dr l t) t.n).names↔s∈l.map Prod.fst∨s∈t.names:=fun s=>by rw [eC,(bU _).mem_iff];exact hkey s
    have hkd:∀ k∈(recT (dr l t) t.n).kids,tyS S k:=by
     intro k hk
     rw [dw] at hk
     obtain ⟨s,hs,rfl⟩:=List.mem_map.1 hk
     obtain ⟨x,hx⟩:=Option.isSome_iff_exists.1 (cX.2 ((bU _).mem_iff.1 hs))
     rw [hx]
     exact hkids _ (gC hx)
    have hv:tyS S (recT (dr l t) t.n):=by
     refine ⟨hg,fun o ho=>?_⟩
     rcases dU (t:=recT (dr l t) t.n) rfl ho with ⟨h0,rfl⟩|⟨k,hk,ho⟩
     · obtain ⟨x,h1,h2,h3⟩:=ht.row h0
       refine ⟨x,h1,h2,fun _=>?_⟩
       have p1:=wf.srt _ x h1
       have p2:=(hg.sorted rfl).1
       exact List.Perm.eq_of_pairwise (le:=fun a b=>a<b) (fun a b _ _ h1 h2=>absurd (List.lt_trans h1 h2) (List.lt_irrefl _)) p1 p2
        ((List.perm_ext_iff_of_nodup (aE p1) (aE p2)).2 fun s=>by rw [h3,hnm])
     · exact (hkd k hk).2 o ho
    refine ⟨hv,rfl,hn,fun σ hs=>?_⟩
    have e1:=d9 (σ:=σ) (t:=recT (dr l t) t.n) rfl
    have e2:=d9 (σ:=σ) ht.k5
    refine ⟨e1.trans e2.symm,fun s=>?_⟩
    have f1:=dh hg rfl (hv.okG hs) s
    have f2:=dh ht.gt ht.k5 (ht.okG hs) s
    rw [f1,f2,pa (dv t hnd),iT (aE s1) s2]
    show (if t.n=0 then _ else (fg s (σ t.n)).orElse _)=_
    by_cases h0:t.n=0
    · rw [if_pos h0,if_pos h0];cases fg s t <;> simp
    · rw [if_neg h0,if_neg h0];cases fg s (σ t.n) <;> cases fg s t <;> simp
theorem db {f:Nat} {t h:Ty} (hh:bY f S t=some h) (ht:tyS S t):tyS S h∧((h.kind=5∨h.kind=6)→bdV S h.n=none)∧∀ σ,Sol S σ→sub σ h=sub σ t:=by
 unfold bY at hh
 split at hh <;> try (cases hh;done)
 rename_i u hu
 obtain ⟨q1,q2,q3⟩:=yF wf f t u hu ht
 split at hh
 · rename_i h5
   split at hh
   · rename_i v hv
     obtain ⟨r1,r2,r3,r4⟩:=Ee wf f [] u h hh .nil zq (q1.toR h5)
     refine ⟨r1,fun _=>r3,fun σ hs=>?_⟩
     obtain ⟨a1,a2⟩:=r4 σ hs
     rw [← q3 σ hs]
     have k1:(sub σ h).kind=5:=by rw [bG (by rw [r2];decide)];exact r2
     have k2:(sub σ u).kind=5:=by rw [bG (by rw [h5];decide)];exact h5
     refine eu (eX r1.1 (r1.okG hs)) (eX q1.1 (q1.okG hs)) k1 k2 a1 fun s=>?_
     rw [a2 s]
     cases fg s (sub σ u) <;> simp [ai]
   · rename_i hn
     cases hh
     exact ⟨q1,fun _=>hn,q3⟩
 · rename_i h5
   cases hh
   exact ⟨q1,fun h=>q2 (h.resolve_left h5),q3⟩
end
def sf (g:Ty→Option Ty):List Ty→Option (List Ty)
 | []=>some []
 | t::l=>match g t with
  | some r=>(match sf g l with
   | some rs=>some (r::rs)
   | none=>none)
  | none=>none
def dH:Nat→St→Ty→Option Ty
 | 0,_,_=>none
 | f+1,S,t=>match bY f S t with
  | some h=>if h.sz<lim then (match sf (dH f S) h.kids with
   | some ks=>some (.mk h.kind h.name h.n h.names ks)
   | none=>none) else none
  | none=>none
theorem l6 {g:Ty→Option Ty}:∀ {l rs:List Ty},sf g l=some rs→rs.length=l.length∧∀ (i:Nat) t r,l[i]?=some t→rs[i]?=some r→g t=some r
 | [],rs,h=>by simp [sf] at h;subst h;simp
 | t::l,rs,h=>by
  rw [sf] at h
  split at h <;> try (cases h;done)
  rename_i r hr
  split at h <;> try (cases h;done)
  rename_i rs' hrs
  cases h
  obtain ⟨h1,h2⟩:=l6 hrs
  refine ⟨by simp [h1],fun i t' r' ht hr'=>?_⟩
  cases i with
  | zero=>simp at ht hr';subst ht hr';exact hr
  | succ i=>simp at ht hr';exact h2 i t' r' ht hr'
theorem vP {σ:Int→Ty} {k:Int} {x:List UInt8} {n:Int} {l:List (List UInt8)} {ks ks':List Ty} (h:ks.map (sub σ)=ks'.map (sub σ)):sub σ (.mk k x n l ks)=sub σ (.mk k x n l ks'):=by
 rw [sub,sub,kn,kn,h]
theorem uP {S:St} (wf:Wf S):∀ (f:Nat) (t r:Ty),dH f S t=some r→tyS S t→tyS S r∧(∀ o∈az r,bdV S o.n=none)∧(∀ σ,Sol S σ→sub σ r=sub σ t)∧(∃ h,(∀ σ,Sol S σ→sub σ h=sub σ t)∧bY (f - 1) S t=some h∧r.kind=h.kind∧r.n=h.n∧r.names=h.names)
 | 0,t,r,h,_=>by simp [dH] at h
 | f+1,t,r,h,ht=>by
  rw [dH] at h
  split at h <;> try (cases h;done)
  rename_i h' hh
  split at h <;> try (cases h;done)
  split at h <;> try (cases h;done)
  rename_i ks hks
  cases h
  obtain ⟨q1,q2,q3⟩:=db wf hh ht
  obtain ⟨m1,m2⟩:=l6 hks
  have key:∀ (i:Nat) t r,h'.kids[i]?=some t→ks[i]?=some r→tyS S r∧(∀ o∈az r,bdV S o.n=none)∧(∀ σ,Sol S σ→sub σ r=sub σ t):=fun i t r h1 h2=>by
   obtain ⟨a,b,c,_⟩:=uP wf f t r (m2 i t r h1 h2) (q1.kid (List.mem_of_getElem? h1));exact ⟨a,b,c⟩
  have keym:∀ r∈ks,tyS S r∧(∀ o∈az r,bdV S o.n=none):=fun r hr=>by
   obtain ⟨i,hi⟩:=List.mem_iff_getElem?.1 hr
   have hlt:i<h'.kids.length:=by rw [← m1];exact (List.getElem?_eq_some_iff.1 hi).1
   have:=key i _ r (List.getElem?_eq_getElem hlt) hi
   exact ⟨this.1,this.2.1⟩
  have hg:Gt (.mk h'.kind h'.name h'.n h'.names ks):=by
   have hgh:=q1.1
   clear hh q2 q3 key m2 hks
   cases hgh with
   | leaf k x h4 h5 h6=>simp at m1;subst m1;exact .leaf k x h4 h5 h6
   | list t h =>
    simp at m1
    obtain ⟨r,rfl⟩:=List.length_eq_one_iff.1 m1
    exact .list r (keym r zq).1.1
   | var n h=>simp at m1;subst m1;exact .var n h
   | rcd n ns ks' h0 hs hl hk=>exact .rcd n ns ks h0 hs (by rw [hl];exact m1.symm) fun k hk=>(keym k hk).1.1
  have hocc:∀ o∈az (.mk h'.kind h'.name h'.n h'.names ks),(o∈az h'∧o.n=h'.n∧(h'.kind=5∨h'.kind=6))∨∃ r∈ks,o∈az r:=by
   intro o ho
   rcases bD ho with h|h|h
   · refine .inl ⟨?_,by rw [h.2],.inr h.1⟩
     rw [h.2];have:=cE (x:=h'.name) (n:=h'.n) (l:=h'.names) (ks:=h'.kids);rw [← h.1,Ty.eta] at this;exact this
   · refine .inl ⟨?_,by rw [h.2.2],.inl h.1⟩
     rw [h.2.2];exact cI h.1 h.2.1
   · exact .inr h
  refine ⟨⟨hg,fun o ho=>?_⟩,fun o ho=>?_,fun σ hs=>?_,h',q3,hh,rfl,rfl,rfl⟩
  · rcases hocc o ho with h|⟨r,hr,ho⟩
    · exact q1.2 o h.1
    · exact (keym r hr).1.2 o ho
  · rcases hocc o ho with h|⟨r,hr,ho⟩
    · rw [h.2.1];exact q2 h.2.2
    · exact (keym r hr).2 o ho
  · rw [← q3 σ hs]
    conv=>rhs;rw [← Ty.eta h']
    refine vP (List.ext_getElem? fun i=>?_)
    rw [List.getElem?_map,List.getElem?_map]
    cases h1:ks[i]? with
    | none =>
     have:h'.kids[i]?=none:=by rw [List.getElem?_eq_none_iff] at h1 ⊢;omega
     rw [this]
    | some r =>
     have hlt:i<h'.kids.length:=by rw [← m1];exact (List.getElem?_eq_some_iff.1 h1).1
     rw [List.getElem?_eq_getElem hlt]
     simp only [Option.map_some,Option.some.injEq]
     exact (key i _ r (List.getElem?_eq_getElem hlt) h1).2.2 σ hs
theorem pH {S:St} {f:Nat} {t:Ty} (h5:t.kind=5) (hn:bdV S t.n=none):bY (f+1) S t=some t:=by
 unfold bY
 rw [hdV,if_neg oq]
 simp only [if_pos h5,hn]
theorem EW {S:St} (wf:Wf S) {L:List (List UInt8)} {f:Nat} {t r:Ty} (h:dH f S t=some r) (ht:rwS S L t) (hn:bdV S t.n=none):rwS S L r∧(∀ o∈az r,bdV S o.n=none)∧(∀ σ,Sol S σ→sub σ r=sub σ t)∧r.n=t.n∧r.names=t.names:=by
 cases f with
 | zero=>simp [dH] at h
 | succ f =>
 rw [dH] at h
 split at h <;> try (cases h;done)
 rename_i h' hh
 have e:h'=t:=by
  cases f with
  | zero=>simp [bY,hdV] at hh
  | succ f=>rw [pH ht.k5 hn] at hh;cases hh;rfl
 subst e
 split at h <;> try (cases h;done)
 split at h <;> try (cases h;done)
 rename_i ks hks
 cases h
 obtain ⟨m1,m2⟩:=l6 hks
 have key:∀ (i:Nat) t r,h'.kids[i]?=some t→ks[i]?=some r→tyS S r∧(∀ o∈az r,bdV S o.n=none)∧(∀ σ,Sol S σ→sub σ r=sub σ t):=fun i t r h1 h2=>by
  obtain ⟨a,b,c,_⟩:=uP wf f t r (m2 i t r h1 h2) (ht.kids _ (List.mem_of_getElem? h1));exact ⟨a,b,c⟩
 have keym:∀ r∈ks,tyS S r∧(∀ o∈az r,bdV S o.n=none):=fun r hr=>by
  obtain ⟨i,hi⟩:=List.mem_iff_getElem?.1 hr
  have hlt:i<h'.kids.length:=by rw [← m1];exact (List.getElem?_eq_some_iff.1 hi).1
  have:=key i _ r (List.getElem?_eq_getElem hlt) hi
  exact ⟨this.1,this.2.1⟩
 obtain ⟨s1,s2,s3,s4,s5⟩:=ht.gt.sorted ht.k5
 have h5:=ht.k5
 rw [h5,s3]
 refine ⟨⟨.rcd _ _ _ s4 s1 (by rw [s2];exact m1.symm) fun k hk=>(keym k hk).1.1,rfl,fun k hk=>(keym k hk).1,ht.apart,ht.row⟩,fun o ho=>?_,fun σ hs=>?_,rfl,rfl⟩
 · rcases dU (t:=.mk 5 [] h'.n h'.names ks) rfl ho with ⟨_,rfl⟩|⟨k,hk,ho⟩
   · exact hn
   · exact (keym k hk).2 o ho
 · conv=>rhs;rw [← Ty.eta h',h5,s3]
   refine vP (List.ext_getElem? fun i=>?_)
   rw [List.getElem?_map,List.getElem?_map]
   cases h1:ks[i]? with
   | none =>
    have:h'.kids[i]?=none:=by rw [List.getElem?_eq_none_iff] at h1 ⊢;omega
    rw [this]
   | some r =>
    have hlt:i<h'.kids.length:=by rw [← m1];exact (List.getElem?_eq_some_iff.1 h1).1
    rw [List.getElem?_eq_getElem hlt]
    simp only [Option.map_some,Option.some.injEq]
    exact (key i _ r (List.getElem?_eq_getElem hlt) h1).2.2 σ hs
def vB (S:St) (x:Vr) (t:Ty):Prop:=vV S x t∧(x.row=true→bdV S t.n=none)
theorem DI {S:St} (wf:Wf S) {x:Vr} {f:Nat} {t r:Ty} (h:dH f S t=some r) (ht:vB S x t):vV S x r∧(∀ o∈az r,bdV S o.n=none)∧(∀ σ,Sol S σ→sub σ r=sub σ t):=by
 cases hr:x.row with
 | true =>
  obtain ⟨a,b,c,_⟩:=EW wf h (ht.1.2 hr) (ht.2 hr)
  exact ⟨⟨fun h=>absurd (hr.symm.trans h) dq,fun _=>a⟩,b,c⟩
 | false =>
  obtain ⟨a,b,c,_⟩:=uP wf f t r h (ht.1.1 hr)
  exact ⟨⟨fun _=>a,fun h=>absurd (hr.symm.trans h) dq⟩,b,c⟩
theorem F3 {S:St} (wf:Wf S) {x:Vr} {ρ:Int→Ty} (hv:Rv S ρ) {f:Nat} {t r:Ty} (h:dH f S t=some r) (ht:vB S x t):r=sub ρ t:=by
 obtain ⟨h1,h2,h3⟩:=DI wf h ht
 rw [← h3 ρ hv.sol]
 refine (q9 h1.in.1 fun o ho=>?_).symm
 obtain ⟨x,k1,k2⟩:=h1.in.2 o ho
 rw [hv.free _ x k1 (bZ (h2 o ho) k1),k2]
theorem yf {S:St} (wf:Wf S) {ρ:Int→Ty} (hv:Rv S ρ) {f:Nat} {t r:Ty} (h:dH f S t=some r) (ht:tyS S t):r=sub ρ t:=by
 obtain ⟨h1,h2,h3,_⟩:=uP wf f t r h ht
 rw [← h3 ρ hv.sol]
 refine (q9 h1.1 fun o ho=>?_).symm
 obtain ⟨x,k1,k2,_⟩:=h1.2 o ho
 rw [hv.free _ x k1 (bZ (h2 o ho) k1),k2]
def Inv (S:St):Prop:=Wf S∧∃ ρ rk,Rv S ρ∧Rk S rk
structure gJ (S S':St) (ok:Bool) (eqn:(Int→Ty)→Prop):Prop where
 inv:Inv S'
 ext:Ext S S'
 back:∀ σ,Sol S' σ→Sol S σ
 sound:ok=true→∀ σ,Sol S' σ→eqn σ
 compl:∀ σ,Sol S σ→eqn σ→ok=true∧∃ σ',Sol S' σ'∧∀ n x,ai n S=some x→σ' n=σ n
def Hn (S:St) (t:Ty):Prop:=t.kind=5∨t.kind=6→bdV S t.n=none
theorem kV {S:St} {f:Nat} {t:Ty} (h:Hn S t):bY (f+1) S t=some t:=by
 by_cases h5:t.kind=5
 · exact pH h5 (h (.inl h5))
 · unfold bY
   rw [hdV]
   by_cases h6:t.kind=6
   · rw [if_pos h6]
     simp only [h (.inr h6),if_neg h5]
   · rw [if_neg h6]
     simp only [if_neg h5]
theorem Gt.k6 {t:Ty} (h:Gt t) (h6:t.kind=6):t.kids=[]∧t.names=[]∧t.name=[]∧0<t.n:=by
 cases h with
 | leaf k x h4 h5 h6'=>exact absurd h6 h6'
 | list t h=>exact absurd h6 zq
 | var n h=>exact ⟨rfl,rfl,rfl,h⟩
 | rcd n ns ks h0 hs hl hk=>exact absurd h6 zq
theorem Ct {S:St} {f:Nat} {t r:Ty} (h:dH f S t=some r) (hn:Hn S t):∃ ks,r=.mk t.kind t.name t.n t.names ks:=by
 cases f with
 | zero=>simp [dH] at h
 | succ f =>
 rw [dH] at h
 split at h <;> try (cases h;done)
 rename_i h' hh
 have e:h'=t:=by
  cases f with
  | zero=>simp [bY,hdV] at hh
  | succ f=>rw [kV hn] at hh;cases hh;rfl
 subst e
 split at h <;> try (cases h;done)
 split at h <;> try (cases h;done)
 cases h
 exact ⟨_,rfl⟩
def cS (lv:Int):List Int→St→St
 | [],S=>S
 | k::ks,S=>cS lv ks (match ai k S with
  | some w=>aI k { w with lv:=min w.lv lv } S
  | none=>S)
def b7 (f:Nat) (S:St) (n:Int) (t:Ty):Option (Bool×St):=match ai n S with
 | some v=>(match dH f S t with
  | some r=>if r.sz<lim∧(aw [] r).all (fun k=>(ai k S).isSome)=true then
   (if (aw [] r).contains n=true then some (false,S) else some (true,aI n { v with bd:=true,val:=t } (cS v.lv (aw [] r) S))) else none
  | none=>none)
 | none=>none
theorem kf {κ α:Type} [DecidableEq κ] {k:κ} {v:α}:∀ {l:List (κ×α)},(ai k l).isSome=true→(aI k v l).length=l.length
 | [],h=>by simp [ai] at h
 | p::l,h=>by
  rw [ai] at h
  rw [aI]
  split
  · rfl
  · rename_i e
    rw [if_neg e] at h
    simp [kf h]
theorem iF {κ α:Type} [DecidableEq κ] {k:κ} {v:α}:∀ {l:List (κ×α)},ai k l=none→(aI k v l).length=l.length+1
 | [],_=>rfl
 | p::l,h=>by
  rw [ai] at h
  rw [aI]
  split
  · rename_i e;rw [if_pos e] at h;cases h
  · rename_i e
    rw [if_neg e] at h
    simp [iF h]
theorem eR (lv:Int):∀ (ks:List Int) (S:St),(cS lv ks S).length=S.length∧∀ m,(∀ x,ai m S=some x→∃ l,ai m (cS lv ks S)=some { x with lv:=l })∧(∀ x,ai m (cS lv ks S)=some x→∃ y,ai m S=some y)
 | [],S=>⟨rfl,fun m=>⟨fun x h=>⟨x.lv,h⟩,fun x h=>⟨x,h⟩⟩⟩
 | k::ks,S=>by
  rw [cS]
  cases hk:ai k S with
  | none=>exact eR lv ks S
  | some w =>
   obtain ⟨h1,h2⟩:=eR lv ks (aI k { w with lv:=min w.lv lv } S)
   refine ⟨h1.trans (kf (by rw [hk];rfl)),fun m=>⟨fun x hx=>?_,fun x hx=>?_⟩⟩
   · by_cases e:m=k
     · subst e
       rw [hk] at hx;cases hx
       obtain ⟨l,hl⟩:=(h2 m).1 { w with lv:=min w.lv lv } (by rw [aP,if_pos rfl])
       exact ⟨l,hl⟩
     · exact (h2 m).1 x (by rw [aP,if_neg e];exact hx)
   · obtain ⟨y,hy⟩:=(h2 m).2 x hx
     rw [aP] at hy
     split at hy
     · rename_i e;subst e;exact ⟨w,hk⟩
     · exact ⟨y,hy⟩
theorem iP {S:St} {n:Int} {t:Ty} {v:Vr} (hv:ai n S=some v) (ks:List Int):Bnd S (aI n { v with bd:=true,val:=t } (cS v.lv ks S)) n t:=by
 obtain ⟨h1,h2⟩:=eR v.lv ks S
 refine ⟨?_,fun m x hx=>?_,fun m x hx=>?_⟩
 · obtain ⟨l,hl⟩:=(h2 n).1 v hv
   rw [kf (by rw [hl];rfl),h1]
 · rw [aP]
   by_cases e:m=n
   · subst e
     rw [hv] at hx;cases hx
     rw [if_pos rfl]
     exact ⟨_,rfl,rfl,rfl,fun _=>⟨rfl,rfl⟩,fun h=>absurd rfl h⟩
   · rw [if_neg e]
     obtain ⟨l,hl⟩:=(h2 m).1 x hx
     exact ⟨_,hl,rfl,rfl,fun h=>absurd h e,fun _=>⟨rfl,rfl⟩⟩
 · rw [aP] at hx
   split at hx
   · rename_i e;subst e;exact ⟨v,hv⟩
   · exact (h2 m).2 x hx
theorem e9 {S S':St} {f:Nat} {n:Int} {t:Ty} {x:Vr} {ok:Bool} (h:b7 f S n t=some (ok,S')) (hi:Inv S) (hx:ai n S=some x) (hb:x.bd=false) (hv:vV S x t) (hn:Hn S t)
 (hne:t.kind=6→t.n≠n) (hnr:x.row=true→t.n≠n):gJ S S' ok (fun σ=>σ n=sub σ t):=by
 obtain ⟨wf,ρ,rk,hρ,hrk⟩:=hi
 unfold b7 at h
 rw [hx] at h
 simp only at h
 split at h <;> try (cases h;done)
 rename_i r hr
 have hvB:vB S x t:=⟨hv,fun h=>hn (.inl (hv.2 h).k5)⟩
 obtain ⟨q1,q2,q3⟩:=DI wf hr hvB
 have hrr:=F3 wf hρ hr hvB
 split at h <;> try (cases h;done)
 split at h
 · rename_i hc
   cases h
   have hm:n∈ch r:=gd.1 (List.contains_iff_mem.1 hc)
   refine ⟨⟨wf,ρ,rk,hρ,hrk⟩,Ext.refl _,fun _ h=>h,fun h=>absurd h dq,fun σ hs he=>?_⟩
   exfalso
   obtain ⟨ks,rfl⟩:=Ct hr hn
   obtain ⟨o,ho,e⟩:=bC.1 hm
   have hin:=q1.in.2 o ho
   rcases bD ho with h|h|⟨k,hk,ho'⟩
   · exact hne h.1 (by rw [h.2] at e;exact e)
   · by_cases hrow:x.row=true
     · exact hnr hrow (by rw [h.2.2] at e;exact e)
     · obtain ⟨y,y1,y2⟩:=hin
       rw [e,hx] at y1;cases y1
       rw [h.2.2] at y2
       exact hrow y2
   · have hg:=q1.in.1
     have hok:=hs.okG q1.in.2
     have hd:=q1.dj hs
     have hnk:∀ o∈az k,o∈az (Ty.mk t.kind t.name t.n t.names ks):=fun o ho=>cB hk ho
     obtain ⟨_,hd1,hd2⟩:=hd
     have h1:=FV (hg.kid_G (k:=k) hk) (fun o ho=>hok o (hnk o ho)) (hd2 k hk) o ho'
     have h6:t.kind≠6:=by
      intro h6
      have:=(hg.k6 h6).1
      rw [show ks=[] from this] at hk
      simp at hk
     have h2:=pv (mc hg hok hd1 h6 hk)
     rw [e] at h1
     have h3:=q3 σ hs
     have he:σ n=sub σ t:=he
     rw [h3,← he] at h2
     omega
 · rename_i hc
   cases h
   have hno:n∉ch (sub ρ t):=by rw [← hrr];intro hm;exact hc (List.contains_iff_mem.2 (gd.2 hm))
   have hB:=iP (t:=t) hx (aw [] r)
   obtain ⟨rk',hrk'⟩:=Ez wf hρ hrk hx hb hv hB hno
   exact ⟨⟨E1 wf hx hv hB,_,rk',Gg wf hρ hx hb hv hB hno,hrk'⟩,hB.ext,fun σ h=>((jY wf hx hb hB σ).1 h).1,fun _ σ h=>((jY wf hx hb hB σ).1 h).2,
    fun σ hs he=>⟨rfl,σ,(jY wf hx hb hB σ).2 ⟨hs,he⟩,fun _ _ _=>rfl⟩⟩
theorem gJ.then {S T U:St} {ok:Bool} {e1 e2:(Int→Ty)→Prop} (h:gJ S T true e1) (k:gJ T U ok e2) (hc:∀ σ,Sol T σ→∀ τ,(∀ n x,ai n S=some x→σ n=τ n)→Sol S τ→e1 τ→e2 τ→e2 σ):gJ S U ok (fun σ=>e1 σ∧e2 σ) where
 inv:=k.inv
 ext:=h.ext.trans k.ext
 back:=fun σ hs=>h.back σ (k.back σ hs)
 sound:=fun ho σ hs=>⟨h.sound rfl σ (k.back σ hs),k.sound ho σ hs⟩
 compl:=fun σ hs he=>by
  obtain ⟨_,σ1,h1,h2⟩:=h.compl σ hs he.1
  obtain ⟨k1,σ2,k2,k3⟩:=k.compl σ1 h1 (hc σ1 h1 σ h2 hs he.1 he.2)
  refine ⟨k1,σ2,k2,fun n x hx=>?_⟩
  obtain ⟨x',hx',_⟩:=h.ext n x hx
  rw [k3 n x' hx',h2 n x hx]
def onT (a b:Ty) (n:Int):Ty:=recT (onL a b a.names.length) n
theorem my {t u:Ty} {s:List UInt8} {x:Ty} (hnd:t.names.Nodup) (hl:t.names.length=t.kids.length):∀ k,k≤t.names.length→(ai s (onL t u k)=some x↔s∉u.names∧∃ i,i<k∧t.names.getD i []=s∧t.kids.getD i Ty.zero=x)
 | 0,_=>by simp [onL,ai]
 | k+1,hk=>by
  have ih:=my (s:=s) (x:=x) (u:=u) hnd hl k oq
  rw [onL]
  have hlast:∀ i,i<k+1→i<k∨i=k:=fun i hi=>by omega
  by_cases hc:u.names.contains (t.names.getD k [])=true
  · rw [if_pos hc,ih]
    have hc':=List.contains_iff_mem.1 hc
    constructor
    · rintro ⟨h1,i,hi,h2⟩;exact ⟨h1,i,by omega,h2⟩
    · rintro ⟨h1,i,hi,h2,h3⟩
      rcases hlast i hi with h|h
      · exact ⟨h1,i,h,h2,h3⟩
      · subst h;rw [h2] at hc';exact absurd hc' h1
  · rw [if_neg hc,aP]
    by_cases e:s=t.names.getD k []
    · rw [if_pos e]
      constructor
      · intro h;cases h
        exact ⟨fun hm=>hc (List.contains_iff_mem.2 (e▸hm)),k,by omega,e.symm,rfl⟩
      · rintro ⟨h1,i,hi,h2,h3⟩
        rcases hlast i hi with h|h
        · exfalso
          have hk':k<t.names.length:=by omega
          have hi':i<t.names.length:=by omega
          rw [e,List.getD_eq_getElem?_getD,List.getD_eq_getElem?_getD,List.getElem?_eq_getElem hk',List.getElem?_eq_getElem hi'] at h2
          have:=(List.getElem_inj hnd).1 (show t.names[i]=t.names[k] from h2)
          omega
        · subst h;rw [h3]
    · rw [if_neg e,ih]
      constructor
      · rintro ⟨h1,i,hi,h2⟩;exact ⟨h1,i,by omega,h2⟩
      · rintro ⟨h1,i,hi,h2,h3⟩
        rcases hlast i hi with h|h
        · exact ⟨h1,i,h,h2,h3⟩
        · subst h;exact absurd h2.symm e
theorem zE {s:List UInt8} {t x:Ty} (hnd:t.names.Nodup) (hl:t.names.length=t.kids.length):fg s t=some x↔∃ i,i<t.names.length∧t.names.getD i []=s∧t.kids.getD i Ty.zero=x:=by
 constructor
 · intro h
   obtain ⟨i,hi,e⟩:=List.getElem_of_mem (gC h)
   rw [List.getElem_zip] at e
   rw [List.length_zip] at hi
   have e':=Prod.mk.inj e
   refine ⟨i,by omega,?_,?_⟩
   · rw [List.getD_eq_getElem?_getD,List.getElem?_eq_getElem oq];exact e'.1
   · rw [List.getD_eq_getElem?_getD,List.getElem?_eq_getElem oq];exact e'.2
 · rintro ⟨i,hi,rfl,rfl⟩
   have hz:i<(t.names.zip t.kids).length:=by rw [List.length_zip];omega
   have hm:=List.getElem_mem hz
   rw [List.getElem_zip] at hm
   rw [List.getD_eq_getElem?_getD,List.getD_eq_getElem?_getD,List.getElem?_eq_getElem hi,List.getElem?_eq_getElem (by omega:i<t.kids.length)]
   exact km (by rw [du hl];exact hnd) hm
theorem uJ {a b:Ty} {n:Int} (hnd:a.names.Nodup) (hl:a.names.length=a.kids.length) (s:List UInt8):fg s (onT a b n)=if s∈b.names then none else fg s a:=by
 unfold onT
 rw [pa (gp a b _).1]
 have h:=fun x=>my (s:=s) (x:=x) (u:=b) hnd hl a.names.length (Nat.le_refl _)
 have h2:=fun x=>zE (s:=s) (x:=x) hnd hl
 split
 · rename_i hm
   cases hg:ai s (onL a b a.names.length) with
   | none=>rfl
   | some x=>exact absurd hm ((h x).1 hg).1
 · rename_i hm
   cases hf:fg s a with
   | some x=>exact (h x).2 ⟨hm,(h2 x).1 hf⟩
   | none =>
    cases hg:ai s (onL a b a.names.length) with
    | none=>rfl
    | some x =>
     have:=(h2 x).2 ((h x).1 hg).2
     rw [hf] at this;cases this
theorem zT {a b k:Ty} {n:Int} (hnd:a.names.Nodup) (hl:a.names.length=a.kids.length) (h:k∈(onT a b n).kids):k∈a.kids:=by
 unfold onT at h
 rw [dw] at h
 obtain ⟨s,hs,rfl⟩:=List.mem_map.1 h
 obtain ⟨x,hx⟩:=Option.isSome_iff_exists.1 (cX.2 ((bU _).mem_iff.1 hs))
 rw [hx]
 obtain ⟨i,hi,_,e⟩:=((my hnd hl _ (Nat.le_refl _)).1 hx).2
 have hi':i<a.kids.length:=by omega
 rw [List.getD_eq_getElem?_getD,List.getElem?_eq_getElem hi'] at e
 rw [Option.getD_some,← e]
 exact List.getElem_mem hi'
theorem CG {a b:Ty} {n:Int} (hnd:a.names.Nodup) (hl:a.names.length=a.kids.length) (h0:0≤n) (hk:∀ k∈a.kids,Gt k):Gt (onT a b n):=by
 refine ug (gp a b _).1 h0 fun p hp=>?_
 have:=km (gp a b a.names.length).1 (k:=p.1) (x:=p.2) hp
 obtain ⟨i,hi,_,e⟩:=((my hnd hl _ (Nat.le_refl _)).1 this).2
 have hi':i<a.kids.length:=by omega
 rw [List.getD_eq_getElem?_getD,List.getElem?_eq_getElem hi'] at e
 rw [← e]
 exact hk _ (List.getElem_mem hi')
theorem kX {a b:Ty} {n:Int} (hnd:a.names.Nodup) (hl:a.names.length=a.kids.length) (s:List UInt8):s∈(onT a b n).names↔s∈a.names∧s∉b.names:=by
 have hl':(onT a b n).names.length=(onT a b n).kids.length:=by unfold onT;rw [eC,dw,List.length_map]
 have h1:=b3 (s:=s) hl'
 have h2:=b3 (s:=s) hl
 rw [uJ hnd hl] at h1
 by_cases hb:s∈b.names
 · rw [if_pos hb] at h1
   exact ⟨fun h=>absurd h (h1.1 rfl),fun h=>absurd hb h.2⟩
 · rw [if_neg hb] at h1
   rw [h1] at h2
   by_cases ha:s∈a.names
   · exact ⟨fun _=>⟨ha,hb⟩,fun _=>Classical.byContradiction fun h=>(h2.1 h) ha⟩
   · exact ⟨fun h=>absurd h (h2.2 ha),fun h=>absurd h.1 ha⟩
abbrev Dn:=List (List UInt8×Bool)
abbrev UF:=St→Ty→Ty→Option (Bool×St)
def isD (D:Dn) (s:List UInt8):Bool:=match ai s D with
 | some b=>b
 | none=>false
def ci (U:UF) (b:Ty):List (List UInt8)→List Ty→St→Dn→Bool→Option (Bool×St×Dn×Bool)
 | s::ns,k::ks,S,D,ag=>if cG b.names s<0∨isD D s=true then ci U b ns ks S D ag else (match U S k (b.kids.getD (cG b.names s).toNat Ty.zero) with
  | some (true,S')=>ci U b ns ks S' (aI s true D) true
  | some (false,S')=>some (false,S',aI s true D,true)
  | none=>none)
 | _,_,S,D,ag=>some (true,S,D,ag)
def rok (t:Ty):Prop:=t.sz<lim∧t.names.length=t.kids.length
instance (t:Ty):Decidable (rok t):=inferInstanceAs (Decidable (_∧_))
def dW (f:Nat) (U:UF):Nat→St→Ty→Ty→Dn→Option (Bool×St×Ty×Ty)
 | 0,_,_,_,_=>none
 | g+1,S,a,b,D=>match bY f S a with
  | some a'=>(match bY f S b with
   | some b'=>if rok a'∧rok b' then (match ci U b' a'.names a'.kids S D false with
    | some (true,S',D',true)=>dW f U g S' a' b' D'
    | some (true,S',_,false)=>some (true,S',a',b')
    | some (false,S',_,_)=>some (false,S',a',b')
    | none=>none) else none
   | none=>none)
  | none=>none
def eI (l:List (List UInt8)):Dn:=l.foldl (fun m x=>aI x true m) []
def iy (a b:Ty):List (List UInt8):=aD ((eI (a.names++b.names)).map Prod.fst)
def fD (S:St) (n:Int):Int:=match ai n S with
 | some x=>x.lv
 | none=>0
def dQ (S:St) (a b:Ty):St:=aI ((S.length+1:Nat):Int) ⟨true,min (fD S a.n) (fD S b.n),false,Ty.zero,iy a b⟩ S
def fB (f:Nat) (S:St) (a b:Ty):Option (Bool×St) :=
 if (onT a b b.n).sz<lim∧(onT b a a.n).sz<lim then
 (if a.n=b.n then some (decide ((onT a b b.n).names.length+(onT b a a.n).names.length=0),S)
 else if (0<(onT a b b.n).names.length∧b.n=0)∨(0<(onT b a a.n).names.length∧a.n=0) then some (false,S)
 else if (onT a b b.n).names.length=0∧a.n≠0 then b7 f S a.n (onT b a b.n)
 else if (onT b a a.n).names.length=0 then b7 f S b.n (onT a b a.n)
 else if S.length<lim∧(ai a.n S).isSome=true∧(ai b.n S).isSome=true then (match b7 f (dQ S a b) a.n (onT b a ((S.length+1:Nat):Int)) with
  | some (true,S2)=>b7 f S2 b.n (onT a b ((S.length+1:Nat):Int))
  | some (false,S2)=>some (false,S2)
  | none=>none) else none) else none
def gE (f:Nat) (U:UF) (S:St) (a b:Ty):Option (Bool×St):=match dW f U f S a b [] with
 | some (true,S',a',b')=>fB f S' a' b'
 | some (false,S',_,_)=>some (false,S')
 | none=>none
def bt:Nat→St→Ty→Ty→Option (Bool×St)
 | 0,_,_,_=>none
 | f+1,S,a,b=>match bY f S a with
  | some a'=>(match bY f S b with
   | some b'=>if a'.sz<lim∧b'.sz<lim then
    (if a'.kind=6∧b'.kind=6∧a'.n=b'.n then some (true,S)
    else if a'.kind=6 then b7 f S a'.n b'
    else if b'.kind=6 then b7 f S b'.n a'
    else if a'.kind≠b'.kind∨a'.name≠b'.name then some (false,S)
    else if a'.kind=5 then gE f (bt f) S a' b'
    else if a'.kind=4 then (if 0<a'.kids.length∧0<b'.kids.length then bt f S (a'.kids.getD 0 Ty.zero) (b'.kids.getD 0 Ty.zero) else none)
    else some (true,S)) else none
   | none=>none)
  | none=>none
theorem tyS.n0 {S:St} {a:Ty} (h:tyS S a) (h5:a.kind=5):0≤a.n:=(h.1.sorted h5).2.2.2.1
theorem tyS.var {S:St} {a:Ty} (h:tyS S a) (h5:a.kind=5) (hn:a.n≠0):∃ x,ai a.n S=some x∧x.row=true∧x.names=a.names:=by
 obtain ⟨x,h1,h2,h3⟩:=h.2 _ (cI h5 hn)
 exact ⟨x,h1,h2,h3 rfl⟩
def aO (σ:Int→Ty) (a:Ty) (s:List UInt8):Option Ty:=if a.n=0 then none else fg s (σ a.n)
theorem uO {S:St} {σ:Int→Ty} {a:Ty} (h:tyS S a) (h5:a.kind=5) (hs:Sol S σ) {s:List UInt8} (hm:s∈a.names):aO σ a s=none:=by
 unfold aO
 split
 · rfl
 · rename_i hn
   obtain ⟨x,h1,h2,h3⟩:=h.var h5 hn
   exact (hs.row _ x h1 h2).2 s (by rw [h3];exact hm)
theorem tyS.field {S:St} {σ:Int→Ty} {a:Ty} (h:tyS S a) (h5:a.kind=5) (hs:Sol S σ) (s:List UInt8):fg s (sub σ a)=(aO σ a s).orElse fun _=>(fg s a).map (sub σ):=by
 rw [dh h.1 h5 (h.okG hs)]
 unfold aO
 split
 · rfl
 · rfl
theorem tyS.field1 {S:St} {σ:Int→Ty} {a k:Ty} (h:tyS S a) (h5:a.kind=5) (hs:Sol S σ) {s:List UInt8} (hf:fg s a=some k):fg s (sub σ a)=some (sub σ k):=by
 rw [h.field h5 hs,uO h h5 hs (mt hf),hf];rfl
theorem tyS.field0 {S:St} {σ:Int→Ty} {a:Ty} (h:tyS S a) (h5:a.kind=5) (hs:Sol S σ) {s:List UInt8} (hm:s∉a.names):fg s (sub σ a)=aO σ a s:=by
 rw [h.field h5 hs,(b3 (h.1.sorted h5).2.1).2 hm];cases aO σ a s <;> rfl
theorem tyS.tail {S:St} {σ:Int→Ty} {a:Ty} (_:tyS S a) (h5:a.kind=5):(sub σ a).n=if a.n=0 then 0 else (σ a.n).n:=d9 h5
theorem jP {S:St} {a b:Ty} {n:Int} (ha:tyS S a) (h5:a.kind=5) (h0:0≤n) (hr:n≠0→∃ x,ai n S=some x∧x.row=true∧∀ s,s∈x.names↔s∈b.names∨s∈a.names):rwS S b.names (onT a b n):=by
 obtain ⟨s1,s2,s3,s4,s5⟩:=ha.1.sorted h5
 refine ⟨CG (aE s1) s2 h0 s5,rfl,fun k hk=>ha.kid (zT (aE s1) s2 hk),fun s hs=>((kX (aE s1) s2 s).1 hs).2,fun hn=>?_⟩
 obtain ⟨x,h1,h2,h3⟩:=hr hn
 refine ⟨x,h1,h2,fun s=>?_⟩
 rw [h3,kX (aE s1) s2]
 by_cases hb:s∈b.names <;> simp [hb]
theorem iG {S:St} {σ:Int→Ty} {a b:Ty} {n:Int} (ha:tyS S a) (h5:a.kind=5) (hs:Sol S σ) (hv:rwS S b.names (onT a b n)) (s:List UInt8) :
 fg s (sub σ (onT a b n))=if n=0 then (if s∈b.names then none else (fg s a).map (sub σ)) else (fg s (σ n)).orElse fun _=>if s∈b.names then none else (fg s a).map (sub σ):=by
 obtain ⟨s1,s2,_⟩:=ha.1.sorted h5
 rw [dh hv.gt rfl (hv.okG hs),uJ (aE s1) s2]
 show (if n=0 then _ else (fg s (σ n)).orElse _)=_
 by_cases hb:s∈b.names
 · rw [if_pos hb,if_pos hb];rfl
 · rw [if_neg hb,if_neg hb]
theorem Ho {S:St} {σ:Int→Ty} {a b:Ty} (ha:tyS S a) (hb:tyS S b) (ka:a.kind=5) (kb:b.kind=5) (hs:Sol S σ) (hn:(sub σ a).n=(sub σ b).n) (hf:∀ s,fg s (sub σ a)=fg s (sub σ b)):sub σ a=sub σ b :=
 eu (eX ha.1 (ha.okG hs)) (eX hb.1 (hb.okG hs)) (by rw [bG (by rw [ka];decide)];exact ka) (by rw [bG (by rw [kb];decide)];exact kb) hn hf
theorem A0 {S:St} {a b:Ty} (ha:tyS S a) (hb:tyS S b) (ka:a.kind=5) (kb:b.kind=5) (hsub:∀ s∈a.names,s∈b.names) (hn:a.n≠0) (hv:rwS S a.names (onT b a b.n)) {σ:Int→Ty} (hs:Sol S σ)
 (hcom:∀ s x y,fg s a=some x→fg s b=some y→sub σ x=sub σ y):σ a.n=sub σ (onT b a b.n)↔sub σ a=sub σ b:=by
 obtain ⟨x,h1,h2,h3⟩:=ha.var ka hn
 obtain ⟨a1,a2,_⟩:=ha.1.sorted ka
 obtain ⟨b1,b2,_⟩:=hb.1.sorted kb
 have hr:=hs.row _ x h1 h2
 have hg:=hs.gt _ x h1
 have hGo:=eX hv.gt (hv.okG hs)
 have hko:(sub σ (onT b a b.n)).kind=5:=by rw [bG (by rw [hv.k5];decide)];rfl
 have hno:(sub σ (onT b a b.n)).n=(sub σ b).n:=by
  rw [hb.tail kb]
  exact d9 (σ:=σ) (t:=onT b a b.n) rfl
 have hna:(sub σ a).n=(σ a.n).n:=by rw [ha.tail ka,if_neg hn]
 have ho:∀ s,s∉a.names→fg s (sub σ (onT b a b.n))=fg s (sub σ b):=by
  intro s hm
  rw [iG hb kb hs hv,if_neg hm,hb.field kb hs]
  unfold aO
  split
  · rfl
  · rfl
 constructor
 · intro e
   refine Ho ha hb ka kb hs (by rw [hna,e,hno]) fun s=>?_
   by_cases hm:s∈a.names
   · obtain ⟨k,hk⟩:=dP a2 hm
     obtain ⟨k',hk'⟩:=dP b2 (hsub s hm)
     rw [ha.field1 ka hs hk,hb.field1 kb hs hk',hcom s k k' hk hk']
   · rw [ha.field0 ka hs hm,← ho s hm,← e]
     unfold aO
     rw [if_neg hn]
 · intro e
   refine eu hg hGo hr.1 hko (by rw [← hna,e,hno]) fun s=>?_
   by_cases hm:s∈a.names
   · rw [hr.2 s (by rw [h3];exact hm),hv.nof hs hm]
   · rw [ho s hm,← e,ha.field0 ka hs hm]
     unfold aO
     rw [if_neg hn]
theorem lV {S:St} {t:Ty} (h5:t.kind=5) (hn:bdV S t.n=none):Hn S t:=fun _=>hn
theorem bd0 {S:St} (wf:Wf S):bdV S 0=none:=by unfold bdV;rw [wf.zero]
theorem fT {a b:Ty} {n:Int} (hnd:a.names.Nodup) (hl:a.names.length=a.kids.length) (h:(onT a b n).names.length=0):∀ s∈a.names,s∈b.names:=fun s hs =>
 Classical.byContradiction fun hb=>by
  have:=(kX (b:=b) (n:=n) hnd hl s).2 ⟨hs,hb⟩
  rw [List.eq_nil_of_length_eq_zero h] at this
  simp at this
theorem kQ {a b:Ty} {n:Int} (hnd:a.names.Nodup) (hl:a.names.length=a.kids.length) (h:0<(onT a b n).names.length):∃ s,s∈a.names∧s∉b.names:=by
 obtain ⟨s,hs⟩:=List.exists_mem_of_length_pos h
 exact ⟨s,(kX hnd hl s).1 hs⟩
theorem mf:∀ (l:List (List UInt8)) (m:Dn),(m.map Prod.fst).Nodup→((l.foldl (fun m x=>aI x true m) m).map Prod.fst).Nodup∧∀ s,s∈(l.foldl (fun m x=>aI x true m) m).map Prod.fst↔s∈m.map Prod.fst∨s∈l
 | [],m,h=>⟨h,fun s=>by simp⟩
 | x::l,m,h=>by
  have hk:∀ m:Dn,(aI x true m).map Prod.fst=if x∈m.map Prod.fst then m.map Prod.fst else m.map Prod.fst++[x]:=by
   intro m
   induction m with
   | nil=>simp [aI]
   | cons p m ih =>
    rw [aI]
    by_cases e:x=p.1
    · rw [if_pos e,if_pos (by rw [List.map_cons];exact List.mem_cons.2 (.inl e))];simp [e]
    · rw [if_neg e,List.map_cons,ih,List.map_cons]
      by_cases hm:x∈m.map Prod.fst
      · rw [if_pos hm,if_pos (List.mem_cons_of_mem _ hm)]
      · rw [if_neg hm,if_neg (by simp only [List.mem_cons,not_or];exact ⟨e,hm⟩)];rfl
  rw [List.foldl_cons]
  have hnd:((aI x true m).map Prod.fst).Nodup:=by
   rw [hk]
   split
   · exact h
   · rename_i hm
     rw [List.nodup_append]
     exact ⟨h,by simp,fun a ha b hb=>by simp only [List.mem_singleton] at hb;subst hb;rintro rfl;exact hm ha⟩
  obtain ⟨h1,h2⟩:=mf l _ hnd
  refine ⟨h1,fun s=>?_⟩
  rw [h2,hk]
  split
  · rename_i hm
    simp only [List.mem_cons]
    constructor
    · rintro (h|h)
      · exact .inl h
      · exact .inr (.inr h)
    · rintro (h|rfl|h)
      · exact .inl h
      · exact .inl hm
      · exact .inr h
  · simp only [List.mem_append,List.mem_singleton,List.mem_cons,or_assoc,List.not_mem_nil,or_false]
theorem eL (a b:Ty) (s:List UInt8):s∈iy a b↔s∈a.names∨s∈b.names:=by
 unfold iy eI
 rw [(bU _).mem_iff,(mf _ [] zq).2]
 simp
theorem zR (a b:Ty):(iy a b).Pairwise (fun a b=>a<b):=mu (mf _ [] zq).1
theorem xo {S:St} (wf:Wf S) (a b:Ty):∃ v,New S (dQ S a b) v∧v.row=true∧v.names=iy a b:=by
 refine ⟨⟨true,min (fD S a.n) (fD S b.n),false,Ty.zero,iy a b⟩,⟨iF wf.fresh,?_,fun m hm=>?_,rfl,zR a b⟩,rfl,rfl⟩
 · unfold dQ;rw [aP,if_pos rfl]
 · unfold dQ;rw [aP,if_neg hm]
theorem Inv.new {S S':St} {v:Vr} (h:Inv S) (hn:New S S' v):Inv S':=by
 obtain ⟨wf,ρ,rk,h1,h2⟩:=h
 exact ⟨hn.wf wf,_,rk,hn.rv wf h1,hn.rk wf h2⟩
theorem gJ.refl {S:St} (hi:Inv S) {e:(Int→Ty)→Prop} (h:∀ σ,Sol S σ→e σ):gJ S S true e:=⟨hi,Ext.refl _,fun _ h=>h,fun _ σ hs=>h σ hs,fun σ hs _=>⟨rfl,σ,hs,fun _ _ _=>rfl⟩⟩
theorem gJ.no {S:St} (hi:Inv S) {e:(Int→Ty)→Prop} (h:∀ σ,Sol S σ→¬ e σ):gJ S S false e:=⟨hi,Ext.refl _,fun _ h=>h,fun h=>absurd h dq,fun σ hs he=>absurd he (h σ hs)⟩
theorem gJ.congr {S S':St} {ok:Bool} {e e':(Int→Ty)→Prop} (h:gJ S S' ok e) (he:∀ σ,Sol S σ→(e σ↔e' σ)):gJ S S' ok e' :=
 ⟨h.inv,h.ext,h.back,fun ho σ hs=>(he σ (h.back σ hs)).1 (h.sound ho σ hs),fun σ hs hh=>h.compl σ hs ((he σ hs).2 hh)⟩
section
variable {S S':St} {a b:Ty} {f:Nat} {ok:Bool}
theorem Cr {p:Prop} (h:p:=by show ¬ (5:Int)=6;decide):p:=h
theorem Dh (h:fB f S a b=some (ok,S')) (hi:Inv S) (ha:tyS S a) (hb:tyS S b) (ka:a.kind=5) (kb:b.kind=5) (na:bdV S a.n=none) (nb:bdV S b.n=none)
 (hcom:∀ σ,Sol S σ→∀ s x y,fg s a=some x→fg s b=some y→sub σ x=sub σ y):gJ S S' ok (fun σ=>sub σ a=sub σ b):=by
 have wf:=hi.1
 obtain ⟨a1,a2,_⟩:=ha.1.sorted ka
 obtain ⟨b1,b2,_⟩:=hb.1.sorted kb
 have a0:=ha.n0 ka
 have b0:=hb.n0 kb
 unfold fB at h
 split at h <;> try (cases h;done)
 split at h
 · rename_i e
   cases h
   by_cases hl:(onT a b b.n).names.length+(onT b a a.n).names.length=0
   · rw [decide_eq_true hl]
     have hsa:=fT (b:=b) (n:=b.n) (aE a1) a2 oq
     have hsb:=fT (b:=a) (n:=a.n) (aE b1) b2 oq
     refine gJ.refl hi fun σ hs=>Ho ha hb ka kb hs (by rw [ha.tail ka,hb.tail kb,e]) fun s=>?_
     by_cases hm:s∈a.names
     · obtain ⟨k,hk⟩:=dP a2 hm
       obtain ⟨k',hk'⟩:=dP b2 (hsa s hm)
       rw [ha.field1 ka hs hk,hb.field1 kb hs hk',hcom σ hs s k k' hk hk']
     · rw [ha.field0 ka hs hm,hb.field0 kb hs fun h=>hm (hsb s h)]
       unfold aO
       rw [e]
   · rw [decide_eq_false hl]
     refine gJ.no hi fun σ hs he=>?_
     by_cases hl1:0<(onT a b b.n).names.length
     · obtain ⟨s,h1,h2⟩:=kQ (aE a1) a2 hl1
       obtain ⟨k,hk⟩:=dP a2 h1
       have:=ha.field1 ka hs hk
       rw [he,hb.field0 kb hs h2] at this
       have h0:=uO ha ka hs h1
       unfold aO at this h0
       rw [e] at h0
       rw [h0] at this
       cases this
     · obtain ⟨s,h1,h2⟩:=kQ (a:=b) (b:=a) (n:=a.n) (aE b1) b2 oq
       obtain ⟨k,hk⟩:=dP b2 h1
       have:=hb.field1 kb hs hk
       rw [← he,ha.field0 ka hs h2] at this
       have h0:=uO hb kb hs h1
       unfold aO at this h0
       rw [e] at this
       rw [h0] at this
       cases this
 rename_i hne
 split at h
 · rename_i hc
   cases h
   refine gJ.no hi fun σ hs he=>?_
   rcases hc with ⟨hl,e⟩|⟨hl,e⟩
   · obtain ⟨s,h1,h2⟩:=kQ (aE a1) a2 hl
     obtain ⟨k,hk⟩:=dP a2 h1
     have:=ha.field1 ka hs hk
     rw [he,hb.field0 kb hs h2] at this
     unfold aO at this
     rw [if_pos e] at this
     cases this
   · obtain ⟨s,h1,h2⟩:=kQ (aE b1) b2 hl
     obtain ⟨k,hk⟩:=dP b2 h1
     have:=hb.field1 kb hs hk
     rw [← he,ha.field0 ka hs h2] at this
     unfold aO at this
     rw [if_pos e] at this
     cases this
 rename_i hc
 split at h
 · rename_i hca
   obtain ⟨hl,hn⟩:=hca
   have hsub:=fT (b:=b) (n:=b.n) (aE a1) a2 hl
   obtain ⟨x,h1,h2,h3⟩:=ha.var ka hn
   have hv:rwS S a.names (onT b a b.n):=jP hb kb b0 fun hn'=>by
    obtain ⟨y,y1,y2,y3⟩:=hb.var kb hn'
    exact ⟨y,y1,y2,fun s=>by rw [y3];exact ⟨.inr,fun h=>h.elim (hsub s) id⟩⟩
   have hst:=e9 h hi h1 (bZ na h1) ⟨fun hf=>absurd (h2.symm.trans hf) dq,fun _=>by rw [h3];exact hv⟩ (lV rfl nb) (fun h6=>absurd h6 Cr) (fun _ e=>hne e.symm)
   exact hst.congr fun σ hs=>A0 ha hb ka kb hsub hn hv hs (hcom σ hs)
 rename_i hca
 split at h
 · rename_i hl
   have hn:b.n≠0:=by
    intro e
    have hl1:¬ 0<(onT a b b.n).names.length:=fun hp=>hc (.inl ⟨hp,e⟩)
    have hna:a.n=0:=Classical.byContradiction fun h0=>hca ⟨by omega,h0⟩
    exact hne (hna.trans e.symm)
   have hsub:=fT (b:=a) (n:=a.n) (aE b1) b2 hl
   obtain ⟨x,h1,h2,h3⟩:=hb.var kb hn
   have hv:rwS S b.names (onT a b a.n):=jP ha ka a0 fun hn'=>by
    obtain ⟨y,y1,y2,y3⟩:=ha.var ka hn'
    exact ⟨y,y1,y2,fun s=>by rw [y3];exact ⟨.inr,fun h=>h.elim (hsub s) id⟩⟩
   have hst:=e9 h hi h1 (bZ nb h1) ⟨fun hf=>absurd (h2.symm.trans hf) dq,fun _=>by rw [h3];exact hv⟩ (lV rfl na) (fun h6=>absurd h6 Cr) (fun _ e=>hne e)
   refine hst.congr fun σ hs=>(A0 hb ha kb ka hsub hn hv hs fun s x y hx hy=>(hcom σ hs s y x hy hx).symm).trans ⟨Eq.symm,Eq.symm⟩
 rename_i hlb
 have hla:¬ (onT a b b.n).names.length=0:=by
  intro e
  have hn:a.n=0:=Classical.byContradiction fun h0=>hca ⟨e,h0⟩
  exact hc (.inr ⟨by omega,hn⟩)
 have hna:a.n≠0:=fun e=>hc (.inr ⟨by omega,e⟩)
 have hnb:b.n≠0:=fun e=>hc (.inl ⟨by omega,e⟩)
 obtain ⟨v,hnew,hvr,hvn⟩:=xo wf a b
 have hi1:=hi.new hnew
 have he1:=hnew.ext wf
 have ha1:=ha.ext he1
 have hb1:=hb.ext he1
 obtain ⟨xa,xa1,xa2,xa3⟩:=ha.var ka hna
 obtain ⟨xb,xb1,xb2,xb3⟩:=hb.var kb hnb
 have hka:a.n≠((S.length+1:Nat):Int):=wf.ne xa1
 have hkb:b.n≠((S.length+1:Nat):Int):=wf.ne xb1
 have xa1':ai a.n (dQ S a b)=some xa:=by rw [hnew.oth _ hka];exact xa1
 have xb1':ai b.n (dQ S a b)=some xb:=by rw [hnew.oth _ hkb];exact xb1
 have hk0:bdV (dQ S a b) ((S.length+1:Nat):Int)=none:=by rw [ii hnew.at_,hnew.bd];rfl
 have hR:rwS (dQ S a b) a.names (onT b a ((S.length+1:Nat):Int)):=jP hb1 kb oq fun _=>⟨v,hnew.at_,hvr,fun s=>by rw [hvn,eL]⟩
 have hL:rwS (dQ S a b) b.names (onT a b ((S.length+1:Nat):Int)):=jP ha1 ka oq fun _=>⟨v,hnew.at_,hvr,fun s=>by rw [hvn,eL];exact or_comm⟩
 have first:∀ ok S2,b7 f (dQ S a b) a.n (onT b a ((S.length+1:Nat):Int))=some (ok,S2)→gJ (dQ S a b) S2 ok (fun σ=>σ a.n=sub σ (onT b a ((S.length+1:Nat):Int))):=fun ok S2 hb =>
  e9 hb hi1 xa1' (bZ na xa1) ⟨fun hf=>absurd (xa2.symm.trans hf) dq,fun _=>by rw [xa3];exact hR⟩ (lV rfl hk0) (fun h6=>absurd h6 Cr) (fun _=>hka.symm)
 have two:∀ σ,Sol (dQ S a b) σ→σ a.n=sub σ (onT b a ((S.length+1:Nat):Int))→σ b.n=sub σ (onT a b ((S.length+1:Nat):Int))→sub σ a=sub σ b:=by
  intro σ hs e1 e2
  have hsS:=hnew.back wf hs
  have hv0:=hs.row _ v hnew.at_ hvr
  have hk:¬ ((S.length+1:Nat):Int)=0:=by omega
  have ra:∀ s,aO σ a s=fg s (sub σ (onT b a ((S.length+1:Nat):Int))):=fun s=>by unfold aO;rw [if_neg hna,e1]
  have rb:∀ s,aO σ b s=fg s (sub σ (onT a b ((S.length+1:Nat):Int))):=fun s=>by unfold aO;rw [if_neg hnb,e2]
  refine Ho ha hb ka kb hsS ?_ fun s=>?_
  · rw [ha.tail ka,hb.tail kb,if_neg hna,if_neg hnb,e1,e2,d9 (by rfl),d9 (by rfl)];rfl
  · rw [ha.field ka hsS,hb.field kb hsS,ra,rb,iG hb1 kb hs hR,iG ha1 ka hs hL,if_neg hk,if_neg hk]
    by_cases hma:s∈a.names <;> by_cases hmb:s∈b.names
    · obtain ⟨k,hk⟩:=dP a2 hma
      obtain ⟨k',hk'⟩:=dP b2 hmb
      rw [hv0.2 s (by rw [hvn,eL];exact .inl hma),if_pos hma,if_pos hmb,hk,hk']
      simp only [Option.orElse_none,Option.map_some]
      rw [hcom σ hsS s k k' hk hk']
    · rw [hv0.2 s (by rw [hvn,eL];exact .inl hma),if_pos hma,if_neg hmb,(b3 b2).2 hmb]
      cases fg s a <;> simp
    · rw [hv0.2 s (by rw [hvn,eL];exact .inr hmb),if_neg hma,if_pos hmb,(b3 a2).2 hma]
      cases fg s b <;> simp
    · rw [if_neg hma,if_neg hmb,(b3 a2).2 hma,(b3 b2).2 hmb]
 have three:∀ σ,Sol S σ→sub σ a=sub σ b→∃ w,Gt w∧(v.row=true→w.kind=5∧∀ s∈v.names,fg s w=none)∧∀ τ,Sol (dQ S a b) τ→(∀ n x,ai n S=some x→τ n=σ n)→τ ((S.length+1:Nat):Int)=w →
  τ a.n=sub τ (onT b a ((S.length+1:Nat):Int))∧τ b.n=sub τ (onT a b ((S.length+1:Nat):Int)):=by
  intro σ hs e
  have hra:=hs.row _ xa xa1 xa2
  have hga:=hs.gt _ xa xa1
  have hrb:=hs.row _ xb xb1 xb2
  have hgb:=hs.gt _ xb xb1
  obtain ⟨r1,r2,r3,r4,r5⟩:=hga.sorted hra.1
  have hnn:(σ a.n).n=(σ b.n).n:=by
   have h1:=ha.tail (σ:=σ) ka
   have h2:=hb.tail (σ:=σ) kb
   rw [if_neg hna] at h1
   rw [if_neg hnb] at h2
   rw [← h1,← h2,e]
  have wfg:∀ s,fg s (onT (σ a.n) b (σ a.n).n)=if s∈b.names then none else fg s (σ a.n):=fun s=>uJ (aE r1) r2 s
  have hGw:Gt (onT (σ a.n) b (σ a.n).n):=CG (aE r1) r2 r4 r5
  refine ⟨onT (σ a.n) b (σ a.n).n,hGw,fun _=>⟨rfl,fun s hm=>?_⟩,fun τ hτ hag hw=>?_⟩
  · rw [hvn,eL] at hm
    rw [wfg]
    split
    · rfl
    · rename_i hnb'
      exact hra.2 s (by rw [xa3];exact hm.resolve_right hnb')
  · have hτS:=hnew.back wf hτ
    have hk:¬ ((S.length+1:Nat):Int)=0:=by omega
    have hkid:∀ (t:Ty),tyS S t→sub τ t=sub σ t:=fun t ht=>dA t fun o ho=>by obtain ⟨y,y1,_⟩:=ht.2 o ho;exact hag _ y y1
    have fa:∀ s,(fg s a).map (sub τ)=(fg s a).map (sub σ):=fun s=>by
     cases hf:fg s a with
     | none=>rfl
     | some k=>simp only [Option.map_some];rw [hkid k (ha.kid (gG hf))]
    have fb:∀ s,(fg s b).map (sub τ)=(fg s b).map (sub σ):=fun s=>by
     cases hf:fg s b with
     | none=>rfl
     | some k=>simp only [Option.map_some];rw [hkid k (hb.kid (gG hf))]
    have ef:∀ s,fg s (sub σ a)=fg s (sub σ b):=fun s=>by rw [e]
    have e1:∀ s,s∉a.names→s∈b.names→fg s (σ a.n)=(fg s b).map (sub σ):=fun s h1 h2=>by
     obtain ⟨k,hk⟩:=dP b2 h2
     have:=ef s
     rw [ha.field0 ka hs h1,hb.field1 kb hs hk] at this
     unfold aO at this
     rw [if_neg hna] at this
     rw [this,hk];rfl
    have e2:∀ s,s∈a.names→s∉b.names→fg s (σ b.n)=(fg s a).map (sub σ):=fun s h1 h2=>by
     obtain ⟨k,hk⟩:=dP a2 h1
     have:=ef s
     rw [ha.field1 ka hs hk,hb.field0 kb hs h2] at this
     unfold aO at this
     rw [if_neg hnb] at this
     rw [← this,hk];rfl
    have e3:∀ s,s∉a.names→s∉b.names→fg s (σ a.n)=fg s (σ b.n):=fun s h1 h2=>by
     have:=ef s
     rw [ha.field0 ka hs h1,hb.field0 kb hs h2] at this
     unfold aO at this
     rwa [if_neg hna,if_neg hnb] at this
    have kR:(sub τ (onT b a ((S.length+1:Nat):Int))).kind=5:=by rw [bG Cr];rfl
    have kL:(sub τ (onT a b ((S.length+1:Nat):Int))).kind=5:=by rw [bG Cr];rfl
    have nR:(sub τ (onT b a ((S.length+1:Nat):Int))).n=(σ a.n).n:=by
     rw [d9 (by rfl)]
     show (if ((S.length+1:Nat):Int)=0 then 0 else (τ ((S.length+1:Nat):Int)).n)=_
     rw [if_neg hk,hw];rfl
    have nL:(sub τ (onT a b ((S.length+1:Nat):Int))).n=(σ a.n).n:=by
     rw [d9 (by rfl)]
     show (if ((S.length+1:Nat):Int)=0 then 0 else (τ ((S.length+1:Nat):Int)).n)=_
     rw [if_neg hk,hw];rfl
    rw [hag _ xa xa1,hag _ xb xb1]
    refine ⟨eu hga (eX hR.gt (hR.okG hτ)) hra.1 kR nR.symm fun s=>?_,eu hgb (eX hL.gt (hL.okG hτ)) hrb.1 kL (by rw [nL,hnn]) fun s=>?_⟩
    · rw [iG hb1 kb hτ hR,if_neg hk,hw,wfg,fb]
      by_cases hma:s∈a.names
      · rw [if_pos hma,hra.2 s (by rw [xa3];exact hma)];simp
      · rw [if_neg hma]
        by_cases hmb:s∈b.names
        · rw [if_pos hmb,e1 s hma hmb];simp
        · rw [if_neg hmb,(b3 b2).2 hmb];cases fg s (σ a.n) <;> simp
    · rw [iG ha1 ka hτ hL,if_neg hk,hw,wfg,fa]
      by_cases hmb:s∈b.names
      · rw [if_pos hmb,if_pos hmb,hrb.2 s (by rw [xb3];exact hmb)];simp
      · rw [if_neg hmb,if_neg hmb]
        by_cases hma:s∈a.names
        · rw [e2 s hma hmb,hra.2 s (by rw [xa3];exact hma)];simp
        · rw [← e3 s hma hmb,(b3 a2).2 hma];cases fg s (σ a.n) <;> simp
 split at h <;> try (cases h;done)
 split at h <;> try (cases h;done)
 · rename_i S2 hb1'
   have st1:=first true S2 hb1'
   obtain ⟨xb',yb1,yb2,yb3⟩:=st1.ext _ xb xb1'
   have hnb2:bdV S2 b.n=none:=by
    unfold b7 at hb1'
    rw [xa1'] at hb1'
    simp only at hb1'
    split at hb1' <;> try (cases hb1';done)
    split at hb1' <;> try (cases hb1';done)
    split at hb1'
    · cases hb1'
    · cases hb1'
      have hB:=iP (t:=onT b a ((S.length+1:Nat):Int)) xa1' (aw [] ‹Ty›)
      obtain ⟨z,z1,z2,z3,_,z5⟩:=hB.fw _ xb xb1'
      rw [ii z1,(z5 (fun e=>hne e.symm)).1,bZ nb xb1];rfl
   have hk2:bdV S2 ((S.length+1:Nat):Int)=none:=by
    unfold b7 at hb1'
    rw [xa1'] at hb1'
    simp only at hb1'
    split at hb1' <;> try (cases hb1';done)
    split at hb1' <;> try (cases hb1';done)
    split at hb1'
    · cases hb1'
    · cases hb1'
      have hB:=iP (t:=onT b a ((S.length+1:Nat):Int)) xa1' (aw [] ‹Ty›)
      obtain ⟨z,z1,z2,z3,_,z5⟩:=hB.fw _ v hnew.at_
      rw [ii z1,(z5 (fun e=>hka e.symm)).1,hnew.bd];rfl
   have st2:=e9 h st1.inv yb1 (bZ hnb2 yb1) ⟨fun hf=>absurd (yb2.symm.trans (hf) |>.symm.trans xb2 |>.symm) dq,fun _=>by rw [yb3,xb3];exact hL.ext st1.ext⟩ (lV rfl hk2) (fun h6=>absurd h6 Cr) (fun _=>hkb.symm)
   refine ⟨st2.inv,he1.trans (st1.ext.trans st2.ext),fun σ hs=>hnew.back wf (st1.back σ (st2.back σ hs)),fun ho σ hs=>?_,fun σ hs e=>?_⟩
   · have h1:=st2.back σ hs
     exact two σ (st1.back σ h1) (st1.sound rfl σ h1) (st2.sound ho σ hs)
   · obtain ⟨w,w1,w2,w3⟩:=three σ hs e
     have hs1:=hnew.sol wf hs w1 w2
     have hag:∀ n x,ai n S=some x→upd σ ((S.length+1:Nat):Int) w n=σ n:=fun n x hx=>eA (wf.ne hx)
     obtain ⟨g1,g2⟩:=w3 _ hs1 hag (fh _ _ _)
     obtain ⟨_,σ1,p1,p2⟩:=st1.compl _ hs1 g1
     have hag1:∀ n x,ai n S=some x→σ1 n=σ n:=fun n x hx=>by
      rw [p2 n x (by rw [hnew.oth _ (wf.ne hx)];exact hx)];exact hag n x hx
     have hw1:σ1 ((S.length+1:Nat):Int)=w:=by rw [p2 _ v hnew.at_,fh]
     obtain ⟨_,g4⟩:=w3 σ1 (st1.back σ1 p1) hag1 hw1
     obtain ⟨q1,σ2,q2,q3⟩:=st2.compl σ1 p1 g4
     refine ⟨q1,σ2,q2,fun n x hx=>?_⟩
     have hx1:ai n (dQ S a b)=some x:=by rw [hnew.oth _ (wf.ne hx)];exact hx
     obtain ⟨x2,hx2,_⟩:=st1.ext n x hx1
     rw [q3 n x2 hx2,hag1 n x hx]
 · rename_i S2 hb1'
   cases h
   have st1:=first false S' hb1'
   refine ⟨st1.inv,he1.trans st1.ext,fun σ hs=>hnew.back wf (st1.back σ hs),fun h=>absurd h dq,fun σ hs e=>?_⟩
   obtain ⟨w,w1,w2,w3⟩:=three σ hs e
   have hs1:=hnew.sol wf hs w1 w2
   obtain ⟨g1,g2⟩:=w3 _ hs1 (fun n x hx=>eA (wf.ne hx)) (fh _ _ _)
   exact absurd (st1.compl _ hs1 g1).1 dq
end
def eqn (a b:Ty) (σ:Int→Ty):Prop:=sub σ a=sub σ b
def UOk (U:UF):Prop:=∀ S a b ok S',U S a b=some (ok,S')→Inv S→tyS S a→tyS S b→gJ S S' ok (eqn a b)
theorem yZ {b:Ty} {s:List UInt8} (hnd:b.names.Nodup) (hl:b.names.length=b.kids.length) (h:¬ cG b.names s<0):fg s b=some (b.kids.getD (cG b.names s).toNat Ty.zero):=by
 unfold cG at h ⊢
 split at h
 · rename_i i hi
   rw [List.findIdx?_eq_some_iff_getElem] at hi
   obtain ⟨h1,h2,_⟩:=hi
   refine (zE hnd hl).2 ⟨i,h1,?_,?_⟩
   · rw [List.getD_eq_getElem?_getD,List.getElem?_eq_getElem h1];exact beq_iff_eq.1 h2
   · rfl
 · omega
theorem GS {b:Ty} {s:List UInt8} (h:cG b.names s<0):s∉b.names:=by
 have:=lB b.names s
 intro hm
 rw [List.contains_iff_mem.2 hm,decide_eq_true_eq] at this
 omega
theorem rh {D:Dn} {s t:List UInt8}:isD (aI s true D) t=if t=s then true else isD D t:=by
 unfold isD
 rw [aP]
 by_cases e:t=s
 · rw [if_pos e,if_pos e]
 · rw [if_neg e,if_neg e]
theorem kA {U:UF} (hU:UOk U) {b:Ty} (kb:b.kind=5):∀ (ns:List (List UInt8)) (ks:List Ty) (S:St) (D:Dn) (ag ok:Bool) (S1:St) (D1:Dn) (ag1:Bool),ci U b ns ks S D ag=some (ok,S1,D1,ag1)→ns.length=ks.length→Inv S→tyS S b→(∀ k∈ks,tyS S k) →
 Inv S1∧Ext S S1∧(∀ σ,Sol S1 σ→Sol S σ) ∧
 (ok=true→(∀ s,isD D1 s=true→isD D s=true∨∃ x y,(s,x)∈ns.zip ks∧fg s b=some y∧∀ σ,Sol S1 σ→sub σ x=sub σ y)∧(ag1=false→S1=S∧∀ s∈ns,s∈b.names→isD D s=true)) ∧
 (∀ σ,Sol S σ→(∀ s x y,(s,x)∈ns.zip ks→fg s b=some y→sub σ x=sub σ y)→ok=true∧∃ σ',Sol S1 σ'∧∀ n x,ai n S=some x→σ' n=σ n)
 | [],ks,S,D,ag,ok,S1,D1,ag1,h,hl,hi,hb,hk=>by
  simp only [ci,Option.some.injEq,Prod.mk.injEq] at h
  obtain ⟨rfl,rfl,rfl,rfl⟩:=h
  exact ⟨hi,Ext.refl _,fun _ h=>h,fun _=>⟨fun s h=>.inl h,fun _=>⟨rfl,by simp⟩⟩,fun σ hs _=>⟨rfl,σ,hs,fun _ _ _=>rfl⟩⟩
 | s::ns,[],S,D,ag,ok,S1,D1,ag1,h,hl,hi,hb,hk=>by simp at hl
 | s::ns,k::ks,S,D,ag,ok,S1,D1,ag1,h,hl,hi,hb,hk=>by
  obtain ⟨b1,b2,_⟩:=hb.1.sorted kb
  rw [ci] at h
  split at h
  · rename_i hc
    obtain ⟨q1,q2,q3,q4,q5⟩:=kA hU kb ns ks S D ag ok S1 D1 ag1 h (by simpa using hl) hi hb (fun k hk'=>hk k (List.mem_cons_of_mem _ hk'))
    refine ⟨q1,q2,q3,fun ho=>?_,fun σ hs he=>q5 σ hs fun t x y hm hf=>he t x y (by rw [List.zip_cons_cons];exact List.mem_cons_of_mem _ hm) hf⟩
    obtain ⟨r1,r2⟩:=q4 ho
    refine ⟨fun t ht=>?_,fun ha=>⟨(r2 ha).1,fun t ht htb=>?_⟩⟩
    · rcases r1 t ht with h|⟨x,y,h1,h2⟩
      · exact .inl h
      · exact .inr ⟨x,y,by rw [List.zip_cons_cons];exact List.mem_cons_of_mem _ h1,h2⟩
    · rcases List.mem_cons.1 ht with rfl|ht
      · rcases hc with hc|hc
        · exact absurd htb (GS hc)
        · exact hc
      · exact (r2 ha).2 t ht htb
  · rename_i hc
    have hc':¬ cG b.names s<0∧¬ isD D s=true:=⟨fun h=>hc (.inl h),fun h=>hc (.inr h)⟩
    have hf:=yZ (aE b1) b2 hc'.1
    have hvb:=hb.kid (gG hf)
    have hz:(s,k)∈(s::ns).zip (k::ks):=by rw [List.zip_cons_cons];exact List.mem_cons_self
    split at h <;> try (cases h;done)
    · rename_i S2 hU1
      have st:=hU _ _ _ _ _ hU1 hi (hk k List.mem_cons_self) hvb
      obtain ⟨q1,q2,q3,q4,q5⟩:=kA hU kb ns ks S2 (aI s true D) true ok S1 D1 ag1 h (by simpa using hl) st.inv (hb.ext st.ext) (fun k hk'=>(hk k (List.mem_cons_of_mem _ hk')).ext st.ext)
      refine ⟨q1,st.ext.trans q2,fun σ hs=>st.back σ (q3 σ hs),fun ho=>?_,fun σ hs he=>?_⟩
      · obtain ⟨r1,r2⟩:=q4 ho
        refine ⟨fun t ht=>?_,fun ha=>?_⟩
        · rcases r1 t ht with h|⟨x,y,h1,h2⟩
          · rw [rh] at h
            split at h
            · rename_i e
              subst e
              exact .inr ⟨k,_,hz,hf,fun σ hs=>st.sound rfl σ (q3 σ hs)⟩
            · exact .inl h
          · exact .inr ⟨x,y,by rw [List.zip_cons_cons];exact List.mem_cons_of_mem _ h1,h2⟩
        · exfalso
          have:∀ (ns:List (List UInt8)) (ks:List Ty) (S:St) (D:Dn) (S1:St) (D1:Dn),ci U b ns ks S D true≠some (true,S1,D1,false):=by
           intro ns
           induction ns with
           | nil=>intro ks S D S1 D1 h;simp [ci] at h
           | cons s ns ih =>
            intro ks S D S1 D1 h
            cases ks with
            | nil=>simp [ci] at h
            | cons k ks =>
             rw [ci] at h
             split at h
             · exact ih _ _ _ _ _ h
             · split at h <;> try (cases h;done)
               exact ih _ _ _ _ _ h
          rw [ho,ha] at h
          exact this _ _ _ _ _ _ h
      · obtain ⟨_,σ1,p1,p2⟩:=st.compl σ hs (he s k _ hz hf)
        have hkid:∀ t,tyS S t→sub σ1 t=sub σ t:=fun t ht=>dA t fun o ho=>by obtain ⟨y,y1,_⟩:=ht.2 o ho;exact p2 _ y y1
        obtain ⟨p3,σ2,p4,p5⟩:=q5 σ1 p1 fun t x y hm hf'=>by
         rw [hkid x (hk x (List.mem_cons_of_mem _ (List.of_mem_zip hm).2)),hkid y (hb.kid (gG hf'))]
         exact he t x y (by rw [List.zip_cons_cons];exact List.mem_cons_of_mem _ hm) hf'
        refine ⟨p3,σ2,p4,fun n x hx=>?_⟩
        obtain ⟨x',hx',_⟩:=st.ext n x hx
        rw [p5 n x' hx',p2 n x hx]
    · rename_i S2 hU1
      simp only [Option.some.injEq,Prod.mk.injEq] at h
      obtain ⟨rfl,rfl,rfl,rfl⟩:=h
      have st:=hU _ _ _ _ _ hU1 hi (hk k List.mem_cons_self) hvb
      exact ⟨st.inv,st.ext,st.back,fun h=>absurd h dq,fun σ hs he=>absurd (st.compl σ hs (he s k _ hz hf)).1 dq⟩
def dOk (S:St) (a b:Ty) (D:Dn):Prop:=∀ s,isD D s=true→∀ σ,Sol S σ→fg s (sub σ a)=fg s (sub σ b)
theorem po {f:Nat} {U:UF} (hU:UOk U):∀ (g:Nat) (S:St) (a b:Ty) (D:Dn) (ok:Bool) (S1:St) (a1 b1:Ty),dW f U g S a b D=some (ok,S1,a1,b1)→Inv S→tyS S a→tyS S b→a.kind=5→b.kind=5→dOk S a b D →
 Inv S1∧Ext S S1∧(∀ σ,Sol S1 σ→Sol S σ) ∧
 (ok=true→tyS S1 a1∧tyS S1 b1∧a1.kind=5∧b1.kind=5∧bdV S1 a1.n=none∧bdV S1 b1.n=none∧(∀ σ,Sol S1 σ→sub σ a1=sub σ a∧sub σ b1=sub σ b)∧∀ σ,Sol S1 σ→∀ s x y,fg s a1=some x→fg s b1=some y→sub σ x=sub σ y) ∧
 (∀ σ,Sol S σ→eqn a b σ→ok=true∧∃ σ',Sol S1 σ'∧∀ n x,ai n S=some x→σ' n=σ n)
 | 0,S,a,b,D,ok,S1,a1,b1,h,_,_,_,_,_,_=>by simp [dW] at h
 | g+1,S,a,b,D,ok,S1,a1,b1,h,hi,ha,hb,ka,kb,hd=>by
  rw [dW] at h
  split at h <;> try (cases h;done)
  rename_i a' ha'
  split at h <;> try (cases h;done)
  rename_i b' hb'
  split at h <;> try (cases h;done)
  obtain ⟨va,na,ea⟩:=db hi.1 ha' ha
  obtain ⟨vb,nb,eb⟩:=db hi.1 hb' hb
  obtain ⟨ρ,rk,hρ,hrk⟩:=hi.2
  have kk:∀ t t':Ty,tyS S t'→t.kind=5→sub ρ t'=sub ρ t→(t'.kind=5∨t'.kind=6→bdV S t'.n=none)→t'.kind=5:=by
   intro t t' hv k5 e hn
   have h1:(sub ρ t').kind=5:=by rw [e,bG (by rw [k5];decide)];exact k5
   by_cases h6:t'.kind=6
   · obtain ⟨x,h2,h3,_⟩:=hv.2 ⟨t'.n,false,[]⟩ (by rw [← Ty.eta t',h6];exact cE)
     have h2:ai t'.n S=some x:=h2
     rw [← Ty.eta t',h6,de,hρ.free _ x h2 (bZ (hn (.inr h6)) h2),h3] at h1
     exact absurd h1 (by simp [idv])
   · rw [bG h6] at h1;exact h1
  have ka':=kk a a' va ka (ea ρ hρ.sol) na
  have kb':=kk b b' vb kb (eb ρ hρ.sol) nb
  have na:=na (.inl ka')
  have nb:=nb (.inl kb')
  obtain ⟨s1,s2,_⟩:=va.1.sorted ka'
  obtain ⟨t1,t2,_⟩:=vb.1.sorted kb'
  have hkids:∀ k∈a'.kids,tyS S k:=fun k hk=>va.kid hk
  have heq:∀ σ,Sol S σ→eqn a b σ→∀ s x y,(s,x)∈a'.names.zip a'.kids→fg s b'=some y→sub σ x=sub σ y:=by
   intro σ hs e s x y hm hf
   have hx:fg s a'=some x:=km (by rw [du s2];exact aE s1) hm
   have h1:=va.field1 ka' hs hx
   have h2:=vb.field1 kb' hs hf
   have e:sub σ a=sub σ b:=e
   rw [ea σ hs,e,← eb σ hs,h2] at h1
   exact (Option.some.inj h1).symm
  split at h <;> try (cases h;done)
  · rename_i S2 D2 hp
    obtain ⟨q1,q2,q3,q4,q5⟩:=kA hU kb' _ _ _ _ _ _ _ _ _ hp s2 hi vb hkids
    obtain ⟨r1,_⟩:=q4 rfl
    obtain ⟨l1,l2,l3,l4,l5⟩:=po hU g S2 a' b' D2 ok S1 a1 b1 h q1 (va.ext q2) (vb.ext q2) ka' kb' (fun s hs σ hσ=>by
     rcases r1 s hs with h|⟨x,y,h1,h2,h3⟩
     · rw [ea σ (q3 σ hσ),eb σ (q3 σ hσ)];exact hd s h σ (q3 σ hσ)
     · have hx:fg s a'=some x:=km (by rw [du s2];exact aE s1) h1
       rw [va.field1 ka' (q3 σ hσ) hx,vb.field1 kb' (q3 σ hσ) h2,h3 σ hσ])
    refine ⟨l1,q2.trans l2,fun σ hs=>q3 σ (l3 σ hs),fun ho=>?_,fun σ hs e=>?_⟩
    · obtain ⟨u1,u2,u3,u4,u5,u6,u7,u8⟩:=l4 ho
      refine ⟨u1,u2,u3,u4,u5,u6,fun σ hs=>?_,u8⟩
      have hs0:=q3 σ (l3 σ hs)
      exact ⟨(u7 σ hs).1.trans (ea σ hs0),(u7 σ hs).2.trans (eb σ hs0)⟩
    · obtain ⟨_,σ1,p1,p2⟩:=q5 σ hs (heq σ hs e)
      have hkid:∀ t,tyS S t→sub σ1 t=sub σ t:=fun t ht=>dA t fun o ho=>by obtain ⟨y,y1,_⟩:=ht.2 o ho;exact p2 _ y y1
      obtain ⟨p3,σ2,p4,p5⟩:=l5 σ1 p1 (by
       show sub σ1 a'=sub σ1 b'
       rw [hkid a' va,hkid b' vb,ea σ hs,eb σ hs];exact e)
      refine ⟨p3,σ2,p4,fun n x hx=>?_⟩
      obtain ⟨x',hx',_⟩:=q2 n x hx
      rw [p5 n x' hx',p2 n x hx]
  · rename_i S2 D2 hp
    simp only [Option.some.injEq,Prod.mk.injEq] at h
    obtain ⟨rfl,rfl,rfl,rfl⟩:=h
    obtain ⟨q1,q2,q3,q4,q5⟩:=kA hU kb' _ _ _ _ _ _ _ _ _ hp s2 hi vb hkids
    obtain ⟨r1,r2⟩:=q4 rfl
    obtain ⟨rfl,r3⟩:=r2 rfl
    refine ⟨hi,Ext.refl _,fun _ h=>h,fun _=>⟨va,vb,ka',kb',na,nb,fun σ hs=>⟨ea σ hs,eb σ hs⟩,fun σ hs s x y hx hy=>?_⟩,fun σ hs _=>⟨rfl,σ,hs,fun _ _ _=>rfl⟩⟩
    have h1:=hd s (r3 s (mt hx) (mt hy)) σ hs
    rw [← ea σ hs,← eb σ hs,va.field1 ka' hs hx,vb.field1 kb' hs hy] at h1
    exact Option.some.inj h1
  · rename_i S2 D2 ag2 hp
    simp only [Option.some.injEq,Prod.mk.injEq] at h
    obtain ⟨rfl,rfl,rfl,rfl⟩:=h
    obtain ⟨q1,q2,q3,q4,q5⟩:=kA hU kb' _ _ _ _ _ _ _ _ _ hp s2 hi vb hkids
    exact ⟨q1,q2,q3,fun h=>absurd h dq,fun σ hs e=>absurd (q5 σ hs (heq σ hs e)).1 dq⟩
theorem Ge {f:Nat} {U:UF} (hU:UOk U) {S S':St} {a b:Ty} {ok:Bool} (h:gE f U S a b=some (ok,S')) (hi:Inv S) (ha:tyS S a) (hb:tyS S b) (ka:a.kind=5) (kb:b.kind=5):gJ S S' ok (eqn a b):=by
 unfold gE at h
 split at h <;> try (cases h;done)
 · rename_i S1 a1 b1 hl
   obtain ⟨l1,l2,l3,l4,l5⟩:=po hU f S a b [] _ _ _ _ hl hi ha hb ka kb (fun s h=>by simp [isD,ai] at h)
   obtain ⟨u1,u2,u3,u4,u5,u6,u7,u8⟩:=l4 rfl
   have st:=Dh h l1 u1 u2 u3 u4 u5 u6 u8
   refine ⟨st.inv,l2.trans st.ext,fun σ hs=>l3 σ (st.back σ hs),fun ho σ hs=>?_,fun σ hs e=>?_⟩
   · have:=st.sound ho σ hs
     obtain ⟨e1,e2⟩:=u7 σ (st.back σ hs)
     show sub σ a=sub σ b
     rw [← e1,← e2];exact this
   · obtain ⟨_,σ1,p1,p2⟩:=l5 σ hs e
     have hkid:∀ t,tyS S t→sub σ1 t=sub σ t:=fun t ht=>dA t fun o ho=>by obtain ⟨y,y1,_⟩:=ht.2 o ho;exact p2 _ y y1
     obtain ⟨e1,e2⟩:=u7 σ1 p1
     obtain ⟨p3,σ2,p4,p5⟩:=st.compl σ1 p1 (by rw [e1,e2,hkid a ha,hkid b hb];exact e)
     refine ⟨p3,σ2,p4,fun n x hx=>?_⟩
     obtain ⟨x',hx',_⟩:=l2 n x hx
     rw [p5 n x' hx',p2 n x hx]
 · rename_i S1 a1 b1 hl
   cases h
   obtain ⟨l1,l2,l3,l4,l5⟩:=po hU f S a b [] _ _ _ _ hl hi ha hb ka kb (fun s h=>by simp [isD,ai] at h)
   exact ⟨l1,l2,l3,fun h=>absurd h dq,fun σ hs e=>absurd (l5 σ hs e).1 dq⟩
theorem Gt.name6 {t:Ty} (h:Gt t) {σ:Int→Ty} (h6:t.kind≠6):(sub σ t).name=t.name:=by
 cases h with
 | leaf k x h4 h5 h6'=>rw [bT σ x [] [] h6' (fun h=>absurd h h5)];rfl
 | list t h=>rw [bT σ _ _ _ dq dq];rfl
 | var n h=>exact absurd rfl h6
 | rcd n ns ks h0 hs hl hk =>
  by_cases hn:n=0
  · rw [bT σ _ _ _ dq (fun _=>hn)];rfl
  · rw [gS σ _ _ _ hn];rfl
theorem tyS.var6 {S:St} {t:Ty} (h:tyS S t) (h6:t.kind=6):∃ x,ai t.n S=some x∧x.row=false:=by
 obtain ⟨x,h2,h3,_⟩:=h.2 ⟨t.n,false,[]⟩ (by rw [← Ty.eta t,h6];exact cE)
 exact ⟨x,h2,h3⟩
theorem sR {σ:Int→Ty} {t:Ty} (h6:t.kind=6):sub σ t=σ t.n:=by rw [← Ty.eta t,h6,de];rfl
theorem gM:∀ f,UOk (bt f)
 | 0=>fun S a b ok S' h=>by simp [bt] at h
 | f+1=>fun S a b ok S' h hi ha hb=>by
  have ih:=gM f
  rw [bt] at h
  split at h <;> try (cases h;done)
  rename_i a' ha'
  split at h <;> try (cases h;done)
  rename_i b' hb'
  split at h <;> try (cases h;done)
  obtain ⟨va,na,ea⟩:=db hi.1 ha' ha
  obtain ⟨vb,nb,eb⟩:=db hi.1 hb' hb
  have hh:∀ σ,Sol S σ→(sub σ a'=sub σ b'↔eqn a b σ):=fun σ hs=>by unfold eqn;rw [ea σ hs,eb σ hs]
  refine gJ.congr ?_ hh
  split at h
  · rename_i hc
    cases h
    exact gJ.refl hi fun σ _=>by rw [sR hc.1,sR hc.2.1,hc.2.2]
  rename_i hc
  split at h
  · rename_i h6
    obtain ⟨x,x1,x2⟩:=va.var6 h6
    have st:=e9 h hi x1 (bZ (na (.inr h6)) x1) ⟨fun _=>vb,fun hr=>absurd (x2.symm.trans hr) dq⟩ nb (fun k6 e=>hc ⟨h6,k6,e.symm⟩) (fun hr=>absurd (x2.symm.trans hr) dq)
    exact st.congr fun σ _=>by rw [sR h6]
  rename_i h6
  split at h
  · rename_i k6
    obtain ⟨x,x1,x2⟩:=vb.var6 k6
    have st:=e9 h hi x1 (bZ (nb (.inr k6)) x1) ⟨fun _=>va,fun hr=>absurd (x2.symm.trans hr) dq⟩ na (fun h6' _=>h6 h6') (fun hr=>absurd (x2.symm.trans hr) dq)
    exact st.congr fun σ _=>by rw [sR k6];exact ⟨Eq.symm,Eq.symm⟩
  rename_i k6
  split at h
  · rename_i hne
    cases h
    refine gJ.no hi fun σ hs e=>?_
    have e1:=congrArg Ty.kind e
    have e2:=congrArg Ty.name e
    rw [bG h6,bG k6] at e1
    rw [va.1.name6 h6,vb.1.name6 k6] at e2
    exact hne.elim (fun h=>h e1) (fun h=>h e2)
  rename_i hne
  have hk:a'.kind=b'.kind:=Classical.byContradiction fun h=>hne (.inl h)
  have hx:a'.name=b'.name:=Classical.byContradiction fun h=>hne (.inr h)
  split at h
  · rename_i h5
    exact Ge ih h hi va vb h5 (hk▸h5)
  rename_i h5
  have list1:∀ t:Ty,Gt t→t.kind=4→t=.mk 4 [] 0 [] [t.kids.getD 0 Ty.zero]∧t.kids.getD 0 Ty.zero∈t.kids:=by
   intro t hg h4
   cases hg with
   | leaf k x a b c=>exact absurd h4 a
   | list t h=>exact ⟨rfl,by simp⟩
   | var n h=>exact absurd h4 zq
   | rcd n ns ks a b c d=>exact absurd h4 zq
  split at h
  · rename_i h4
    split at h <;> try (cases h;done)
    obtain ⟨a1,a2⟩:=list1 a' va.1 h4
    obtain ⟨b1,b2⟩:=list1 b' vb.1 (hk▸h4)
    have st:=ih _ _ _ _ _ h hi (va.kid a2) (vb.kid b2)
    refine st.congr fun σ _=>?_
    conv=>rhs;rw [a1,b1]
    rw [bT σ _ _ _ dq dq,bT σ _ _ _ dq dq]
    unfold eqn
    constructor
    · intro e;simp only [List.map_cons,List.map_nil];rw [e]
    · intro e
      have:=congrArg Ty.kids e
      simpa using this
  · rename_i h4
    cases h
    have leaf1:∀ t:Ty,Gt t→¬ t.kind=4→¬ t.kind=5→¬ t.kind=6→t=.mk t.kind t.name 0 [] []:=by
     intro t hg h4 h5 h6
     cases hg with
     | leaf k x a b c=>rfl
     | list t h=>exact absurd rfl h4
     | var n h=>exact absurd rfl h6
     | rcd n ns ks a b c d=>exact absurd rfl h5
    have:=leaf1 a' va.1 h4 h5 h6
    have:=leaf1 b' vb.1 (hk▸h4) (hk▸h5) k6
    refine gJ.refl hi fun σ _=>?_
    rw [‹a'=_›,‹b'=_›,hk,hx]
def nm4:List (List UInt8):=[[97],[98],[99],[105,100]]
inductive Ft (h:Int→Nat):Nat→Ty→Prop
 | leaf (b:Nat) (k:Int) (x:List UInt8) (hx:x.length≤10∧fmd (.mk k x 0 [] [])=true) (h5:k≠5) (h6:k≠6):Ft h b (.mk k x 0 [] [])
 | list (b:Nat) (t:Ty) (ht:Ft h b t):Ft h (b+1) (.mk 4 [] 0 [] [t])
 | var (b:Nat) (n:Int) (hn:h n=b):Ft h b (.mk 6 [] n [] [])
 | rcd (b:Nat) (n:Int) (ns:List (List UInt8)) (ks:List Ty) (hn:n≠0→h n=b+1) (nd:ns.Nodup) (hm:∀ s∈ns,s∈nm4) (hl:ns.length=ks.length) (hk:∀ k∈ks,Ft h b k):Ft h (b+1) (.mk 5 [] n ns ks)
def szB:Nat→Nat
 | 0=>20
 | b+1=>4 * szB b+30
theorem ux:∀ {l m:List (List UInt8)},l.Nodup→(∀ s∈l,s∈m)→l.length≤m.length
 | [],m,_,_=>Nat.zero_le _
 | x::l,m,hn,hm=>by
  rw [List.nodup_cons] at hn
  have hx:=hm x List.mem_cons_self
  have:=ux (l:=l) (m:=m.erase x) hn.2 fun s hs=>(List.mem_erase_of_ne (by rintro rfl;exact hn.1 hs)).2 (hm s (List.mem_cons_of_mem _ hs))
  rw [List.length_erase_of_mem hx] at this
  have:=List.length_pos_of_mem hx
  rw [List.length_cons];omega
theorem GO {l:List (List UInt8)} (nd:l.Nodup) (hm:∀ s∈l,s∈nm4):l.length≤4:=ux nd hm
theorem IE:∀ {l:List (List UInt8)},(∀ s∈l,s∈nm4)→szS l≤3 * l.length
 | [],_=>by simp [szS]
 | x::l,h=>by
  have h1:=IE (l:=l) fun s hs=>h s (List.mem_cons_of_mem _ hs)
  have h2:x.length≤2:=by
   have:=h x List.mem_cons_self
   simp only [nm4,List.mem_cons,List.not_mem_nil,or_false] at this
   rcases this with rfl|rfl|rfl|rfl <;> decide
  rw [szS,List.length_cons];omega
theorem Dc {c:Nat}:∀ {l:List Ty},(∀ k∈l,k.sz≤c)→Ty.szL l≤(c+1) * l.length
 | [],_=>by simp [Ty.szL]
 | t::l,h=>by
  have h1:=Dc (l:=l) fun k hk=>h k (List.mem_cons_of_mem _ hk)
  have h2:=h t List.mem_cons_self
  rw [Ty.szL,List.length_cons,Nat.mul_succ];omega
theorem Ft.sz {h:Int→Nat} {b:Nat} {t:Ty} (ht:Ft h b t):t.sz≤szB b:=by
 have pos:∀ b,20≤szB b:=fun b=>by cases b <;> simp only [szB] <;> omega
 induction ht with
 | leaf b k x hx _ _=>have:=pos b;have:=hx.1;simp only [Ty.sz,szS,Ty.szL];omega
 | list b t ht ih=>simp only [Ty.sz,szS,Ty.szL,szB,List.length_nil];omega
 | var b n hn=>have:=pos b;simp only [Ty.sz,szS,Ty.szL,List.length_nil];omega
 | rcd b n ns ks hn nd hm hl hk ih =>
  have h1:=GO nd hm
  have h2:=IE hm
  have h3:=Dc ih
  have h4:(szB b+1) * ks.length≤(szB b+1) * 4:=Nat.mul_le_mul_left _ oq
  simp only [Ty.sz,szB,List.length_nil];omega
theorem Ft.ext {h h':Int→Nat} {b:Nat} {t:Ty} (ht:Ft h b t):(∀ o∈az t,h' o.n=h o.n)→Ft h' b t:=by
 induction ht with
 | leaf b k x hx h5 h6=>intro _;exact .leaf b k x hx h5 h6
 | list b t ht ih=>intro ho;exact .list b t (ih fun o h=>ho o (cB List.mem_cons_self h))
 | var b n hn=>intro ho;exact .var b n ((ho _ cE).trans hn)
 | rcd b n ns ks hn nd hm hl hk ih =>
  intro ho
  exact .rcd b n ns ks (fun h0=>(ho _ (cm h0)).trans (hn h0)) nd hm hl fun k hk'=>ih k hk' fun o h=>ho o (cB hk' h)
theorem Ft.v6 {h:Int→Nat} {b:Nat} {t:Ty} (ht:Ft h b t) (h6:t.kind=6):h t.n=b:=by
 cases ht with
 | leaf _ k x hx h5 h6'=>exact absurd h6 h6'
 | list b t ht=>exact absurd h6 zq
 | var _ n hn=>exact hn
 | rcd b n ns ks hn nd hm hl hk=>exact absurd h6 zq
theorem Ft.r5 {h:Int→Nat} {b:Nat} {t:Ty} (ht:Ft h b t) (h5:t.kind=5):∃ c,b=c+1∧(t.n≠0→h t.n=b)∧t.names.Nodup∧(∀ s∈t.names,s∈nm4)∧t.names.length=t.kids.length∧∀ k∈t.kids,Ft h c k:=by
 cases ht with
 | leaf _ k x hx h5' h6=>exact absurd h5 h5'
 | list b t ht=>exact absurd h5 zq
 | var _ n hn=>exact absurd h5 zq
 | rcd c n ns ks hn nd hm hl hk=>exact ⟨c,rfl,hn,nd,hm,hl,hk⟩
theorem Ft.kids {h:Int→Nat} {b:Nat} {t:Ty} (ht:Ft h b t) {k:Ty} (hk:k∈t.kids):∃ c,b=c+1∧Ft h c k:=by
 cases ht with
 | leaf _ k x hx h5' h6=>simp at hk
 | list b t ht=>simp at hk;subst hk;exact ⟨b,rfl,ht⟩
 | var _ n hn=>simp at hk
 | rcd c n ns ks hn nd hm hl hk'=>exact ⟨c,rfl,hk' k hk⟩
theorem Ft.recT {h:Int→Nat} {b:Nat} {l:Fd} {n:Int} (hnd:(l.map Prod.fst).Nodup) (hm:∀ p∈l,p.1∈nm4∧Ft h b p.2) (hn:n≠0→h n=b+1):Ft h (b+1) (recT l n):=by
 have hk:=dw l n
 refine .rcd b n _ _ hn (aE (mu hnd)) (fun s hs=>?_) (by show _=(_root_.Go.Proofs.YtdikgijfekfaoaaGreatDoor.recT l n).kids.length;rw [hk,List.length_map]) (fun k hm'=>?_)
 · obtain ⟨p,hp,rfl⟩:=List.mem_map.1 ((bU _).mem_iff.1 hs)
   exact (hm p hp).1
 · have hm':k∈(_root_.Go.Proofs.YtdikgijfekfaoaaGreatDoor.recT l n).kids:=hm'
   rw [hk] at hm'
   obtain ⟨s,hs,rfl⟩:=List.mem_map.1 hm'
   obtain ⟨x,hx⟩:=Option.isSome_iff_exists.1 (cX.2 ((bU _).mem_iff.1 hs))
   rw [hx]
   exact (hm _ (gC hx)).2
def StF (S:St) (h:Int→Nat):Prop:=∀ n x,ai n S=some x→x.bd=true→Ft h (h n) x.val
def Ev (P:Nat→Prop):Prop:=∃ N,∀ f,N≤f→P f
theorem Ev.and {P Q:Nat→Prop}:Ev P→Ev Q→Ev fun f=>P f∧Q f:=fun ⟨N,hN⟩ ⟨M,hM⟩=>⟨max N M,fun f hf=>⟨hN f oq,hM f oq⟩⟩
theorem Ev.mono {P Q:Nat→Prop} (h:∀ f,P f→Q f):Ev P→Ev Q:=fun ⟨N,hN⟩=>⟨N,fun f hf=>h f (hN f hf)⟩
theorem Ev.succ {P:Nat→Prop} (h:Ev fun f=>P (f+1)):Ev P:=by
 obtain ⟨N,hN⟩:=h
 refine ⟨N+1,fun f hf=>?_⟩
 obtain ⟨g,rfl⟩:∃ g,f=g+1:=⟨f - 1,by omega⟩
 exact hN g oq
theorem Ev.some {P:Nat→Prop} (h:Ev P):∃ f,P f:=by obtain ⟨N,hN⟩:=h;exact ⟨N,hN N (Nat.le_refl _)⟩
theorem Ev.of {P:Nat→Prop} (h:∀ f,P f):Ev P:=⟨0,fun f _=>h f⟩
section
variable {S:St} {h:Int→Nat} {rk:Int→Nat} (wf:Wf S) (hF:StF S h) (hr:Rk S rk)
include wf hF hr
theorem A2 {b:Nat} (hb:szB b<lim):∀ (k:Nat) (t:Ty),Ft h b t→(t.kind=6→rk t.n<k)→∃ u,(∀ f,k+1≤f→hdV f S t=some u)∧Ft h b u
 | 0,t,ht,hk=>⟨t,fun f hf=>by
  obtain ⟨g,rfl⟩:∃ g,f=g+1:=⟨f - 1,by omega⟩
  rw [hdV,if_neg]
  intro h6;have:=hk h6;omega,ht⟩
 | k+1,t,ht,hk=>by
  by_cases h6:t.kind=6
  · cases hv:bdV S t.n with
    | none =>
     refine ⟨t,fun f hf=>?_,ht⟩
     obtain ⟨g,rfl⟩:∃ g,f=g+1:=⟨f - 1,by omega⟩
     rw [hdV,if_pos h6];simp only [hv]
    | some v =>
     obtain ⟨x,h1,h2,rfl⟩:=fl hv
     have hfv:=hF _ x h1 h2
     rw [ht.v6 h6] at hfv
     obtain ⟨u,hu,hfu⟩:=A2 hb k x.val hfv fun h6'=>by
      have ho:(⟨x.val.n,false,[]⟩:Occ)∈az x.val:=by rw [← Ty.eta x.val,h6'];exact cE
      have:=hr _ x h1 h2 _ ho
      have:=hk h6
      simp only at *
      omega
     refine ⟨u,fun f hf=>?_,hfu⟩
     obtain ⟨g,rfl⟩:∃ g,f=g+1:=⟨f - 1,by omega⟩
     rw [hdV,if_pos h6]
     simp only [hv]
     rw [if_pos (Nat.lt_of_le_of_lt hfv.sz hb)]
     exact hu g oq
  · refine ⟨t,fun f hf=>?_,ht⟩
    obtain ⟨g,rfl⟩:∃ g,f=g+1:=⟨f - 1,by omega⟩
    rw [hdV,if_neg h6]
theorem AE {b:Nat} (hb:szB (b+1)<lim):∀ (k:Nat) (t:Ty) (l:Fd),Ft h (b+1) t→t.kind=5→(∀ x,bdV S t.n=some x→rk t.n<k)→(∀ x,bdV S t.n=some x→x.kind=5→True)→(l.map Prod.fst).Nodup→(∀ p∈l,p.1∈nm4∧Ft h b p.2)→rwS S (l.map Prod.fst) t →
 ∃ r,(∀ f,k+1≤f→hdR f S l t=some r)∧Ft h (b+1) r
 | k,t,l,ht,h5,hk,h9,hnd,hm,hv=>by
  obtain ⟨c,hc,hn,nd,hnm,hl,hkk⟩:=ht.r5 h5
  obtain rfl:b=c:=by omega
  have hnd':=dv t hnd
  have hm':∀ p∈dr l t,p.1∈nm4∧Ft h b p.2:=fun p hp=>by
   rcases d7 hp with h|h
   · exact ⟨hnm _ h.1,hkk _ h.2⟩
   · exact hm p h
  have hg:t.sz<lim∧(dr l t).length<lim∧t.names.length=t.kids.length:=by
   refine ⟨Nat.lt_of_le_of_lt ht.sz hb,?_,hl⟩
   have:=GO hnd' (fun s hs=>by obtain ⟨p,hp,rfl⟩:=List.mem_map.1 hs;exact (hm' p hp).1)
   rw [List.length_map] at this
   exact Nat.lt_of_le_of_lt this dq
  cases hbv:bdV S t.n with
  | none =>
   refine ⟨recT (dr l t) t.n,fun f hf=>?_,Ft.recT hnd' hm' hn⟩
   obtain ⟨g,rfl⟩:∃ g,f=g+1:=⟨f - 1,by omega⟩
   rw [hdR,if_pos hg];simp only [hbv]
  | some v =>
   obtain ⟨x,h1,h2,rfl⟩:=fl hbv
   have hlt:=hk _ hbv
   match k,hlt with
   | k+1,hlt =>
   have hn0:t.n≠0:=by intro e;rw [e,wf.zero] at h1;cases h1
   have hfv:=hF _ x h1 h2
   rw [hn hn0] at hfv
   obtain ⟨y,k1,k2,k3⟩:=hv.row hn0
   rw [h1] at k1;cases k1
   obtain ⟨s1,s2,_⟩:=hv.gt.sorted h5
   have hv':=(wf.rv _ x h1 h2 k2).congr (L':=(dr l t).map Prod.fst) (fun s=>by rw [k3,xm (aE s1) s2])
   obtain ⟨r,hr',hfr⟩:=AE hb k x.val (dr l t) hfv hv'.k5 (fun z hz=>by
    obtain ⟨w,w1,w2,_⟩:=fl hz
    have hz0:x.val.n≠0:=by intro e;rw [e,wf.zero] at w1;cases w1
    have:=hr _ x h1 h2 _ (cI hv'.k5 hz0)
    simp only at *
    omega) (fun _ _ _=>trivial) hnd' hm' hv'
   refine ⟨r,fun f hf=>?_,hfr⟩
   obtain ⟨g,rfl⟩:∃ g,f=g+1:=⟨f - 1,by omega⟩
   rw [hdR,if_pos hg];simp only [hbv]
   exact hr' g oq
 termination_by k=>k
theorem jx {b:Nat} (hb:szB b<lim) {t:Ty} (ht:Ft h b t) (hv:tyS S t):∃ r,Ev (fun f=>bY f S t=some r)∧Ft h b r:=by
 obtain ⟨u,hu,hfu⟩:=A2 wf hF hr hb (rk t.n+1) t ht (fun _=>Nat.lt_succ_self _)
 have hvu:=(yF wf _ t u (hu _ (Nat.le_refl _)) hv).1
 by_cases h5:u.kind=5
 · cases hbv:bdV S u.n with
   | none =>
    refine ⟨u,⟨rk t.n+2,fun f hf=>?_⟩,hfu⟩
    show bY f S t=_
    unfold bY
    rw [hu f hf]
    simp only [if_pos h5,hbv]
   | some v =>
    obtain ⟨c,rfl,_⟩:=hfu.r5 h5
    obtain ⟨r,hr',hfr⟩:=AE wf hF hr hb (rk u.n+1) u [] hfu h5 (fun _ _=>Nat.lt_succ_self _) (fun _ _ _=>trivial) .nil zq (hvu.toR h5)
    refine ⟨r,⟨rk t.n+rk u.n+2,fun f hf=>?_⟩,hfr⟩
    show bY f S t=_
    unfold bY
    rw [hu f oq]
    simp only [if_pos h5,hbv]
    exact hr' f oq
 · refine ⟨u,⟨rk t.n+2,fun f hf=>?_⟩,hfu⟩
   show bY f S t=_
   unfold bY
   rw [hu f hf]
   simp only [if_neg h5]
theorem wX {b:Nat} (hR:∀ t,Ft h b t→tyS S t→∃ r,Ev (fun f=>dH f S t=some r)∧Ft h b r):∀ (l:List Ty),(∀ k∈l,Ft h b k∧tyS S k)→∃ rs,Ev (fun f=>sf (dH f S) l=some rs)∧rs.length=l.length∧∀ k∈rs,Ft h b k
 | [],_=>⟨[],Ev.of fun f=>rfl,rfl,by simp⟩
 | t::l,hl=>by
  obtain ⟨r,h1,h2⟩:=hR t (hl t List.mem_cons_self).1 (hl t List.mem_cons_self).2
  obtain ⟨rs,k1,k2,k3⟩:=wX hR l fun k hk=>hl k (List.mem_cons_of_mem _ hk)
  refine ⟨r::rs,(h1.and k1).mono fun f hf=>?_,by simp [k2],fun k hk=>?_⟩
  · rw [sf,hf.1];simp only [hf.2]
  · rcases List.mem_cons.1 hk with rfl|hk
    · exact h2
    · exact k3 k hk
omit wf hF hr in
theorem Ft.same {b:Nat} {t:Ty} (ht:Ft h b t) {ks:List Ty} (hl:ks.length=t.kids.length) (hk:∀ c,b=c+1→∀ k∈ks,Ft h c k):Ft h b (.mk t.kind t.name t.n t.names ks):=by
 cases ht with
 | leaf _ k x hx h5 h6=>simp at hl;subst hl;exact .leaf b k x hx h5 h6
 | list c t ht=>simp at hl;obtain ⟨r,rfl⟩:=List.length_eq_one_iff.1 hl;exact .list c r (hk c rfl r zq)
 | var _ n hn=>simp at hl;subst hl;exact .var b n hn
 | rcd c n ns ks' hn nd hm hl' hk'=>exact .rcd c n ns ks hn nd hm (by rw [hl'];exact hl.symm) (hk c rfl)
theorem oo {b:Nat} (hb:szB b<lim) (hR:∀ c,b=c+1→∀ t,Ft h c t→tyS S t→∃ r,Ev (fun f=>dH f S t=some r)∧Ft h c r) {t u:Ty} (hu:Ev fun f=>bY f S t=some u) (hfu:Ft h b u) (hk:∀ k∈u.kids,tyS S k) :
 ∃ r,Ev (fun f=>dH f S t=some r)∧Ft h b r:=by
 have:∃ rs,Ev (fun f=>sf (dH f S) u.kids=some rs)∧rs.length=u.kids.length∧∀ c,b=c+1→∀ k∈rs,Ft h c k:=by
  cases b with
  | zero =>
   have h0:u.kids=[]:=by
    cases hku:u.kids with
    | nil=>rfl
    | cons k l=>obtain ⟨c,hc,_⟩:=hfu.kids (k:=k) (by rw [hku];simp);omega
   rw [h0]
   exact ⟨[],Ev.of fun f=>rfl,rfl,by simp⟩
  | succ c =>
   obtain ⟨rs,h1,h2,h3⟩:=wX wf hF hr (hR c rfl) u.kids fun k hk'=>by
    obtain ⟨d,hd,hf⟩:=hfu.kids hk'
    obtain rfl:c=d:=by omega
    exact ⟨hf,hk k hk'⟩
   exact ⟨rs,h1,h2,fun d hd=>Nat.succ.inj hd▸h3⟩
 obtain ⟨rs,h1,h2,h3⟩:=this
 refine ⟨_,Ev.succ ((hu.and h1).mono fun f hf=>?_),hfu.same h2 h3⟩
 rw [dH,hf.1]
 simp only [hf.2]
 rw [if_pos (Nat.lt_of_le_of_lt hfu.sz hb)]
theorem mw:∀ (b:Nat) (_:szB b<lim) (t:Ty),Ft h b t→tyS S t→∃ r,Ev (fun f=>dH f S t=some r)∧Ft h b r
 | b,hb,t,ht,hv=>by
  obtain ⟨u,hu,hfu⟩:=jx wf hF hr hb ht hv
  have hvu:=hu.some
  obtain ⟨f,hf⟩:=hvu
  have hk:=(db wf hf hv).1
  refine oo wf hF hr hb (fun c hc t' ht' hv'=>?_) hu hfu fun k hk'=>hk.kid hk'
  subst hc
  exact mw c (by simp only [szB] at hb;omega) t' ht' hv'
end
def o5 (S:St):Nat:=(S.filter fun p=>!p.2.bd).length
def phi (S:St):Nat:=S.length+o5 S
theorem tK {k:Int} {v w:Vr}:∀ {S:St},ai k S=some w→o5 (aI k v S)+(if w.bd then 0 else 1)=o5 S+(if v.bd then 0 else 1)
 | [],h=>by simp [ai] at h
 | p::S,h=>by
  rw [ai] at h
  rw [aI]
  split at h
  · rename_i e
    rw [if_pos e]
    cases h
    unfold o5
    cases hb:p.2.bd <;> cases hv:v.bd <;> simp [hb,hv]
  · rename_i e
    rw [if_neg e]
    have ih:=tK (v:=v) h
    unfold o5 at ih ⊢
    rw [List.filter_cons,List.filter_cons]
    cases hb:p.2.bd <;> simp <;> omega
theorem AQ {k:Int} {v:Vr}:∀ {S:St},ai k S=none→o5 (aI k v S)=o5 S+(if v.bd then 0 else 1)
 | [],_=>by unfold o5;cases hv:v.bd <;> simp [aI,hv]
 | p::S,h=>by
  rw [ai] at h
  split at h
  · cases h
  · rename_i e
    rw [aI,if_neg e]
    have ih:=AQ (v:=v) h
    unfold o5 at ih ⊢
    rw [List.filter_cons,List.filter_cons]
    cases hb:p.2.bd <;> simp <;> omega
theorem AS (lv:Int):∀ (ks:List Int) (S:St),o5 (cS lv ks S)=o5 S
 | [],S=>rfl
 | k::ks,S=>by
  rw [cS,AS lv ks]
  cases hk:ai k S with
  | none=>rfl
  | some w =>
   have:=tK (k:=k) (v:={ w with lv:=min w.lv lv }) hk
   simp only at this ⊢
   omega
theorem DA {S:St} {n:Int} {t:Ty} {x:Vr} (hx:ai n S=some x) (hb:x.bd=false) (ks:List Int):phi (aI n { x with bd:=true,val:=t } (cS x.lv ks S))+1=phi S:=by
 obtain ⟨l,hl⟩:=((eR x.lv ks S).2 n).1 x hx
 have h1:=tK (k:=n) (v:={ x with bd:=true,val:=t }) hl
 have h2:=AS x.lv ks S
 have h3:=kf (k:=n) (v:={ x with bd:=true,val:=t }) (l:=cS x.lv ks S) (by rw [hl];rfl)
 have h4:=(eR x.lv ks S).1
 simp only [hb] at h1
 unfold phi
 simp at h1
 omega
theorem F2 {S:St} (wf:Wf S) (a b:Ty):phi (dQ S a b)=phi S+2:=by
 unfold phi dQ
 rw [iF wf.fresh,AQ wf.fresh]
 simp
 omega
structure Be (S:St) (h:Int→Nat) (run:Nat→Option (Bool×St)) (ok:Bool) (S':St) (h':Int→Nat):Prop where
 ph:ok=true→phi S'≤phi S
 ev:Ev fun f=>run f=some (ok,S')
 stf:StF S' h'
 old:∀ n x,ai n S=some x→h' n=h n
theorem Ft.in {S:St} {h h':Int→Nat} {b:Nat} {t:Ty} (ht:Ft h b t) (ho:∀ n x,ai n S=some x→h' n=h n) (hi:∀ o∈az t,∃ y,ai o.n S=some y∧y.row=o.row):Ft h' b t :=
 ht.ext fun o hm=>by obtain ⟨y,h1,_⟩:=hi o hm;exact ho _ y h1
theorem tyS.in {S:St} {t:Ty} (h:tyS S t):∀ o∈az t,∃ y,ai o.n S=some y∧y.row=o.row:=fun o ho=>by
 obtain ⟨y,h1,h2,_⟩:=h.2 o ho;exact ⟨y,h1,h2⟩
theorem iI {S:St} {h:Int→Nat} {n:Int} {t:Ty} {x:Vr} {b:Nat} (hi:Inv S) (hF:StF S h) (hb:szB b<lim) (hx:ai n S=some x) (hnb:x.bd=false) (hv:vV S x t) (hn:Hn S t) (hft:Ft h b t) (hnn:h n=b) :
 ∃ ok S',Be S h (fun f=>b7 f S n t) ok S' h∧(ok=true→phi S'+1=phi S)∧(ok=false→S'=S):=by
 obtain ⟨wf,ρ,rk,hρ,hrk⟩:=hi
 have hkid:∀ k∈t.kids,tyS S k:=by
  cases hr:x.row with
  | true=>exact (hv.2 hr).kids
  | false=>exact fun k hk=>(hv.1 hr).kid hk
 obtain ⟨r,h1,h2⟩:=oo wf hF hrk hb (fun c hc t' ht' hv'=>mw wf hF hrk c (by subst hc;simp only [szB] at hb;omega) t' ht' hv') (Ev.succ (Ev.of fun f=>kV hn)) hft hkid
 have hvB:vB S x t:=⟨hv,fun hr=>hn (.inl (hv.2 hr).k5)⟩
 obtain ⟨f0,hf0⟩:=h1.some
 obtain ⟨q1,q2,q3⟩:=DI wf hf0 hvB
 have hall:(aw [] r).all (fun k=>(ai k S).isSome)=true:=by
  rw [List.all_eq_true]
  intro k hk
  obtain ⟨o,ho,e⟩:=bC.1 (gd.1 hk)
  obtain ⟨y,y1,_⟩:=q1.in.2 o ho
  rw [← e,y1];rfl
 by_cases hc:(aw [] r).contains n=true
 · refine ⟨false,S,⟨fun h=>absurd h dq,h1.mono fun f hf=>?_,hF,fun _ _ _=>rfl⟩,fun h=>absurd h dq,fun _=>rfl⟩
   unfold b7
   rw [hx,hf]
   simp only
   rw [if_pos ⟨Nat.lt_of_le_of_lt h2.sz hb,hall⟩,if_pos hc]
 · have hph:=DA (t:=t) hx hnb (aw [] r)
   refine ⟨true,aI n { x with bd:=true,val:=t } (cS x.lv (aw [] r) S),⟨fun _=>by omega,h1.mono fun f hf=>?_,fun m y hy hyb=>?_,fun _ _ _=>rfl⟩,fun _=>hph,fun h=>absurd h dq⟩
   · unfold b7
     rw [hx,hf]
     simp only
     rw [if_pos ⟨Nat.lt_of_le_of_lt h2.sz hb,hall⟩,if_neg hc]
   · have hB:=iP (t:=t) hx (aw [] r)
     obtain ⟨z,z1,z2,z3,z4,z5⟩:=hB.at hy
     by_cases e:m=n
     · rw [(z4 e).2,e,hnn];exact hft
     · rw [(z5 e).2];exact hF m z z1 ((z5 e).1.symm.trans hyb)
def B5 (b:Nat):Prop:=∀ S h x y,phi S<lim→Inv S→StF S h→tyS S x→tyS S y→Ft h b x→Ft h b y→∃ ok S' h',Be S h (fun f=>bt f S x y) ok S' h'
def und (D:Dn):Nat:=(nm4.filter fun s=>!isD D s).length
theorem Bz {p q:List UInt8→Bool} (l:List (List UInt8)) (h:∀ s,p s=true→q s=true):(l.filter p).length≤(l.filter q).length:=by
 rw [← List.countP_eq_length_filter,← List.countP_eq_length_filter]
 exact List.countP_mono_left fun x _=>h x
theorem D5 {D D':Dn} (h:∀ s,isD D s=true→isD D' s=true) {s:List UInt8} (hs:s∈nm4) (h0:isD D s=false) (h1:isD D' s=true):und D'<und D:=by
 have:∀ l:List (List UInt8),s∈l→(l.filter fun s=>!isD D' s).length<(l.filter fun s=>!isD D s).length:=by
  intro l
  induction l with
  | nil=>simp
  | cons a l ih =>
   intro hm
   have hle:(l.filter fun s=>!isD D' s).length≤(l.filter fun s=>!isD D s).length:=by
    refine Bz l fun s hs=>?_
    cases hd:isD D s with
    | false=>rfl
    | true=>rw [h s hd] at hs;cases hs
   rw [List.filter_cons,List.filter_cons]
   by_cases e:a=s
   · subst e
     rw [h1,h0]
     simp only [Bool.not_true,Bool.not_false,if_true,List.length_cons]
     simp only [Bool.false_eq_true,if_false]
     omega
   · have hm':s∈l:=by rcases List.mem_cons.1 hm with h|h;exact absurd h.symm e;exact h
     have:=ih hm'
     cases hd:isD D a with
     | true=>rw [h a hd];simpa using this
     | false =>
      cases hd':isD D' a with
      | true=>simp;omega
      | false=>simpa using this
 exact this nm4 hs
theorem rA {b:Nat} (hU:B5 b) {c:Ty} (kc:c.kind=5):∀ (ns:List (List UInt8)) (ks:List Ty) (S:St) (h:Int→Nat) (D:Dn) (ag:Bool),phi S<lim→ns.length=ks.length→Inv S→StF S h→tyS S c→Ft h (b+1) c→(∀ s∈ns,s∈nm4)→(∀ k∈ks,tyS S k∧Ft h b k) →
 ∃ ok S1 D1 ag1 h1,Ev (fun f=>ci (bt f) c ns ks S D ag=some (ok,S1,D1,ag1))∧StF S1 h1∧(∀ n x,ai n S=some x→h1 n=h n)∧(∀ s,isD D s=true→isD D1 s=true)∧(ag=false→ag1=true→und D1<und D)∧(ok=true→phi S1≤phi S)
 | [],ks,S,h,D,ag,hp,hl,hi,hF,hv,hf,hm,hk=>⟨true,S,D,ag,h,Ev.of fun f=>by simp [ci],hF,fun _ _ _=>rfl,fun _ h=>h,fun h1 h2=>(by rw [h1] at h2;cases h2),fun _=>Nat.le_refl _⟩
 | s::ns,[],S,h,D,ag,hp,hl,hi,hF,hv,hf,hm,hk=>by simp at hl
 | s::ns,k::ks,S,h,D,ag,hp,hl,hi,hF,hv,hf,hm,hk=>by
  obtain ⟨b1,b2,_⟩:=hv.1.sorted kc
  by_cases hc:cG c.names s<0∨isD D s=true
  · obtain ⟨ok,S1,D1,ag1,h1,q1,q2⟩:=rA hU kc ns ks S h D ag hp (by simpa using hl) hi hF hv hf (fun s hs=>hm s (List.mem_cons_of_mem _ hs)) (fun k hk'=>hk k (List.mem_cons_of_mem _ hk'))
    exact ⟨ok,S1,D1,ag1,h1,q1.mono fun f hf=>by rw [ci,if_pos hc];exact hf,q2⟩
  · have hc':¬ cG c.names s<0∧¬ isD D s=true:=⟨fun h=>hc (.inl h),fun h=>hc (.inr h)⟩
    have hfg:=yZ (aE b1) b2 hc'.1
    have hvc:=hv.kid (gG hfg)
    obtain ⟨d,hd,hfc⟩:=hf.kids (gG hfg)
    obtain rfl:b=d:=by omega
    obtain ⟨hvk,hfk⟩:=hk k List.mem_cons_self
    obtain ⟨ok,S2,h2,rp,r1,r2,r3⟩:=hU S h _ _ hp hi hF hvk hvc hfk hfc
    obtain ⟨f0,hf0⟩:=r1.some
    have st:=gM f0 _ _ _ _ _ hf0 hi hvk hvc
    have hs4:=hm s List.mem_cons_self
    have hd0:isD D s=false:=Bool.eq_false_iff.2 hc'.2
    have hD':∀ t,isD D t=true→isD (aI s true D) t=true:=fun t ht=>by rw [rh];split <;> simp [ht]
    have hD1:isD (aI s true D) s=true:=by rw [rh,if_pos rfl]
    cases ok with
    | true =>
     have hp2:=rp rfl
     obtain ⟨ok,S1,D1,ag1,h1,q1,q2,q3,q4,q5,q6⟩:=rA hU kc ns ks S2 h2 (aI s true D) true oq (by simpa using hl) st.inv r2 (hv.ext st.ext) (hf.in r3 hv.in) (fun s hs=>hm s (List.mem_cons_of_mem _ hs))
      (fun k hk'=>⟨(hk k (List.mem_cons_of_mem _ hk')).1.ext st.ext,(hk k (List.mem_cons_of_mem _ hk')).2.in r3 (hk k (List.mem_cons_of_mem _ hk')).1.in⟩)
     refine ⟨ok,S1,D1,ag1,h1,(r1.and q1).mono fun f hf=>?_,q2,fun n x hx=>?_,fun t ht=>q4 t (hD' t ht),fun _ _=>D5 (fun t ht=>q4 t (hD' t ht)) hs4 hd0 (q4 s hD1),fun ho=>by have:=q6 ho;omega⟩
     · rw [ci,if_neg hc];simp only [hf.1];exact hf.2
     · obtain ⟨x',hx',_⟩:=st.ext n x hx
       rw [q3 n x' hx',r3 n x hx]
    | false =>
     refine ⟨false,S2,aI s true D,true,h2,r1.mono fun f hf=>?_,r2,r3,hD',fun _ _=>D5 hD' hs4 hd0 hD1,fun h=>absurd h dq⟩
     rw [ci,if_neg hc];simp only [hf]
theorem xx {b:Nat} (hb:szB (b+1)<lim) (hU:B5 b):∀ (m:Nat) (S:St) (h:Int→Nat) (a c:Ty) (D:Dn),phi S<lim→und D≤m→Inv S→StF S h→tyS S a→tyS S c→a.kind=5→c.kind=5→Ft h (b+1) a→Ft h (b+1) c→dOk S a c D →
 ∃ ok S1 a1 c1 h1,(∃ N,∀ f,N≤f→∀ g,m+1≤g→dW f (bt f) g S a c D=some (ok,S1,a1,c1))∧StF S1 h1∧(∀ n x,ai n S=some x→h1 n=h n)∧Ft h1 (b+1) a1∧Ft h1 (b+1) c1∧(ok=true→phi S1≤phi S)
 | m,S,h,a,c,D,hp,hm,hi,hF,ha,hc,ka,kc,fa,fc,hd=>by
  have hi':=hi
  obtain ⟨wf,ρ,rk,hρ,hrk⟩:=hi'
  obtain ⟨a',ea,fa'⟩:=jx wf hF hrk hb fa ha
  obtain ⟨c',ec,fc'⟩:=jx wf hF hrk hb fc hc
  obtain ⟨f1,hf1⟩:=ea.some
  obtain ⟨f2,hf2⟩:=ec.some
  obtain ⟨va,na,eqa⟩:=db wf hf1 ha
  obtain ⟨vc,nc,eqc⟩:=db wf hf2 hc
  have kk:∀ t t':Ty,tyS S t'→t.kind=5→sub ρ t'=sub ρ t→(t'.kind=5∨t'.kind=6→bdV S t'.n=none)→t'.kind=5:=by
   intro t t' hv k5 e hn
   have h1:(sub ρ t').kind=5:=by rw [e,bG (by rw [k5];decide)];exact k5
   by_cases h6:t'.kind=6
   · obtain ⟨x,h2,h3⟩:=hv.var6 h6
     rw [sR h6,hρ.free _ x h2 (bZ (hn (.inr h6)) h2),h3] at h1
     exact absurd h1 (by simp [idv])
   · rw [bG h6] at h1;exact h1
  have ka':=kk a a' va ka (eqa ρ hρ.sol) na
  have kc':=kk c c' vc kc (eqc ρ hρ.sol) nc
  obtain ⟨d,hd1,_,nd,hnm,hl,hk⟩:=fa'.r5 ka'
  obtain rfl:b=d:=by omega
  obtain ⟨_,_,_,_,_,hlc,_⟩:=fc'.r5 kc'
  have hrok:rok a'∧rok c':=⟨⟨Nat.lt_of_le_of_lt fa'.sz hb,hl⟩,Nat.lt_of_le_of_lt fc'.sz hb,hlc⟩
  obtain ⟨ok,S1,D1,ag1,h1,q1,q2,q3,q4,q5,q6⟩:=rA hU kc' a'.names a'.kids S h D false hp hl hi hF vc fc' hnm (fun k hk'=>⟨va.kid hk',hk k hk'⟩)
  obtain ⟨f3,hf3⟩:=q1.some
  obtain ⟨p1,p2,p3,p4,p5⟩:=kA (gM f3) kc' _ _ _ _ _ _ _ _ _ hf3 hl hi vc (fun k hk'=>va.kid hk')
  have fa1:=fa'.in q3 va.in
  have fc1:=fc'.in q3 vc.in
  obtain ⟨N,hN⟩:=(ea.and ec).and q1
  cases ok with
  | false =>
   refine ⟨false,S1,a',c',h1,⟨N,fun f hf g hg=>?_⟩,q2,q3,fa1,fc1,q6⟩
   obtain ⟨g,rfl⟩:∃ g',g=g'+1:=⟨g - 1,by omega⟩
   obtain ⟨⟨e1,e2⟩,e3⟩:=hN f hf
   rw [dW,e1];simp only [e2];rw [if_pos hrok];simp only [e3]
  | true =>
   cases hag:ag1 with
   | false =>
    subst hag
    refine ⟨true,S1,a',c',h1,⟨N,fun f hf g hg=>?_⟩,q2,q3,fa1,fc1,q6⟩
    obtain ⟨g,rfl⟩:∃ g',g=g'+1:=⟨g - 1,by omega⟩
    obtain ⟨⟨e1,e2⟩,e3⟩:=hN f hf
    rw [dW,e1];simp only [e2];rw [if_pos hrok];simp only [e3]
   | true =>
    subst hag
    have hlt:=q5 rfl rfl
    match m,hm with
    | 0,hm=>omega
    | m+1,hm =>
    obtain ⟨s1,s2,_⟩:=va.1.sorted ka'
    obtain ⟨r1,_⟩:=p4 rfl
    have hp1:=q6 rfl
    obtain ⟨ok,S2,a2,c2,h2,⟨M,hM⟩,w2,w3,w4,w5,w6⟩:=xx hb hU m S1 h1 a' c' D1 oq oq p1 q2 (va.ext p2) (vc.ext p2) ka' kc' fa1 fc1 (fun s hs σ hσ=>by
     rcases r1 s hs with h|⟨x,y,g1,g2,g3⟩
     · rw [eqa σ (p3 σ hσ),eqc σ (p3 σ hσ)];exact hd s h σ (p3 σ hσ)
     · have hx:fg s a'=some x:=km (by rw [du s2];exact aE s1) g1
       rw [va.field1 ka' (p3 σ hσ) hx,vc.field1 kc' (p3 σ hσ) g2,g3 σ hσ])
    refine ⟨ok,S2,a2,c2,h2,⟨max N M,fun f hf g hg=>?_⟩,w2,fun n x hx=>?_,w4,w5,fun ho=>by have:=w6 ho;omega⟩
    · obtain ⟨g,rfl⟩:∃ g',g=g'+1:=⟨g - 1,by omega⟩
      obtain ⟨⟨e1,e2⟩,e3⟩:=hN f oq
      rw [dW,e1];simp only [e2];rw [if_pos hrok];simp only [e3]
      exact hM f oq g oq
    · obtain ⟨x',hx',_⟩:=p2 n x hx
      rw [w3 n x' hx',q3 n x hx]
 termination_by m=>m
theorem nX {h:Int→Nat} {b:Nat} {a c:Ty} {n:Int} (fa:Ft h (b+1) a) (ka:a.kind=5) (hn:n≠0→h n=b+1):Ft h (b+1) (onT a c n):=by
 obtain ⟨d,hd,_,nd,hnm,hl,hk⟩:=fa.r5 ka
 obtain rfl:b=d:=by omega
 refine Ft.recT (gp a c _).1 (fun p hp=>?_) hn
 have hm:=km (gp a c a.names.length).1 (k:=p.1) (x:=p.2) hp
 obtain ⟨i,hi,e1,e2⟩:=((my nd hl _ (Nat.le_refl _)).1 hm).2
 have hi':i<a.kids.length:=by omega
 rw [List.getD_eq_getElem?_getD,List.getElem?_eq_getElem hi] at e1
 rw [List.getD_eq_getElem?_getD,List.getElem?_eq_getElem hi'] at e2
 exact ⟨hnm _ (e1▸List.getElem_mem hi),e2▸hk _ (List.getElem_mem hi')⟩
theorem Es {b:Nat} {S:St} {h:Int→Nat} {a c:Ty} (hb:szB (b+1)<lim) (hp:phi S<lim) (hi:Inv S) (hF:StF S h) (ha:tyS S a) (hc:tyS S c) (ka:a.kind=5) (kc:c.kind=5) (na:bdV S a.n=none) (nc:bdV S c.n=none) (fa:Ft h (b+1) a) (fc:Ft h (b+1) c) :
 ∃ ok S' h',Be S h (fun f=>fB f S a c) ok S' h':=by
 have wf:=hi.1
 obtain ⟨a1,a2,_⟩:=ha.1.sorted ka
 obtain ⟨c1,c2,_⟩:=hc.1.sorted kc
 have a0:=ha.n0 ka
 have c0:=hc.n0 kc
 obtain ⟨d,hd,hna',_⟩:=fa.r5 ka
 obtain ⟨d',hd',hnc',_⟩:=fc.r5 kc
 have hg:(onT a c c.n).sz<lim∧(onT c a a.n).sz<lim:=⟨Nat.lt_of_le_of_lt (nX fa ka fun hn=>hnc' hn).sz hb,Nat.lt_of_le_of_lt (nX fc kc fun hn=>hna' hn).sz hb⟩
 by_cases e:a.n=c.n
 · refine ⟨decide ((onT a c c.n).names.length+(onT c a a.n).names.length=0),S,h,fun _=>Nat.le_refl _,Ev.of fun f=>?_,hF,fun _ _ _=>rfl⟩
   show fB f S a c=_
   unfold fB
   rw [if_pos hg,if_pos e]
 by_cases hz:(0<(onT a c c.n).names.length∧c.n=0)∨(0<(onT c a a.n).names.length∧a.n=0)
 · refine ⟨false,S,h,fun _=>Nat.le_refl _,Ev.of fun f=>?_,hF,fun _ _ _=>rfl⟩
   show fB f S a c=_
   unfold fB
   rw [if_pos hg,if_neg e,if_pos hz]
 by_cases hl:(onT a c c.n).names.length=0∧a.n≠0
 · have hsub:=fT (b:=c) (n:=c.n) (aE a1) a2 hl.1
   obtain ⟨x,h1,h2,h3⟩:=ha.var ka hl.2
   have hv:rwS S a.names (onT c a c.n):=jP hc kc c0 fun hn'=>by
    obtain ⟨y,y1,y2,y3⟩:=hc.var kc hn'
    exact ⟨y,y1,y2,fun s=>by rw [y3];exact ⟨.inr,fun h=>h.elim (hsub s) id⟩⟩
   obtain ⟨ok,S',r,_,_⟩:=iI (t:=onT c a c.n) hi hF hb h1 (bZ na h1) ⟨fun hf=>absurd (h2.symm.trans hf) dq,fun _=>by rw [h3];exact hv⟩ (lV rfl nc) (nX fc kc (fun hn=>hnc' hn)) (hna' hl.2)
   refine ⟨ok,S',h,r.ph,r.ev.mono fun f hf=>?_,r.stf,r.old⟩
   show fB f S a c=_
   unfold fB
   rw [if_pos hg,if_neg e,if_neg hz,if_pos hl]
   exact hf
 by_cases hr:(onT c a a.n).names.length=0
 · have hn:c.n≠0:=by
    intro e0
    have hl1:¬ 0<(onT a c c.n).names.length:=fun hp=>hz (.inl ⟨hp,e0⟩)
    have hna:a.n=0:=Classical.byContradiction fun h0=>hl ⟨by omega,h0⟩
    exact e (hna.trans e0.symm)
   have hsub:=fT (b:=a) (n:=a.n) (aE c1) c2 hr
   obtain ⟨x,h1,h2,h3⟩:=hc.var kc hn
   have hv:rwS S c.names (onT a c a.n):=jP ha ka a0 fun hn'=>by
    obtain ⟨y,y1,y2,y3⟩:=ha.var ka hn'
    exact ⟨y,y1,y2,fun s=>by rw [y3];exact ⟨.inr,fun h=>h.elim (hsub s) id⟩⟩
   obtain ⟨ok,S',r,_,_⟩:=iI (t:=onT a c a.n) hi hF hb h1 (bZ nc h1) ⟨fun hf=>absurd (h2.symm.trans hf) dq,fun _=>by rw [h3];exact hv⟩ (lV rfl na) (nX fa ka (fun hn=>hna' hn)) (hnc' hn)
   refine ⟨ok,S',h,r.ph,r.ev.mono fun f hf=>?_,r.stf,r.old⟩
   show fB f S a c=_
   unfold fB
   rw [if_pos hg,if_neg e,if_neg hz,if_neg hl,if_pos hr]
   exact hf
 have hla:¬ (onT a c c.n).names.length=0:=by
  intro e0
  have hn:a.n=0:=Classical.byContradiction fun h0=>hl ⟨e0,h0⟩
  exact hz (.inr ⟨by omega,hn⟩)
 have hna:a.n≠0:=fun e0=>hz (.inr ⟨by omega,e0⟩)
 have hnc:c.n≠0:=fun e0=>hz (.inl ⟨by omega,e0⟩)
 obtain ⟨v,hnew,hvr,hvn⟩:=xo wf a c
 have hi1:=hi.new hnew
 have he1:=hnew.ext wf
 have ha1:=ha.ext he1
 have hc1:=hc.ext he1
 obtain ⟨xa,xa1,xa2,xa3⟩:=ha.var ka hna
 obtain ⟨xc,xc1,xc2,xc3⟩:=hc.var kc hnc
 have hka:a.n≠((S.length+1:Nat):Int):=wf.ne xa1
 have hkc:c.n≠((S.length+1:Nat):Int):=wf.ne xc1
 have xa1':ai a.n (dQ S a c)=some xa:=by rw [hnew.oth _ hka];exact xa1
 have xc1':ai c.n (dQ S a c)=some xc:=by rw [hnew.oth _ hkc];exact xc1
 have hk0:bdV (dQ S a c) ((S.length+1:Nat):Int)=none:=by rw [ii hnew.at_,hnew.bd];rfl
 have hR:rwS (dQ S a c) a.names (onT c a ((S.length+1:Nat):Int)):=jP hc1 kc oq fun _=>⟨v,hnew.at_,hvr,fun s=>by rw [hvn,eL]⟩
 have hL:rwS (dQ S a c) c.names (onT a c ((S.length+1:Nat):Int)):=jP ha1 ka oq fun _=>⟨v,hnew.at_,hvr,fun s=>by rw [hvn,eL];exact or_comm⟩
 have hold:∀ n x,ai n S=some x→(fun m=>if m=((S.length+1:Nat):Int) then b+1 else h m) n=h n:=fun n x hx=>by simp only;rw [if_neg (wf.ne hx)]
 have hF1:StF (dQ S a c) (fun m=>if m=((S.length+1:Nat):Int) then b+1 else h m):=fun m y hy hyb=>by
  by_cases e:m=((S.length+1:Nat):Int)
  · rw [e,hnew.at_] at hy;cases hy;rw [hnew.bd] at hyb;cases hyb
  · rw [hnew.oth m e] at hy
    simp only
    rw [if_neg e]
    exact (hF m y hy hyb).in hold (tV wf hy hyb).2
 have fa1:=fa.in hold ha.in
 have fc1:=fc.in hold hc.in
 have hkk:(fun m=>if m=((S.length+1:Nat):Int) then b+1 else h m) ((S.length+1:Nat):Int)=b+1:=by simp
 have hphn:=F2 wf a c
 have hpl:S.length<lim∧(ai a.n S).isSome=true∧(ai c.n S).isSome=true:=⟨by unfold phi at hp;omega,by rw [xa1];rfl,by rw [xc1];rfl⟩
 obtain ⟨ok1,S2,r1,r1p,_⟩:=iI (t:=onT c a ((S.length+1:Nat):Int)) hi1 hF1 hb xa1' (bZ na xa1) ⟨fun hf=>absurd (xa2.symm.trans hf) dq,fun _=>by rw [xa3];exact hR⟩ (lV rfl hk0) (nX fc1 kc fun _=>hkk) ((hold _ xa xa1).trans (hna' hna))
 obtain ⟨f0,hf0⟩:=r1.ev.some
 have st1:=e9 hf0 hi1 xa1' (bZ na xa1) ⟨fun hf=>absurd (xa2.symm.trans hf) dq,fun _=>by rw [xa3];exact hR⟩ (lV rfl hk0) (fun h6=>absurd h6 (by show ¬ (5:Int)=6;decide)) (fun _=>hka.symm)
 cases ok1 with
 | false =>
  refine ⟨false,S2,_,fun h=>absurd h dq,r1.ev.mono fun f hf=>?_,r1.stf,fun n x hx=>?_⟩
  · show fB f S a c=_
    unfold fB
    rw [if_pos hg,if_neg e,if_neg hz,if_neg hl,if_neg hr,if_pos hpl,hf]
  · exact hold n x hx
 | true =>
  obtain ⟨xc',yc1,yc2,yc3⟩:=st1.ext _ xc xc1'
  have hun:∀ m y,ai m (dQ S a c)=some y→y.bd=false→m≠a.n→bdV S2 m=none:=by
   intro m y hy hyb hm
   unfold b7 at hf0
   rw [xa1'] at hf0
   simp only at hf0
   split at hf0 <;> try (cases hf0;done)
   split at hf0 <;> try (cases hf0;done)
   split at hf0
   · cases hf0
   · cases hf0
     have hB:=iP (t:=onT c a ((S.length+1:Nat):Int)) xa1' (aw [] ‹Ty›)
     obtain ⟨z,z1,z2,z3,_,z5⟩:=hB.fw _ y hy
     rw [ii z1,(z5 hm).1,hyb];rfl
  have hnc2:=hun _ xc xc1' (bZ nc xc1) (fun e0=>e e0.symm)
  have hk2:=hun _ v hnew.at_ hnew.bd (fun e0=>hka e0.symm)
  obtain ⟨ok2,S3,r2,r2p,_⟩:=iI (t:=onT a c ((S.length+1:Nat):Int)) st1.inv r1.stf hb yc1 (bZ hnc2 yc1) ⟨fun hf=>absurd (xc2.symm.trans (yc2.symm.trans hf)) dq,fun _=>by rw [yc3,xc3];exact hL.ext st1.ext⟩ (lV rfl hk2) (nX fa1 ka fun _=>hkk) ((hold _ xc xc1).trans (hnc' hnc))
  refine ⟨ok2,S3,_,fun ho=>(by have:=r1p rfl;have:=r2p ho;omega),(r1.ev.and r2.ev).mono fun f hf=>?_,r2.stf,fun n x hx=>hold n x hx⟩
  show fB f S a c=_
  unfold fB
  rw [if_pos hg,if_neg e,if_neg hz,if_neg hl,if_neg hr,if_pos hpl,hf.1]
  exact hf.2
theorem Dw {b:Nat} (hb:szB (b+1)<lim) (hU:B5 b) {S:St} {h:Int→Nat} {a c:Ty} (hp:phi S<lim) (hi:Inv S) (hF:StF S h) (ha:tyS S a) (hc:tyS S c) (ka:a.kind=5) (kc:c.kind=5) (fa:Ft h (b+1) a) (fc:Ft h (b+1) c) :
 ∃ ok S' h',Be S h (fun f=>gE f (bt f) S a c) ok S' h':=by
 have hd0:dOk S a c []:=fun s h=>by simp [isD,ai] at h
 obtain ⟨ok,S1,a1,c1,h1,⟨N,hN⟩,q2,q3,q4,q5,q6⟩:=xx hb hU (und []) S h a c [] hp (Nat.le_refl _) hi hF ha hc ka kc fa fc hd0
 have hl:Ev fun f=>dW f (bt f) f S a c []=some (ok,S1,a1,c1):=⟨N+und []+1,fun f hf=>hN f oq f oq⟩
 obtain ⟨f0,hf0⟩:=hl.some
 obtain ⟨l1,l2,l3,l4,l5⟩:=po (gM f0) f0 S a c [] _ _ _ _ hf0 hi ha hc ka kc hd0
 cases ok with
 | false =>
  refine ⟨false,S1,h1,fun h=>absurd h dq,hl.mono fun f hf=>?_,q2,q3⟩
  show gE f (bt f) S a c=_
  unfold gE;rw [hf]
 | true =>
  obtain ⟨u1,u2,u3,u4,u5,u6,u7,u8⟩:=l4 rfl
  have hp1:=q6 rfl
  obtain ⟨ok,S2,h2,r⟩:=Es hb oq l1 q2 u1 u2 u3 u4 u5 u6 q4 q5
  refine ⟨ok,S2,h2,fun ho=>(by have:=r.ph ho;omega),(hl.and r.ev).mono fun f hf=>?_,r.stf,fun n x hx=>?_⟩
  · show gE f (bt f) S a c=_
    unfold gE;rw [hf.1];exact hf.2
  · obtain ⟨x',hx',_⟩:=l2 n x hx
    rw [r.old n x' hx',q3 n x hx]
theorem Ft.k4 {h:Int→Nat} {b:Nat} {t:Ty} (ht:Ft h b t) (hg:Gt t) (h4:t.kind=4):∃ c,b=c+1∧Ft h c (t.kids.getD 0 Ty.zero)∧t.kids.getD 0 Ty.zero∈t.kids:=by
 cases ht with
 | leaf _ k x hx h5 h6 =>
  exfalso
  simp only [Ty.kind_mk] at h4
  subst h4
  generalize he:Ty.mk 4 x 0 [] []=t at hg
  cases hg with
  | leaf k x a b c=>cases he;exact a rfl
  | list t h=>cases he
  | var n h=>cases he
  | rcd n ns ks a b c d=>cases he
 | list c t ht=>exact ⟨c,rfl,ht,by simp⟩
 | var _ n hn=>exact absurd h4 zq
 | rcd c n ns ks hn nd hm hl hk'=>exact absurd h4 zq
theorem jI {b:Nat} (hb:szB b<lim) (hU:∀ c,b=c+1→B5 c):B5 b:=by
 intro S h a c hp hi hF ha hc fa fc
 obtain ⟨wf,ρ,rk,hρ,hrk⟩:=hi
 have hi:Inv S:=⟨wf,ρ,rk,hρ,hrk⟩
 obtain ⟨a',ea,fa'⟩:=jx wf hF hrk hb fa ha
 obtain ⟨c',ec,fc'⟩:=jx wf hF hrk hb fc hc
 obtain ⟨f1,hf1⟩:=ea.some
 obtain ⟨f2,hf2⟩:=ec.some
 obtain ⟨va,na,eqa⟩:=db wf hf1 ha
 obtain ⟨vc,nc,eqc⟩:=db wf hf2 hc
 have hsz:a'.sz<lim∧c'.sz<lim:=⟨Nat.lt_of_le_of_lt fa'.sz hb,Nat.lt_of_le_of_lt fc'.sz hb⟩
 have go:∀ {run:Nat→Option (Bool×St)},(∀ f,bY f S a=some a'→bY f S c=some c'→bt (f+1) S a c=run f)→(∃ ok S' h',Be S h run ok S' h')→∃ ok S' h',Be S h (fun f=>bt f S a c) ok S' h':=by
  rintro run hrun ⟨ok,S',h',r⟩
  exact ⟨ok,S',h',r.ph,Ev.succ (((ea.and ec).and r.ev).mono fun f hf=>(hrun f hf.1.1 hf.1.2).trans hf.2),r.stf,r.old⟩
 have start:∀ f,bY f S a=some a'→bY f S c=some c'→bt (f+1) S a c=(if a'.kind=6∧c'.kind=6∧a'.n=c'.n then some (true,S)
  else if a'.kind=6 then b7 f S a'.n c'
  else if c'.kind=6 then b7 f S c'.n a'
  else if a'.kind≠c'.kind∨a'.name≠c'.name then some (false,S)
  else if a'.kind=5 then gE f (bt f) S a' c'
  else if a'.kind=4 then (if 0<a'.kids.length∧0<c'.kids.length then bt f S (a'.kids.getD 0 Ty.zero) (c'.kids.getD 0 Ty.zero) else none)
  else some (true,S)):=fun f h1 h2=>by
  rw [bt,h1];simp only [h2];rw [if_pos hsz]
 by_cases hcc:a'.kind=6∧c'.kind=6∧a'.n=c'.n
 · exact go (run:=fun _=>some (true,S)) (fun f h1 h2=>by rw [start f h1 h2,if_pos hcc]) ⟨true,S,h,fun _=>Nat.le_refl _,Ev.of fun _=>rfl,hF,fun _ _ _=>rfl⟩
 by_cases h6:a'.kind=6
 · obtain ⟨x,x1,x2⟩:=va.var6 h6
   obtain ⟨ok,S',r,_,_⟩:=iI hi hF hb x1 (bZ (na (.inr h6)) x1) ⟨fun _=>vc,fun hr=>absurd (x2.symm.trans hr) dq⟩ nc fc' (fa'.v6 h6)
   exact go (fun f h1 h2=>by rw [start f h1 h2,if_neg hcc,if_pos h6]) ⟨ok,S',h,r⟩
 by_cases k6:c'.kind=6
 · obtain ⟨x,x1,x2⟩:=vc.var6 k6
   obtain ⟨ok,S',r,_,_⟩:=iI hi hF hb x1 (bZ (nc (.inr k6)) x1) ⟨fun _=>va,fun hr=>absurd (x2.symm.trans hr) dq⟩ na fa' (fc'.v6 k6)
   exact go (fun f h1 h2=>by rw [start f h1 h2,if_neg hcc,if_neg h6,if_pos k6]) ⟨ok,S',h,r⟩
 by_cases hne:a'.kind≠c'.kind∨a'.name≠c'.name
 · exact go (run:=fun _=>some (false,S)) (fun f h1 h2=>by rw [start f h1 h2,if_neg hcc,if_neg h6,if_neg k6,if_pos hne]) ⟨false,S,h,fun _=>Nat.le_refl _,Ev.of fun _=>rfl,hF,fun _ _ _=>rfl⟩
 have hk:a'.kind=c'.kind:=Classical.byContradiction fun h=>hne (.inl h)
 by_cases h5:a'.kind=5
 · obtain ⟨d,rfl,_⟩:=fa'.r5 h5
   exact go (fun f h1 h2=>by rw [start f h1 h2,if_neg hcc,if_neg h6,if_neg k6,if_neg hne,if_pos h5]) (Dw hb (hU d rfl) hp hi hF va vc h5 (hk▸h5) fa' fc')
 by_cases h4:a'.kind=4
 · obtain ⟨d,rfl,g1,g2⟩:=fa'.k4 va.1 h4
   obtain ⟨d',hd',k1,k2⟩:=fc'.k4 vc.1 (hk▸h4)
   obtain rfl:d=d':=by omega
   exact go (fun f h1 h2=>by rw [start f h1 h2,if_neg hcc,if_neg h6,if_neg k6,if_neg hne,if_neg h5,if_pos h4,if_pos ⟨List.length_pos_of_mem g2,List.length_pos_of_mem k2⟩]) (hU d rfl S h _ _ hp hi hF (va.kid g2) (vc.kid k2) g1 k1)
 · exact go (run:=fun _=>some (true,S)) (fun f h1 h2=>by rw [start f h1 h2,if_neg hcc,if_neg h6,if_neg k6,if_neg hne,if_neg h5,if_neg h4]) ⟨true,S,h,fun _=>Nat.le_refl _,Ev.of fun _=>rfl,hF,fun _ _ _=>rfl⟩
theorem m3:∀ b,szB b<lim→B5 b
 | 0,hb=>jI hb fun c hc=>by omega
 | b+1,hb=>jI hb fun c hc=>by
  obtain rfl:b=c:=by omega
  exact m3 b (by simp only [szB] at hb;omega)
abbrev mD (l:List (List UInt8×Bool)):af:=.map (av aa.str aa.bool l)
abbrev oT (a b:Ty) (n:Int):Ty:=recT (onL a b a.names.length) n
theorem CW (x:Vr):x.v.refs=[]:=jR _ (by simp [Vr.v])
theorem xj (l:St):(av iE Vr.v l).flatMap (fun e=>e.1.refs++e.2.refs)=[]:=by
 rw [List.flatMap_eq_nil_iff]
 intro e he
 obtain ⟨p,_,rfl⟩:=List.mem_map.1 he
 simp [aa.refs,CW]
theorem vr (r:Nat→Nat) (l:St):j9 r (av iE Vr.v l)=av iE Vr.v l:=kM (k:=0) (fun i hi=>by omega) _ (AW 0 l)
theorem DZ (l:Fd):(av aa.str Ty.v l).flatMap (fun e=>e.1.refs++e.2.refs)=[]:=by
 rw [List.flatMap_eq_nil_iff]
 intro e he
 obtain ⟨p,_,rfl⟩:=List.mem_map.1 he
 simp [aa.refs,jR _ (Ex 0 p.2)]
theorem gi (r:Nat→Nat) (l:Fd):j9 r (av aa.str Ty.v l)=av aa.str Ty.v l:=kM (k:=0) (fun i hi=>by omega) _ (E2 0 l)
theorem zy {f:Nat} {S:St} {t r:Ty} (h:bY f S t=some r):∃ U,hdV f S t=some U∧((¬ U.kind=5∧r=U)∨(U.kind=5∧bdV S U.n=none∧r=U)∨(U.kind=5∧(∃ v,bdV S U.n=some v)∧hdR f S [] U=some r)):=by
 unfold bY at h
 split at h <;> try (cases h;done)
 rename_i U hU
 refine ⟨U,hU,?_⟩
 split at h
 · rename_i h5
   split at h
   · rename_i v hv;exact .inr (.inr ⟨h5,⟨v,hv⟩,h⟩)
   · rename_i hn;cases h;exact .inr (.inl ⟨h5,hn,rfl⟩)
 · rename_i h5;cases h;exact .inl ⟨h5,rfl⟩
theorem pN {g:Nat} {m:St} {u U:Ty} {x:Vr} (h:hdV g m u=some U) (h6:u.kind=6) (hx:ai u.n m=some x) (hb:x.bd=true):hdV (g - 1) m x.val=some U∧x.val.sz<100000000∧g - 1<g:=by
 cases g with
 | zero=>simp [hdV] at h
 | succ g =>
  rw [hdV,if_pos h6,ii hx,if_pos hb] at h
  simp only at h
  split at h <;> try (cases h;done)
  rename_i hs
  exact ⟨h,hs,by omega⟩
theorem wa {g:Nat} {m:St} {u U:Ty} (h:hdV g m u=some U) (hn:u.kind=6→bdV m u.n=none):U=u:=by
 cases g with
 | zero=>simp [hdV] at h
 | succ g =>
  rw [hdV] at h
  split at h
  · rename_i h6
    rw [hn h6] at h
    cases h;rfl
  · cases h;rfl
theorem Ad {m:St} {n:Int} (h:ai n m=none):bdV m n=none:=by unfold bdV;rw [h]
theorem EB {m:St} {n:Int} {x:Vr} (h:ai n m=some x) (hb:¬ x.bd=true):bdV m n=none:=by rw [ii h,if_neg hb]
theorem Ia {m:St} {n:Int} {x:Vr} (h:ai n m=some x) (hb:x.bd=true):bdV m n=some x.val:=by rw [ii h,if_pos hb]
theorem EF {f:Nat} {S:St} {U r u:Ty} (h:(¬ U.kind=5∧r=U)∨(U.kind=5∧bdV S U.n=none∧r=U)∨(U.kind=5∧(∃ v,bdV S U.n=some v)∧hdR f S [] U=some r)) (e:U=u) (hn:¬ u.kind=5∨bdV S u.n=none):r=u:=by
 subst e
 rcases h with h|h|h
 · exact h.2
 · exact h.2.2
 · obtain ⟨v,hv⟩:=h.2.1
   rcases hn with hn|hn
   · exact absurd h.1 hn
   · rw [hn] at hv;cases hv
theorem Jn {f:Nat} {S:St} {U r u v:Ty} (h:(¬ U.kind=5∧r=U)∨(U.kind=5∧bdV S U.n=none∧r=U)∨(U.kind=5∧(∃ v,bdV S U.n=some v)∧hdR f S [] U=some r)) (e:U=u) (h5:u.kind=5) (hb:bdV S u.n=some v):hdR f S [] u=some r:=by
 subst e
 rcases h with h|h|h
 · exact absurd h5 h.1
 · rw [h.2.1] at hb;cases hb
 · exact h.2.2
def b6 (l:Fd) (t:Ty) (k:Nat):Fd:=((t.names.zip t.kids).take k).foldl (fun l p=>aI p.1 p.2 l) l
theorem tA {l:Fd} {t:Ty} {k:Nat} (hk:k<t.names.length) (hl:t.names.length=t.kids.length):aI (t.names.getD k []) (t.kids.getD k Ty.zero) (b6 l t k)=b6 l t (k+1):=by
 have hz:k<(t.names.zip t.kids).length:=by rw [List.length_zip];omega
 unfold b6
 rw [List.take_succ_eq_append_getElem hz,List.foldl_append,List.getElem_zip,List.getD_eq_getElem?_getD,List.getD_eq_getElem?_getD,List.getElem?_eq_getElem hk,List.getElem?_eq_getElem (by omega:k<t.kids.length)]
 rfl
theorem iQ {l:Fd} {t:Ty} {k:Nat} (hk:t.names.length≤k):b6 l t k=dr l t:=by
 unfold b6 dr
 rw [List.take_of_length_le (by rw [List.length_zip];omega)]
structure fdI (l:Fd):Prop where
 nd:(l.map Prod.fst).Nodup
 nm:∀ p∈l,p.1.length≤1000000000
theorem AV:fdI []:=⟨by simp,by simp⟩
theorem ul {l:Fd} {t:Ty} (h:fdI l) (hs:t.sz<100000000):fdI (dr l t):=⟨dv t h.nd,fun p hp=>by
 rcases d7 hp with h'|h'
 · obtain ⟨i,hi,e⟩:=List.getElem_of_mem h'.1
   have:=fy t i
   rw [List.getD_eq_getElem?_getD,List.getElem?_eq_getElem hi] at this
   rw [← e]
   have:(t.names[i]).length<t.sz:=this
   omega
 · exact h.nm p h'⟩
theorem AM {g:Nat} {m:St} {l:Fd} {w r:Ty} (h:hdR g m l w=some r):w.sz<100000000∧(dr l w).length<100000000∧w.names.length=w.kids.length:=by
 cases g with
 | zero=>simp [hdR] at h
 | succ g =>
  rw [hdR] at h
  split at h <;> try (cases h;done)
  rename_i hs
  exact hs
theorem De {g k:Nat} {m:St} {l:Fd} {w r:Ty} (hI:fdI l) (h:hdR g m l w=some r) (hk:w.names.length≤k):tL (b6 l w k):=by
 rw [iQ hk]
 have hg:=AM h
 exact ⟨(ul hI hg.1).nd,(ul hI hg.1).nm,hg.2.1⟩
theorem xh {g:Nat} {m:St} {l:Fd} {w r:Ty} {x:Vr} (h:hdR g m l w=some r) (hx:ai w.n m=some x) (hb:x.bd=true):hdR (g - 1) m (dr l w) x.val=some r∧g - 1<g:=by
 have hs:=AM h
 cases g with
 | zero=>simp [hdR] at h
 | succ g =>
  rw [hdR,if_pos hs,Ia hx hb] at h
  exact ⟨h,by omega⟩
theorem DK {g:Nat} {m:St} {l:Fd} {w r:Ty} (h:hdR g m l w=some r) (hn:bdV m w.n=none):r=recT (dr l w) w.n:=by
 have hs:=AM h
 cases g with
 | zero=>simp [hdR] at h
 | succ g =>
  rw [hdR,if_pos hs,hn] at h
  cases h;rfl
theorem te (u w:Ty) (l:Fd) (n:Int) (lv:Int) (m:St) (hl:tL l):ar cx 83 [.map 4,.int .i64 n] [bS lv,mS m,u.bx,.box zC,mF l,w.bx] (fun v h=>v=(recT l n).v∧h=[bS lv,mS m,u.bx,.box zC,mF l,w.bx]):=by
 refine kC [2,5,3,4] (og u w l n hl) rfl dq zq (by simp [af.belO]) (by simp [dZ,af.ren,b4,aa.ren,bg,gi]) rfl (by simp [b4,aa.ren,bg]) (by simp [Ty.v,aa.ren,b4]) ?_
 simp [dX,cQ,dZ,af.ren,b4,aa.ren,bg,gi]
noncomputable def J8:Code:=aB Tryz.f106
theorem Dd {p:Prop} (h:p:=by have e:=EF hUr (wa hV (fun h6=>by first|exact absurd h6 aq|exact Ad aq|exact EB aq aq)) (by first|exact .inl oq|exact .inr (Ad aq)|exact .inr (EB aq aq));subst e;simp [aK,aa.frz,bf,Ty.v]):p:=h
theorem F5 {p:Prop} (h:p:=by simp [-List.map_append,-List.map_take,-List.map_drop,-List.append_assoc,aa.refs,dE,af.refs,af.isIter,oO,Abs.renT,eY,m8,af.ren,aa.ren,b4,List.idxOf_cons,xj,vr,DZ,gi]):p:=h
theorem I4 {p:Prop} (h:p:=by obtain rfl:=DK hR (by first|exact Ad aq|exact EB aq aq);simp [aK,aa.frz,bf,Ty.v,iQ (l:=l) (t:=w) (k:=k) oq]):p:=h
theorem mM {p:Prop} (h:p:=by simp [aK]):p:=h
theorem p9 (f:Nat) (t r:Ty) (lv:Int) (m:St) (hs:t.sz<100000000) (hh:bY f m t=some r):ar cx 106 [.ptr 0 0,Ty.v t] (hpS lv m) (fun v h=>v=(Ty.v r)∧h=hpS lv m):=by
 obtain ⟨U,hU,hUr⟩:=zy hh
 refine am (cx:=cx) 87 2 [(ResultVar.cell 4 25)] Tryz.func106 rfl rfl rfl rfl rfl zq ?_
 show wpA cx 87 2 (at_ J8 []) _ _ _
 apply qZ [(0,.ptr 0 0),(1,Ty.v t)] [bS lv,mS m]
 apply qW 2 [(0,.ptr 0 0),(3,.ptr 2 0),(4,.ptr 3 0)] [bS lv,mS m,t.bx,.box zC]
 apply ao
 apply qB 0
 refine bB (σ:=(Nat×Ty)) (fun ⟨g,u⟩=>[(0,.ptr 0 0),(3,.ptr 2 0),(4,.ptr 3 0)]) (fun ⟨g,u⟩=>[bS lv,mS m,u.bx,.box zC]) (fun ⟨g,u⟩=>hdV g m u=some U∧u.sz<100000000) (fun ⟨g,u⟩=>g) (f,t) kq (by exact ⟨hU,hs⟩) ⟨⟨kq,kq,kq,trivial⟩,by simp [aQ,aa.bel],by simp,kq,by simp [af.belO]⟩ ?_
 rintro ⟨g,u⟩ ⟨hV,hus⟩
 apply qZ [(0,.ptr 0 0),(3,.ptr 2 0),(4,.ptr 3 0)] [bS lv,mS m,u.bx,.box zC]
 apply ao
 apply ao
 refine cR cxM kq aJ (bq ?_)
 apply qu 4
 by_cases hb1:(u.kind)=6
 refine lj 12 (.bool ((u.kind)==6)) (.bool true) (kY aJ) kq (congrArg aa.bool (beq_iff_eq.2 hb1)) ?_
 refine lj 13 (.bool ((u.kind)==6)) (.bool true) (kY aJ) kq (congrArg aa.bool (beq_iff_eq.2 hb1)) ?_
 apply qu 6
 rcases hm2:ai (u.n) m with _|x2
 refine qd (eO (ok:=false) (o:=1) (ek:=iE) (ev:=Vr.v) (l:=m) (k:=(u.n)) df hm2 kq ip ty3 rfl jw kq) ?_ ?_ ?_ ?_
 apply qu 2
 refine cq kq ⟨kq,?_⟩
 apply ab
 apply qZ [(0,.ptr 0 0),(3,.ptr 2 0),(4,.ptr 3 0),(14,.ptr 0 0),(15,.ptr 0 0),(16,.ptr 0 1),(17,.map 1),(18,.ptr 2 2),(19,.int .i64 (u.n)),(20,.agg [.bool false,.int .i64 0,.bool false,.int .i64 0,.str [],.int .i64 0,.full [],.full [],.full []]),(21,.bool false),(22,.bool false)] [bS lv,mS m,u.bx,.box zC]
 refine d5 kq kq ?_
 refine bn 0 kq kq ?_
 apply ae
 apply ae
 apply ay
 apply ab
 apply qz [(0,.ptr 0 0),(3,.ptr 2 0),(4,.ptr 3 0)]
 apply ao
 apply ao
 refine cR cxM kq aJ (bq ?_)
 apply qu 4
 by_cases hb3:(u.kind)=5
 · exfalso;omega
 refine lj 33 (.bool ((u.kind) != 5)) (.bool true) (kY aJ) kq (congrArg aa.bool (bne_iff_ne.2 hb3)) ?_
 refine lj 34 (.bool ((u.kind) != 5)) (.bool true) (kY aJ) kq (congrArg aa.bool (bne_iff_ne.2 hb3)) ?_
 apply qu 10
 refine cq kq ⟨kq,?_⟩
 apply ab
 apply qZ [(0,.ptr 0 0),(3,.ptr 2 0),(4,.ptr 3 0),(44,.bool true)] [bS lv,mS m,u.bx,.box zC]
 refine cw kq kq ?_
 apply qW 2 [(4,.ptr 3 0)] [bS lv,mS m,u.bx,u.bx]
 refine a8 kq ?_
 apply aR
 refine aM (l:=[aG u]) iq kq Dd mM mM ?_ ?_
 refine Eq.trans (b:=[bS lv,mS m]) kq ?_
 · rfl
 rotate_left
 iterate 12 kernel_rfl
 refine qd (cg (ok:=false) (o:=1) (ek:=iE) (ev:=Vr.v) (l:=m) (k:=(u.n)) (x:=x2) df hm2 kq ip ty3 rfl jw kq) ?_ ?_ ?_ ?_
 apply qu 2
 refine cq kq ⟨kq,?_⟩
 apply ab
 apply qZ [(0,.ptr 0 0),(3,.ptr 2 0),(4,.ptr 3 0),(14,.ptr 0 0),(15,.ptr 0 0),(16,.ptr 0 1),(17,.map 1),(18,.ptr 2 2),(19,.int .i64 (u.n)),(20,Vr.v x2),(21,.bool (x2.bd)),(22,.bool (x2.bd))] [bS lv,mS m,u.bx,.box zC]
 by_cases hb4:(x2.bd)=true
 apply qt (hb4)
 apply qK
 apply qz [(0,.ptr 0 0),(3,.ptr 2 0),(4,.ptr 3 0),(14,.ptr 0 0),(15,.ptr 0 0),(16,.ptr 0 1),(17,.map 1),(18,.ptr 2 2),(19,.int .i64 (u.n)),(20,Vr.v x2),(21,.bool (x2.bd))]
 apply qB 1
 refine cR cxM kq (kl jO) (bq ?_)
 apply qu 6
 have hm5:ai (u.n) m=some x2:=by assumption
 refine qd (cg (ok:=false) (o:=1) (ek:=iE) (ev:=Vr.v) (l:=m) (k:=(u.n)) (x:=x2) df hm5 kq ip ty3 rfl jw kq) ?_ ?_ ?_ ?_
 apply qu 2
 refine cq kq ⟨kq,?_⟩
 apply aj
 refine ab ⟨(g - 1,x2.val),?_,?_,⟨⟨kq,kq,kq,trivial⟩,by simp [aQ,aa.bel],by simp,kq,by simp [af.belO]⟩⟩
 · try dsimp only
   exact (pN hV oq aq aq).2.2
 · try dsimp only
   exact ⟨(pN hV oq aq aq).1,(pN hV oq aq aq).2.1⟩
 iterate 10 kernel_rfl
 apply qf (Bool.eq_false_iff.2 hb4)
 refine bn 0 kq kq ?_
 apply ae
 apply ae
 apply ay
 apply ab
 apply qz [(0,.ptr 0 0),(3,.ptr 2 0),(4,.ptr 3 0)]
 apply ao
 apply ao
 refine cR cxM kq aJ (bq ?_)
 apply qu 4
 by_cases hb6:(u.kind)=5
 · exfalso;omega
 refine lj 33 (.bool ((u.kind) != 5)) (.bool true) (kY aJ) kq (congrArg aa.bool (bne_iff_ne.2 hb6)) ?_
 refine lj 34 (.bool ((u.kind) != 5)) (.bool true) (kY aJ) kq (congrArg aa.bool (bne_iff_ne.2 hb6)) ?_
 apply qu 10
 refine cq kq ⟨kq,?_⟩
 apply ab
 apply qZ [(0,.ptr 0 0),(3,.ptr 2 0),(4,.ptr 3 0),(44,.bool true)] [bS lv,mS m,u.bx,.box zC]
 refine cw kq kq ?_
 apply qW 2 [(4,.ptr 3 0)] [bS lv,mS m,u.bx,u.bx]
 refine a8 kq ?_
 apply aR
 refine aM (l:=[aG u]) iq kq Dd mM mM ?_ ?_
 refine Eq.trans (b:=[bS lv,mS m]) kq ?_
 · rfl
 rotate_left
 iterate 14 kernel_rfl
 refine lj 12 (.bool ((u.kind)==6)) (.bool false) (kY aJ) kq (congrArg aa.bool (beq_eq_false_iff_ne.2 hb1)) ?_
 refine lj 13 (.bool ((u.kind)==6)) (.bool false) (kY aJ) kq (congrArg aa.bool (beq_eq_false_iff_ne.2 hb1)) ?_
 apply qu 9
 refine cq kq ⟨kq,?_⟩
 apply ab
 apply qZ [(0,.ptr 0 0),(3,.ptr 2 0),(4,.ptr 3 0),(14,.tup []),(15,.tup []),(16,.tup []),(17,.tup []),(18,.tup []),(19,.tup []),(20,.tup []),(21,.tup []),(22,.bool false)] [bS lv,mS m,u.bx,.box zC]
 refine d5 kq kq ?_
 refine bn 0 kq kq ?_
 apply ae
 apply ae
 apply ay
 apply ab
 apply qz [(0,.ptr 0 0),(3,.ptr 2 0),(4,.ptr 3 0)]
 apply ao
 apply ao
 refine cR cxM kq aJ (bq ?_)
 apply qu 4
 by_cases hb7:(u.kind)=5
 refine lj 33 (.bool ((u.kind) != 5)) (.bool false) (kY aJ) kq (congrArg aa.bool (bne_eq_false_iff_eq.2 hb7)) ?_
 refine lj 34 (.bool ((u.kind) != 5)) (.bool false) (kY aJ) kq (congrArg aa.bool (bne_eq_false_iff_eq.2 hb7)) ?_
 apply qu 6
 rcases hm8:ai (u.n) m with _|x8
 refine qd (eO (ok:=false) (o:=1) (ek:=iE) (ev:=Vr.v) (l:=m) (k:=(u.n)) df hm8 kq ip ty3 rfl jw kq) ?_ ?_ ?_ ?_
 apply qu 3
 refine cq kq ⟨kq,?_⟩
 apply ab
 apply qZ [(0,.ptr 0 0),(3,.ptr 2 0),(4,.ptr 3 0),(44,.bool true)] [bS lv,mS m,u.bx,.box zC]
 refine cw kq kq ?_
 apply qW 2 [(4,.ptr 3 0)] [bS lv,mS m,u.bx,u.bx]
 refine a8 kq ?_
 apply aR
 refine aM (l:=[aG u]) iq kq Dd mM mM ?_ ?_
 refine Eq.trans (b:=[bS lv,mS m]) kq ?_
 · rfl
 rotate_left
 iterate 6 kernel_rfl
 refine qd (cg (ok:=false) (o:=1) (ek:=iE) (ev:=Vr.v) (l:=m) (k:=(u.n)) (x:=x8) df hm8 kq ip ty3 rfl jw kq) ?_ ?_ ?_ ?_
 apply qu 3
 refine cq kq ⟨kq,?_⟩
 apply ab
 apply qZ [(0,.ptr 0 0),(3,.ptr 2 0),(4,.ptr 3 0),(44,.bool (!(x8.bd)))] [bS lv,mS m,u.bx,.box zC]
 by_cases hb9:(x8.bd)=true
 refine qf (x:=(!(x8.bd))) (congrArg not (hb9)) ?_ ?_
 apply qK
 apply qz [(0,.ptr 0 0),(3,.ptr 2 0),(4,.ptr 3 0)]
 apply qW 2 [(0,.ptr 0 0),(3,.ptr 2 0),(4,.ptr 3 0),(5,.map 4)] [bS lv,mS m,u.bx,.box zC,mF ([]:List (List UInt8×Ty))]
 apply qU 3 [(0,.ptr 0 0),(3,.ptr 2 0),(4,.ptr 3 0),(5,.map 4)]
 apply qW 3 [(0,.ptr 0 0),(4,.ptr 3 0),(5,.map 4),(7,.ptr 5 0)] [bS lv,mS m,u.bx,.box zC,mF ([]:List (List UInt8×Ty)),u.bx]
 apply qB 2
 refine bB (σ:=(Nat×Fd×Ty)) (fun ⟨g,l,w⟩=>[(0,.ptr 0 0),(4,.ptr 3 0),(5,.map 4),(7,.ptr 5 0)]) (fun ⟨g,l,w⟩=>[bS lv,mS m,u.bx,.box zC,mF l,w.bx]) (fun ⟨g,l,w⟩=>hdR g m l w=some r∧fdI l) (fun ⟨g,l,w⟩=>g) (f,([]:Fd),u) kq (by exact ⟨Jn hUr (wa hV (fun h6=>by first|exact absurd h6 aq|exact Ad aq|exact EB aq aq)) oq (Ia aq aq),AV⟩) ⟨⟨kq,kq,kq,kq,trivial⟩,by simp [aQ,aa.bel],by simp,kq,by simp [af.belO]⟩ ?_
 rintro ⟨g,l,w⟩ ⟨hR,hI⟩
 have hz5:=bP w
 obtain ⟨hz6,hz7,hz8⟩:=AM hR
 apply qZ [(0,.ptr 0 0),(4,.ptr 3 0),(5,.map 4),(7,.ptr 5 0)] [bS lv,mS m,u.bx,.box zC,mF l,w.bx]
 apply ao
 apply qB 3
 apply ao
 apply qV 2
 refine qy (au (l:=w.names) (enc:=aa.str) kq bi) ?_ ?_ ?_
 apply qR 1 [(0,.ptr 0 0),(4,.ptr 3 0),(5,.map 4),(7,.ptr 5 0),(58,.imm (w.names.map aa.str)),(59,nI w.names.length),(60,.int .i64 0)] [bS lv,mS m,u.bx,.box zC,mF l,w.bx]
 apply qB 4
 refine bB (σ:=Nat) (fun k=>[(0,.ptr 0 0),(4,.ptr 3 0),(5,.map 4),(7,.ptr 5 0),(58,.imm (w.names.map aa.str)),(59,.int .i64 ((w.names.length:Nat):Int)),(60,.int .i64 ((k:Nat):Int))]) (fun k=>[bS lv,mS m,u.bx,.box zC,mF (b6 l w k),w.bx]) (fun k=>k≤w.names.length) (fun k=>w.names.length - k) 0 kq (by exact Nat.zero_le _) ⟨⟨kq,kq,kq,kq,kq,kq,kq,trivial⟩,by simp [aQ,aa.bel],by simp,(Eq.trans (b:=[bS lv,mS m,u.bx,.box zC,mF l,w.bx]) kq (by rfl)),by simp [af.belO]⟩ ?_
 rintro k hk
 apply qW 1 [(0,.ptr 0 0),(4,.ptr 3 0),(5,.map 4),(7,.ptr 5 0),(58,.imm (w.names.map aa.str)),(59,nI w.names.length),(60,nI k),(61,.bool (decide (((k:Nat):Int)<((w.names.length:Nat):Int))))] [bS lv,mS m,u.bx,.box zC,mF (b6 l w k),w.bx]
 apply ao
 by_cases hb10:((k:Nat):Int)<((w.names.length:Nat):Int)
 apply qt (decide_eq_true hb10)
 apply qK
 apply qz [(0,.ptr 0 0),(4,.ptr 3 0),(5,.map 4),(7,.ptr 5 0),(58,.imm (w.names.map aa.str)),(59,nI w.names.length),(60,nI k)]
 apply ao
 apply qB 5
 apply qV 1
 refine qy (aA (k:=.i64) (l:=w.names) (enc:=aa.str) (i:=((k:Nat):Int)) [] kq bi ty9 (fun _=>rfl) oq oq) ?_ ?_ ?_
 apply qR 3 [(0,.ptr 0 0),(4,.ptr 3 0),(5,.map 4),(7,.ptr 5 0),(8,nI k),(9,.str (w.names.getD k [])),(58,.imm (w.names.map aa.str)),(59,nI w.names.length),(60,nI k)] [bS lv,mS m,u.bx,.box zC,mF (b6 l w k),w.bx]
 apply qo
 apply qr 5
 refine qy ((aA (k:=.i64) (l:=w.kids) (enc:=Ty.enc) (i:=((k:Nat):Int)) Ty.zero kq ba bV bk oq oq).trans (congrArg (fun cs=>some (aa.pimm cs 0,_)) (aU (w.kids.getD k Ty.zero)))) ?_ ?_ ?_
 apply qr 1
 refine qY (dC (o:=4) (ek:=aa.str) (ev:=Ty.v) (l:=(b6 l w k)) (k:=(w.names.getD k [])) (x:=(w.kids.getD k Ty.zero)) qF kq tz ty9 rfl kq kq) ?_ ?_ ?_
 apply qe
 apply aj
 apply ab
 apply qZ [(0,.ptr 0 0),(4,.ptr 3 0),(5,.map 4),(7,.ptr 5 0),(58,.imm (w.names.map aa.str)),(59,nI w.names.length),(60,nI k)] [bS lv,mS m,u.bx,.box zC,mF (aI (w.names.getD k []) (w.kids.getD k Ty.zero) (b6 l w k)),w.bx]
 apply qo
 refine qy (aN (a:=((k:Nat):Int)) (b:=1) kq oq oq) ?_ ?_ ?_
 apply qr 1
 apply qe
 refine ab ⟨k+1,?_,?_,⟨⟨kq,kq,kq,kq,kq,kq,kq,trivial⟩,by simp [aQ,aa.bel],by simp,(Eq.trans (b:=[bS lv,mS m,u.bx,.box zC,mF (aI (w.names.getD k []) (w.kids.getD k Ty.zero) (b6 l w k)),w.bx]) kq (by rw [tA oq hz8])),by simp [af.belO]⟩⟩
 · omega
 · omega
 iterate 24 kernel_rfl
 apply qf (decide_eq_false hb10)
 refine bn 4 kq kq ?_
 apply ae
 apply ae
 apply ay
 apply ab
 apply qz [(0,.ptr 0 0),(4,.ptr 3 0),(5,.map 4),(7,.ptr 5 0)]
 apply qU 3 [(0,.ptr 0 0),(4,.ptr 3 0),(5,.map 4),(6,.int .i64 (w.n)),(7,.ptr 5 0)]
 apply qV 5
 rcases hm11:ai (w.n) m with _|x11
 refine qy (eO (ok:=false) (o:=1) (ek:=iE) (ev:=Vr.v) (l:=m) (k:=(w.n)) df hm11 kq ip ty3 rfl jw kq) ?_ ?_ ?_
 apply qR 2 [(0,.ptr 0 0),(4,.ptr 3 0),(5,.map 4),(6,.int .i64 (w.n)),(7,.ptr 5 0),(82,.bool true)] [bS lv,mS m,u.bx,.box zC,mF (b6 l w k),w.bx]
 refine cw kq kq ?_
 apply qV 2
 refine dD (args:=[.map 4,.int .i64 (w.n)]) (v:=Ty.v (recT (b6 l w k) (w.n))) (h':=[bS lv,mS m,u.bx,.box zC,mF (b6 l w k),w.bx]) [bS lv,mS m,u.bx,.box zC,mF (b6 l w k),w.bx] kq kq kq kq kq (te u w (b6 l w k) (w.n) lv m (De hI hR oq)) ?_
 apply qR 1 [(4,.ptr 3 0)] [bS lv,mS m,u.bx,(recT (b6 l w k) (w.n)).bx,mF (b6 l w k),w.bx]
 refine a8 kq ?_
 apply iR
 apply aR
 apply aR
 apply iR
 refine aM (l:=[aG (recT (b6 l w k) (w.n))]) iq kq I4 mM mM ?_ ?_
 refine Eq.trans (b:=[bS lv,mS m]) kq ?_
 · rfl
 rotate_left
 iterate 5 kernel_rfl
 refine qy (cg (ok:=false) (o:=1) (ek:=iE) (ev:=Vr.v) (l:=m) (k:=(w.n)) (x:=x11) df hm11 kq ip ty3 rfl jw kq) ?_ ?_ ?_
 apply qR 2 [(0,.ptr 0 0),(4,.ptr 3 0),(5,.map 4),(6,.int .i64 (w.n)),(7,.ptr 5 0),(82,.bool (!(x11.bd)))] [bS lv,mS m,u.bx,.box zC,mF (b6 l w k),w.bx]
 by_cases hb12:(x11.bd)=true
 refine qf (x:=(!(x11.bd))) (congrArg not (hb12)) ?_ ?_
 apply qk
 apply aj
 apply ab
 apply qz [(0,.ptr 0 0),(4,.ptr 3 0),(5,.map 4),(6,.int .i64 (w.n)),(7,.ptr 5 0)]
 apply ao
 apply qU 1 [(0,.ptr 0 0),(4,.ptr 3 0),(5,.map 4),(6,.int .i64 (w.n)),(86,aG w)]
 apply qo
 apply qR 2 [(0,.ptr 0 0),(4,.ptr 3 0),(5,.map 4),(6,.int .i64 (w.n)),(7,.ptr 6 0)] [bS lv,mS m,u.bx,.box zC,mF (b6 l w k),w.bx,w.bx]
 refine H6 [0,1,2,3,4,6] [(0,.ptr 0 0),(4,.ptr 3 0),(5,.map 4),(6,.int .i64 (w.n)),(7,.ptr 5 0)] [bS lv,mS m,u.bx,.box zC,mF (b6 l w k),w.bx] dq dq F5 F5 F5 F5 ?_
 apply qZ [(0,.ptr 0 0),(4,.ptr 3 0),(5,.map 4),(6,.int .i64 (w.n)),(7,.ptr 5 0)] [bS lv,mS m,u.bx,.box zC,mF (b6 l w k),w.bx]
 apply qo
 apply qr 5
 have hm13:ai (w.n) m=some x11:=by assumption
 refine qy (cg (ok:=false) (o:=1) (ek:=iE) (ev:=Vr.v) (l:=m) (k:=(w.n)) (x:=x11) df hm13 kq ip ty3 rfl jw kq) ?_ ?_ ?_
 apply qr 2
 apply qe
 refine ab ⟨(g - 1,dr l w,x11.val),?_,?_,⟨⟨kq,kq,kq,kq,trivial⟩,by simp [aQ,aa.bel],by simp,(Eq.trans (b:=[bS lv,mS m,u.bx,.box zC,mF (b6 l w k),x11.val.bx]) kq (by (try dsimp only);rw [iQ oq])),by simp [af.belO]⟩⟩
 · try dsimp only
   exact (xh hR aq aq).2
 · try dsimp only
   exact ⟨(xh hR aq aq).1,ul hI oq⟩
 iterate 14 kernel_rfl
 refine qt (x:=(!(x11.bd))) (congrArg not (Bool.eq_false_iff.2 hb12)) ?_ ?_
 apply qV 2
 refine dD (args:=[.map 4,.int .i64 (w.n)]) (v:=Ty.v (recT (b6 l w k) (w.n))) (h':=[bS lv,mS m,u.bx,.box zC,mF (b6 l w k),w.bx]) [bS lv,mS m,u.bx,.box zC,mF (b6 l w k),w.bx] kq kq kq kq kq (te u w (b6 l w k) (w.n) lv m (De hI hR oq)) ?_
 apply qR 1 [(4,.ptr 3 0)] [bS lv,mS m,u.bx,(recT (b6 l w k) (w.n)).bx,mF (b6 l w k),w.bx]
 refine a8 kq ?_
 apply iR
 apply aR
 apply aR
 apply iR
 refine aM (l:=[aG (recT (b6 l w k) (w.n))]) iq kq I4 mM mM ?_ ?_
 refine Eq.trans (b:=[bS lv,mS m]) kq ?_
 · rfl
 rotate_left
 iterate 31 kernel_rfl
 refine qt (x:=(!(x8.bd))) (congrArg not (Bool.eq_false_iff.2 hb9)) ?_ ?_
 apply qW 2 [(4,.ptr 3 0)] [bS lv,mS m,u.bx,u.bx]
 refine a8 kq ?_
 apply aR
 refine aM (l:=[aG u]) iq kq Dd mM mM ?_ ?_
 refine Eq.trans (b:=[bS lv,mS m]) kq ?_
 · rfl
 rotate_left
 iterate 8 kernel_rfl
 refine lj 33 (.bool ((u.kind) != 5)) (.bool true) (kY aJ) kq (congrArg aa.bool (bne_iff_ne.2 hb7)) ?_
 refine lj 34 (.bool ((u.kind) != 5)) (.bool true) (kY aJ) kq (congrArg aa.bool (bne_iff_ne.2 hb7)) ?_
 apply qu 10
 refine cq kq ⟨kq,?_⟩
 apply ab
 apply qZ [(0,.ptr 0 0),(3,.ptr 2 0),(4,.ptr 3 0),(44,.bool true)] [bS lv,mS m,u.bx,.box zC]
 refine cw kq kq ?_
 apply qW 2 [(4,.ptr 3 0)] [bS lv,mS m,u.bx,u.bx]
 refine a8 kq ?_
 apply aR
 refine aM (l:=[aG u]) iq kq Dd mM mM ?_ ?_
 refine Eq.trans (b:=[bS lv,mS m]) kq ?_
 · rfl
 rotate_left
 iterate 18 kernel_rfl
 all_goals
  simp [af.belO,hpS,Ty.v]
theorem BQ {f:Nat} {S:St} {t r:Ty} (h:dH f S t=some r):∃ g q rs,f=g+1∧bY g S t=some q∧q.sz<100000000∧sf (dH g S) q.kids=some rs∧r=.mk q.kind q.name q.n q.names rs:=by
 cases f with
 | zero=>simp [dH] at h
 | succ g =>
  rw [dH] at h
  split at h <;> try (cases h;done)
  rename_i q hq
  split at h <;> try (cases h;done)
  rename_i hs
  split at h <;> try (cases h;done)
  rename_i rs hrs
  cases h
  exact ⟨g,q,rs,rfl,hq,hs,hrs,rfl⟩
theorem Fh {g:Ty→Option Ty} {l rs:List Ty} (h:sf g l=some rs):rs.length=l.length∧∀ i,i<l.length→g (l.getD i Ty.zero)=some (rs.getD i Ty.zero):=by
 obtain ⟨h1,h2⟩:=l6 h
 refine ⟨h1,fun i hi=>h2 i _ _ ?_ ?_⟩
 · rw [List.getD_eq_getElem?_getD,List.getElem?_eq_getElem hi];rfl
 · rw [List.getD_eq_getElem?_getD,List.getElem?_eq_getElem (by omega:i<rs.length)];rfl
def rsL (rs ks:List Ty) (k:Nat):List Ty:=(List.range ks.length).map fun i=>if i<k then rs.getD i Ty.zero else ks.getD i Ty.zero
@[simp] theorem AI (rs ks:List Ty) (k:Nat):(rsL rs ks k).length=ks.length:=by simp [rsL]
theorem mT {rs ks:List Ty} {k i:Nat} (h:i<(rsL rs ks k).length):(rsL rs ks k)[i]=if i<k then rs.getD i Ty.zero else ks.getD i Ty.zero:=by simp [rsL]
theorem wd {rs ks:List Ty} {k:Nat} (h:k<ks.length):(rsL rs ks k).getD (0+k) Ty.zero=ks.getD k Ty.zero:=by
 have h':k<(rsL rs ks k).length:=by simpa using h
 rw [Nat.zero_add,List.getD_eq_getElem?_getD,List.getElem?_eq_getElem h',Option.getD_some,mT,if_neg (Nat.lt_irrefl k)]
theorem FJ {rs ks:List Ty} {k:Nat}:(rsL rs ks k).set (0+k) (rs.getD k Ty.zero)=rsL rs ks (k+1):=by
 rw [Nat.zero_add]
 refine List.ext_getElem zq fun i h1 h2=>?_
 rw [List.getElem_set,mT,mT]
 by_cases e:k=i
 · subst e;rw [if_pos rfl,if_pos (Nat.lt_succ_self k)]
 · rw [if_neg e]
   by_cases h:i<k
   · rw [if_pos h,if_pos oq]
   · rw [if_neg h,if_neg oq]
theorem Ic (rs ks:List Ty):rsL rs ks 0=ks:=by
 refine List.ext_getElem zq fun i h1 h2=>?_
 rw [mT,if_neg oq,List.getD_eq_getElem?_getD,List.getElem?_eq_getElem h2];rfl
theorem EZ {rs ks:List Ty} {k:Nat} (hl:rs.length=ks.length) (h:ks.length≤k):rsL rs ks k=rs:=by
 refine List.ext_getElem (by simp [hl]) fun i h1 h2=>?_
 rw [mT,if_pos oq,List.getD_eq_getElem?_getD,List.getElem?_eq_getElem h2];rfl
noncomputable def c68:Code:=aB Tryz.f68
theorem C9 {p:Prop} (h:p:=by simp [aa.frz,bf,aa.ren,b4,dZ,af.ren,bg,cd,aV,aa.owns,uF,uf,Ty.v]):p:=h
theorem u0 {p:Prop} (h:p:=by simp [af.belO,hpS,Ty.v]):p:=h
theorem iA (f:Nat) (t r:Ty) (lv:Int) (m:St) (hs:t.sz<100000000) (hr:dH f m t=some r):ar cx 68 [.ptr 0 0,Ty.v t] (hpS lv m) (fun v h=>v=(Ty.v r)∧h=hpS lv m):=by
 induction f generalizing t r with
 | zero=>simp [dH] at hr
 | succ f ih =>
 obtain ⟨g,q,rs,e,hq,hqs,hrs,rfl⟩:=BQ hr
 obtain rfl:f=g:=by omega
 obtain ⟨hrl,hra⟩:=Fh hrs
 have ihR:∀ (x y:Ty),x.sz<100000000→dH f m x=some y→ar cx 68 [.ptr 0 0,Ty.v x] (hpS lv m) (fun v h=>v=y.v∧h=hpS lv m):=fun x y h1 h2=>ih x y h1 h2
 have hz2:=cF q
 refine am (cx:=cx) 29 2 [(ResultVar.cell 4 25)] Tryz.func68 rfl rfl rfl rfl rfl zq ?_
 show wpA cx 29 2 (at_ c68 []) _ _ _
 apply qZ [(0,.ptr 0 0),(1,Ty.v t)] [bS lv,mS m]
 apply qW 2 [(0,.ptr 0 0),(3,.ptr 2 0),(4,.ptr 3 0)] [bS lv,mS m,t.bx,.box zC]
 apply qV 2
 refine aT (args:=[.ptr 0 0,aG t]) (hs:=[bS lv,mS m]) (hs':=[bS lv,mS m]) (aO:=[t.bx,.box zC]) kq kq kq kq kq (p9 f t q (lv) m hs hq) u0 u0 rfl u0 u0 kq ?_
 refine nj (args:=[Ty.v q]) (args':=[Ty.v q]) (V':=gK q (.own 4 0 q.kids.length)) (F:=[bS lv,mS m,t.bx,.box zC]) (G':=[.arr 5 (q.kids.map Ty.enc) 0]) kq kq kq kq (nh q hqs) [bS lv,mS m,t.bx,.box zC] kq C9 C9 C9 C9 C9 ?_
 apply qR 1 [(0,.ptr 0 0),(3,.ptr 2 0),(4,.ptr 3 0)] [bS lv,mS m,bK q (.own 4 0 q.kids.length),.box zC,.arr 5 (q.kids.map Ty.enc) 0]
 apply ao
 apply qV 2
 refine qy (d8 (o:=4) (off:=0) (len:=q.kids.length) (sz:=5) (es:=(q.kids.map Ty.enc)) (fr:=0) kq ba kq zq) ?_ ?_ ?_
 apply qR 1 [(0,.ptr 0 0),(3,.ptr 2 0),(4,.ptr 3 0),(12,nI q.kids.length),(13,.int .i64 0)] [bS lv,mS m,bK q (.own 4 0 q.kids.length),.box zC,.arr 5 (q.kids.map Ty.enc) 0]
 apply qB 0
 refine bB (σ:=Nat) (fun k=>[(0,.ptr 0 0),(3,.ptr 2 0),(4,.ptr 3 0),(12,.int .i64 ((q.kids.length:Nat):Int)),(13,.int .i64 ((k:Nat):Int))]) (fun k=>[bS lv,mS m,bK q (.own 4 0 q.kids.length),.box zC,.arr 5 ((rsL rs q.kids k).map Ty.enc) 0]) (fun k=>k≤q.kids.length) (fun k=>q.kids.length - k) 0 kq (by exact Nat.zero_le _) ⟨⟨kq,kq,kq,kq,kq,trivial⟩,by simp [aQ,aa.bel],by simp,(Eq.trans (b:=[bS lv,mS m,bK q (.own 4 0 q.kids.length),.box zC,.arr 5 (q.kids.map Ty.enc) 0]) kq (by rw [Ic])),by simp [af.belO]⟩ ?_
 rintro k hk
 apply qW 1 [(0,.ptr 0 0),(3,.ptr 2 0),(4,.ptr 3 0),(12,nI q.kids.length),(13,nI k),(14,.bool (decide (((k:Nat):Int)<((q.kids.length:Nat):Int))))] [bS lv,mS m,bK q (.own 4 0 q.kids.length),.box zC,.arr 5 ((rsL rs q.kids k).map Ty.enc) 0]
 apply ao
 by_cases hb1:((k:Nat):Int)<((q.kids.length:Nat):Int)
 apply qt (decide_eq_true hb1)
 apply qK
 apply qz [(0,.ptr 0 0),(3,.ptr 2 0),(4,.ptr 3 0),(12,nI q.kids.length),(13,nI k)]
 apply ao
 apply qB 1
 apply qU 2 [(0,.ptr 0 0),(3,.ptr 2 0),(4,.ptr 3 0),(5,nI k),(12,nI q.kids.length),(13,nI k)]
 refine cR cxM kq (kl aJ) (bq ?_)
 apply qu 7
 refine qd (dO (k:=.i64) (i:=((k:Nat):Int)) (o:=4) (off:=0) (len:=q.kids.length) (sz:=5) (fr:=0) (es:=((rsL rs q.kids k).map Ty.enc)) kq ba bV kq rfl zq oq oq) ?_ ?_ ?_ ?_
 refine qd (fH (t:=25) (o:=4) (idx:=(0+k)) (off:=0) (k:=(((rsL rs q.kids k).map Ty.enc).length)) (sz:=5) (fr:=0) (es:=((rsL rs q.kids k).map Ty.enc)) (x:=Ty.enc ((rsL rs q.kids k).getD (0+k) Ty.zero)) (v:=aG ((rsL rs q.kids k).getD (0+k) Ty.zero)) kq kq zq (fS _ _ _ _ (by simp only [AI];omega)) (by rw [aU];exact kq)) ?_ ?_ ?_ ?_
 refine cC (args:=[.ptr 0 0,aG ((rsL rs q.kids k).getD (0+k) Ty.zero)]) (hs:=[bS lv,mS m]) (hs':=[bS lv,mS m]) (aO:=[bK q (.own 4 0 q.kids.length),.box zC,.arr 5 ((rsL rs q.kids k).map Ty.enc) 0]) (L:=[0,1]) kq kq kq kq kq kq (ihR ((rsL rs q.kids k).getD (0+k) Ty.zero) (rs.getD k Ty.zero) (by rw [wd oq];exact Nat.lt_trans (cu q _ oq) hqs) (by rw [wd oq];exact hra k oq)) u0 u0 rfl u0 u0 kq rfl rfl ?_
 refine qd (dO (k:=.i64) (i:=((k:Nat):Int)) (o:=4) (off:=0) (len:=q.kids.length) (sz:=5) (fr:=0) (es:=((rsL rs q.kids k).map Ty.enc)) kq ba bV kq rfl zq oq oq) ?_ ?_ ?_ ?_
 refine qD (pe (o:=4) (k:=(((rsL rs q.kids k).map Ty.enc).length)) (x:=Ty.v (rs.getD k Ty.zero)) (enc:=Ty.enc) (l:=(rsL rs q.kids k)) (X:=(rs.getD k Ty.zero)) (d:=Ty.zero) (idx:=(0+k)) (sz:=5) kq (Ty.enc_v (rs.getD k Ty.zero)).symm kq zq (by simp only [AI];omega) bV t8 py) ?_ ?_ ?_ ?_
 refine cq kq ⟨kq,?_⟩
 apply aj
 apply ab
 apply qZ [(0,.ptr 0 0),(3,.ptr 2 0),(4,.ptr 3 0),(12,nI q.kids.length),(13,nI k)] [bS lv,mS m,bK q (.own 4 0 q.kids.length),.box zC,.arr 5 (((rsL rs q.kids k).set (0+k) (rs.getD k Ty.zero)).map Ty.enc) 0]
 apply qo
 refine qy (aN (a:=((k:Nat):Int)) (b:=1) kq oq oq) ?_ ?_ ?_
 apply qr 1
 apply qe
 refine ab ⟨k+1,?_,?_,⟨⟨kq,kq,kq,kq,kq,trivial⟩,by simp [aQ,aa.bel],by simp,(Eq.trans (b:=[bS lv,mS m,bK q (.own 4 0 q.kids.length),.box zC,.arr 5 (((rsL rs q.kids k).set (0+k) (rs.getD k Ty.zero)).map Ty.enc) 0]) kq (by rw [FJ])),by simp [af.belO]⟩⟩
 · omega
 · omega
 iterate 26 kernel_rfl
 apply qf (decide_eq_false hb1)
 refine bn 0 kq kq ?_
 apply ae
 apply ae
 apply ay
 apply ab
 apply qz [(3,.ptr 2 0),(4,.ptr 3 0)]
 refine n8 2 4 4 (cs:=[.int .i64 (q.kind),.str q.name,.int .i64 (q.n),.imm (q.names.map aa.str),.own 4 0 q.kids.length]) (es:=((rsL rs q.kids k).map Ty.enc)) (off:=0) (len:=q.kids.length) (sz:=5) (fr:=0) [.int .i64 (q.kind),.str q.name,.int .i64 (q.n),.imm (q.names.map aa.str),.imm ((rsL rs q.kids k).map Ty.enc)] ((rsL rs q.kids k).map Ty.enc) dq kq kq kq zq kq kq ?_
 apply qZ [(3,.ptr 2 0),(4,.ptr 3 0)] [bS lv,mS m,bK q (.imm ((rsL rs q.kids k).map Ty.enc)),.box zC,.arr 5 ((rsL rs q.kids k).map Ty.enc) ((rsL rs q.kids k).map Ty.enc).length]
 apply qW 2 [(4,.ptr 3 0)] [bS lv,mS m,bK q (.imm ((rsL rs q.kids k).map Ty.enc)),bK q (.imm ((rsL rs q.kids k).map Ty.enc)),.arr 5 ((rsL rs q.kids k).map Ty.enc) ((rsL rs q.kids k).map Ty.enc).length]
 refine a8 kq ?_
 refine aM (l:=[gK q (.imm ((rsL rs q.kids k).map Ty.enc))]) iq kq (by rw [EZ hrl oq];simp [Ty.v,aa.frz,bf,aK]) (by simp [aK]) (by simp [aK]) ?_ ?_
 refine Eq.trans (b:=[bS lv,mS m]) kq ?_
 · rfl
 · simp [af.belO,hpS,Ty.v]
 iterate 17 kernel_rfl
theorem yb {f:Nat} {S S':St} {n:Int} {t:Ty} {ok:Bool} (h:b7 f S n t=some (ok,S')):¬ ai n S=none∧∃ r,dH f S t=some r∧r.sz<100000000∧(∀ k∈aw [] r,(ai k S).isSome=true) ∧
 ∀ x,ai n S=some x→((aw [] r).contains n=true→false=ok∧S=S')∧(¬ (aw [] r).contains n=true→true=ok∧aI n (Vr.mk x.row x.lv true t x.names) (cS x.lv (aw [] r) S)=S'):=by
 unfold b7 at h
 split at h <;> try (cases h;done)
 rename_i v hv
 split at h <;> try (cases h;done)
 rename_i r hr
 split at h <;> try (cases h;done)
 rename_i hs
 refine ⟨by rw [hv];simp,r,hr,hs.1,fun k hk=>List.all_eq_true.1 hs.2 k hk,fun x hx=>?_⟩
 rw [hv] at hx;cases hx
 split at h
 · rename_i hc
   cases h
   exact ⟨fun _=>⟨rfl,rfl⟩,fun h=>absurd hc h⟩
 · rename_i hc
   cases h
   exact ⟨fun h=>absurd h hc,fun _=>⟨rfl,rfl⟩⟩
def Ig (lv:Int) (S:St) (k:Int):St:=match ai k S with
 | some w=>aI k { w with lv:=min w.lv lv } S
 | none=>S
theorem nC (lv:Int):∀ (ks:List Int) (S:St),cS lv ks S=ks.foldl (Ig lv) S
 | [],S=>rfl
 | k::ks,S=>by rw [cS,nC lv ks,List.foldl_cons];rfl
theorem B4 {lv:Int} {l:List Int} {S:St} {k:Nat} {w:Vr} (hk:k<l.length) (hm:ai (l.getD k 0) (cS lv (l.take k) S)=some w):aI (l.getD k 0) (Vr.mk w.row (min w.lv lv) w.bd w.val w.names) (cS lv (l.take k) S)=cS lv (l.take (k+1)) S:=by
 rw [kH _ k 0 hk,nC lv (l.take k++_),List.foldl_append,← nC lv (l.take k),List.foldl_cons,List.foldl_nil]
 unfold Ig
 rw [hm]
theorem E7 {lv:Int} {l:List Int} {S:St} {k:Nat} (hk:k<l.length) (ha:∀ k∈l,(ai k S).isSome=true):¬ ai (l.getD k 0) (cS lv (l.take k) S)=none:=by
 have hm:l.getD k 0∈l:=by rw [List.getD_eq_getElem?_getD,List.getElem?_eq_getElem hk];exact List.getElem_mem hk
 obtain ⟨x,hx⟩:=Option.isSome_iff_exists.1 (ha _ hm)
 obtain ⟨l',hl'⟩:=((eR lv (l.take k) S).2 (l.getD k 0)).1 x hx
 rw [hl'];simp
theorem C4 {lv:Int} {l:List Int} {S:St} {k:Nat} (hk:l.length≤k):cS lv (l.take k) S=cS lv l S:=by rw [List.take_of_length_le hk]
noncomputable def J3:Code:=aB Tryz.f107
theorem E0 {p:Prop} (h:p:=by simp [af.belO,hpS,Ty.v,Vr.v]):p:=h
theorem i2 (f:Nat) (n:Int) (t:Ty) (lv:Int) (m m':St) (ok:Bool) (hs:t.sz<100000000) (hb:b7 f m n t=some (ok,m')):ar cx 107 [.ptr 0 0,.int .i64 (n),Ty.v t] (hpS lv m) (fun v h=>v=(.bool (ok))∧h=hpS lv m'):=by
 obtain ⟨hno,r,hr,hrs,hall,hx⟩:=yb hb
 have hvl:=ix [] r
 simp only [List.length_nil] at hvl
 refine am (cx:=cx) 59 2 [(ResultVar.tmp 6)] Tryz.func107 rfl rfl rfl rfl rfl zq ?_
 show wpA cx 59 2 (at_ J3 []) _ _ _
 apply qZ [(0,.ptr 0 0),(1,.int .i64 (n)),(2,Ty.v t)] [bS lv,mS m]
 apply qW 2 [(0,.ptr 0 0),(1,.int .i64 (n)),(5,.ptr 2 0)] [bS lv,mS m,t.bx]
 apply qV 5
 rcases hm1:ai (n) m with _|x1
 · exact absurd hm1 (hno)
 refine qy (cg (ok:=false) (o:=1) (ek:=iE) (ev:=Vr.v) (l:=m) (k:=(n)) (x:=x1) df hm1 kq ip ty3 rfl jw kq) ?_ ?_ ?_
 apply qR 2 [(0,.ptr 0 0),(1,.int .i64 (n)),(5,.ptr 2 0),(7,.ptr 3 0)] [bS lv,mS m,t.bx,vrB x1]
 apply qV 2
 refine aT (args:=[.ptr 0 0,aG t]) (hs:=[bS lv,mS m]) (hs':=[bS lv,mS m]) (aO:=[t.bx,vrB x1]) kq kq kq kq kq (iA f t r (lv) m hs hr) E0 E0 rfl E0 E0 kq ?_
 refine bR (args:=[Ty.v r]) kq kq kq kq (t6 r oq) (by simp [Ty.v,bo,Occ.v]) (by simp [Ty.v]) (by simp [Ty.v,bh]) ?_
 apply qR 1 [(0,.ptr 0 0),(1,.int .i64 (n)),(5,.ptr 2 0),(7,.ptr 3 0),(8,.imm ((aw [] r).map iE))] [bS lv,mS m,t.bx,vrB x1]
 apply ao
 apply qV 2
 refine bR (args:=[.imm ((aw [] r).map iE),.int .i64 (n)]) kq kq kq kq (oK (aw [] r) (n) oq) (by simp [Ty.v,bo,Occ.v]) (by simp [Ty.v]) (by simp [Ty.v,bh]) ?_
 apply qN [(0,.ptr 0 0),(1,.int .i64 (n)),(5,.ptr 2 0),(7,.ptr 3 0),(8,.imm ((aw [] r).map iE)),(24,.bool ((aw [] r).contains (n)))] [bS lv,mS m,t.bx,vrB x1]
 by_cases hb2:((aw [] r).contains (n))=true
 apply qt (hb2)
 apply qU 1 [(6,.bool false)]
 refine a8 kq ?_
 apply aR
 refine aM (l:=[.bool false]) iq kq (by obtain ⟨h1,h2⟩:=(hx _ aq).1 aq;subst h1;rfl) (by simp [aK]) (by simp [aK]) ?_ ?_
 refine Eq.trans (b:=[bS lv,mS m]) kq ?_
 rotate_left
 · simp [af.belO,hpS,Ty.v,Vr.v]
 iterate 2 kernel_rfl
 apply qf (Bool.eq_false_iff.2 hb2)
 apply qK
 apply qz [(0,.ptr 0 0),(1,.int .i64 (n)),(5,.ptr 2 0),(7,.ptr 3 0),(8,.imm ((aw [] r).map iE))]
 apply ao
 apply qV 1
 refine qy (au (l:=(aw [] r)) (enc:=iE) kq cU) ?_ ?_ ?_
 apply qR 1 [(0,.ptr 0 0),(1,.int .i64 (n)),(5,.ptr 2 0),(7,.ptr 3 0),(25,.imm ((aw [] r).map iE)),(26,nI ((aw [] r).length)),(27,.int .i64 0)] [bS lv,mS m,t.bx,vrB x1]
 apply qB 0
 refine bB (σ:=Nat) (fun k=>[(0,.ptr 0 0),(1,.int .i64 (n)),(5,.ptr 2 0),(7,.ptr 3 0),(25,.imm ((aw [] r).map iE)),(26,.int .i64 (((aw [] r).length:Nat):Int)),(27,.int .i64 ((k:Nat):Int))]) (fun k=>[bS lv,mS (cS x1.lv ((aw [] r).take k) m),t.bx,vrB x1]) (fun k=>k≤(aw [] r).length) (fun k=>(aw [] r).length - k) 0 kq (by exact Nat.zero_le _) ⟨⟨kq,kq,kq,kq,kq,kq,kq,trivial⟩,by simp [aQ,aa.bel],by simp,(Eq.trans (b:=[bS lv,mS m,t.bx,vrB x1]) kq (by rfl)),by simp [af.belO]⟩ ?_
 rintro k hk
 apply qW 1 [(0,.ptr 0 0),(1,.int .i64 (n)),(5,.ptr 2 0),(7,.ptr 3 0),(25,.imm ((aw [] r).map iE)),(26,nI ((aw [] r).length)),(27,nI k),(28,.bool (decide (((k:Nat):Int)<(((aw [] r).length:Nat):Int))))] [bS lv,mS (cS x1.lv ((aw [] r).take k) m),t.bx,vrB x1]
 apply ao
 by_cases hb3:((k:Nat):Int)<(((aw [] r).length:Nat):Int)
 apply qt (decide_eq_true hb3)
 apply qK
 apply qz [(0,.ptr 0 0),(1,.int .i64 (n)),(5,.ptr 2 0),(7,.ptr 3 0),(25,.imm ((aw [] r).map iE)),(26,nI ((aw [] r).length)),(27,nI k)]
 apply ao
 apply qB 1
 apply qO
 refine qy (aA (k:=.i64) (l:=(aw [] r)) (enc:=iE) (i:=((k:Nat):Int)) 0 kq cU ty3 (fun _=>rfl) oq oq) ?_ ?_ ?_
 apply qR 2 [(0,.ptr 0 0),(1,.int .i64 (n)),(5,.ptr 2 0),(7,.ptr 3 0),(10,.int .i64 (((aw [] r).getD k 0))),(25,.imm ((aw [] r).map iE)),(26,nI ((aw [] r).length)),(27,nI k)] [bS lv,mS (cS x1.lv ((aw [] r).take k) m),t.bx,vrB x1]
 apply qV 5
 rcases hm4:ai (((aw [] r).getD k 0)) (cS x1.lv ((aw [] r).take k) m) with _|x4
 · exact absurd hm4 ((E7 oq hall))
 refine qy (cg (ok:=false) (o:=1) (ek:=iE) (ev:=Vr.v) (l:=(cS x1.lv ((aw [] r).take k) m)) (k:=(((aw [] r).getD k 0))) (x:=x4) df hm4 kq ip ty3 rfl jw kq) ?_ ?_ ?_
 apply qR 2 [(0,.ptr 0 0),(1,.int .i64 (n)),(5,.ptr 2 0),(7,.ptr 3 0),(10,.int .i64 (((aw [] r).getD k 0))),(11,.ptr 4 0),(25,.imm ((aw [] r).map iE)),(26,nI ((aw [] r).length)),(27,nI k)] [bS lv,mS (cS x1.lv ((aw [] r).take k) m),t.bx,vrB x1,vrB x4]
 apply qV 4
 refine qy (Dt (a:=(x4.lv)) (b:=(x1.lv)) (ats:=[3,3]) kq) ?_ ?_ ?_
 apply qR 2 [(0,.ptr 0 0),(1,.int .i64 (n)),(5,.ptr 2 0),(7,.ptr 3 0),(10,.int .i64 (((aw [] r).getD k 0))),(11,.ptr 4 0),(25,.imm ((aw [] r).map iE)),(26,nI ((aw [] r).length)),(27,nI k)] [bS lv,mS (cS x1.lv ((aw [] r).take k) m),t.bx,vrB x1,.box [.bool (x4.row),.int .i64 (min (x4.lv) (x1.lv)),.bool (x4.bd),.int .i64 (x4.val.kind),.str x4.val.name,.int .i64 (x4.val.n),.imm (x4.val.names.map aa.str),.imm (x4.val.kids.map Ty.enc),.imm (x4.names.map aa.str)]]
 refine cR cxM kq (kl aJ) (bq ?_)
 apply qu 6
 refine qD (dC (o:=1) (ek:=iE) (ev:=Vr.v) (l:=(cS x1.lv ((aw [] r).take k) m)) (k:=(((aw [] r).getD k 0))) (x:=(Vr.mk (x4.row) (min (x4.lv) (x1.lv)) (x4.bd) x4.val x4.names)) df kq ip ty3 rfl kq kq) ?_ ?_ ?_ ?_
 refine cq kq ⟨kq,?_⟩
 apply aj
 apply ab
 apply qZ [(0,.ptr 0 0),(1,.int .i64 (n)),(5,.ptr 2 0),(7,.ptr 3 0),(25,.imm ((aw [] r).map iE)),(26,nI ((aw [] r).length)),(27,nI k)] [bS lv,mS (aI (((aw [] r).getD k 0)) (Vr.mk (x4.row) (min (x4.lv) (x1.lv)) (x4.bd) x4.val x4.names) (cS x1.lv ((aw [] r).take k) m)),t.bx,vrB x1,.box [.bool (x4.row),.int .i64 (min (x4.lv) (x1.lv)),.bool (x4.bd),.int .i64 (x4.val.kind),.str x4.val.name,.int .i64 (x4.val.n),.imm (x4.val.names.map aa.str),.imm (x4.val.kids.map Ty.enc),.imm (x4.names.map aa.str)]]
 apply qo
 refine qy (aN (a:=((k:Nat):Int)) (b:=1) kq oq oq) ?_ ?_ ?_
 apply qr 1
 apply qe
 refine ab ⟨k+1,?_,?_,⟨⟨kq,kq,kq,kq,kq,kq,kq,trivial⟩,by simp [aQ,aa.bel],by simp,(Eq.trans (b:=[bS lv,mS (aI (((aw [] r).getD k 0)) (Vr.mk (x4.row) (min (x4.lv) (x1.lv)) (x4.bd) x4.val x4.names) (cS x1.lv ((aw [] r).take k) m)),t.bx,vrB x1]) kq (by rw [B4 oq aq])),by simp [af.belO]⟩⟩
 · omega
 · omega
 iterate 28 kernel_rfl
 apply qf (decide_eq_false hb3)
 refine bn 0 kq kq ?_
 apply ae
 apply ae
 apply ay
 apply ab
 apply qz [(0,.ptr 0 0),(1,.int .i64 (n)),(5,.ptr 2 0),(7,.ptr 3 0)]
 apply ao
 refine cR cxM kq aJ (bq ?_)
 apply qu 5
 refine cq kq ⟨kq,?_⟩
 apply ab
 apply qZ [(0,.ptr 0 0),(1,.int .i64 (n)),(7,.ptr 3 0)] [bS lv,mS (cS x1.lv ((aw [] r).take k) m),t.bx,.box [.bool (x1.row),.int .i64 (x1.lv),.bool true,.int .i64 (t.kind),.str t.name,.int .i64 (t.n),.imm (t.names.map aa.str),.imm (t.kids.map Ty.enc),.imm (x1.names.map aa.str)]]
 apply ao
 refine cR cxM kq aJ (bq ?_)
 apply qu 6
 refine qD (dC (o:=1) (ek:=iE) (ev:=Vr.v) (l:=(cS x1.lv ((aw [] r).take k) m)) (k:=(n)) (x:=(Vr.mk (x1.row) (x1.lv) true t x1.names)) df kq ip ty3 rfl kq kq) ?_ ?_ ?_ ?_
 refine cq kq ⟨kq,?_⟩
 apply ab
 apply qZ [] [bS lv,mS (aI (n) (Vr.mk (x1.row) (x1.lv) true t x1.names) (cS x1.lv ((aw [] r).take k) m)),t.bx,.box [.bool (x1.row),.int .i64 (x1.lv),.bool true,.int .i64 (t.kind),.str t.name,.int .i64 (t.n),.imm (t.names.map aa.str),.imm (t.kids.map Ty.enc),.imm (x1.names.map aa.str)]]
 apply qU 1 [(6,.bool true)]
 refine a8 kq ?_
 refine aM (l:=[.bool true]) iq kq (by obtain ⟨h1,h2⟩:=(hx _ aq).2 aq;subst h1;rfl) (by simp [aK]) (by simp [aK]) ?_ ?_
 refine Eq.trans (b:=[bS lv,mS (aI (n) (Vr.mk (x1.row) (x1.lv) true t x1.names) (cS x1.lv ((aw [] r).take k) m))]) kq ?_
 rotate_left
 · simp [af.belO,hpS,Ty.v,Vr.v]
 iterate 35 kernel_rfl
 all_goals
  first|(obtain ⟨h1,h2⟩:=(hx _ aq).1 aq;rw [← h2];rfl)|(obtain ⟨h1,h2⟩:=(hx _ aq).2 aq;rw [← h2,← C4 (l:=aw [] r) (k:=k) oq];rfl)
@[simp] theorem F4 (k:Nat) (l:Dn):((av aa.str aa.bool l).all fun e=>e.1.bel k && e.2.bel k)=true:=by
 simp [av,List.all_eq_true]
theorem Eb (l:Dn):(av aa.str aa.bool l).flatMap (fun e=>e.1.refs++e.2.refs)=[]:=by
 rw [List.flatMap_eq_nil_iff]
 intro e he
 obtain ⟨p,_,rfl⟩:=List.mem_map.1 he
 simp [aa.refs]
theorem lW (r:Nat→Nat) (l:Dn):j9 r (av aa.str aa.bool l)=av aa.str aa.bool l:=kM (k:=0) (fun i hi=>by omega) _ (F4 0 l)
def mr (l:List (List UInt8)) (k:Nat):Dn:=(l.take k).foldl (fun m x=>aI x true m) []
theorem Bv {l:List (List UInt8)} {k:Nat} (hk:k<l.length):aI (l.getD (0+k) []) true (mr l k)=mr l (k+1):=by
 unfold mr
 rw [kH l k [] hk,List.foldl_append,Nat.zero_add];rfl
theorem CV {l:List (List UInt8)} {k:Nat} (hk:l.length≤k):mr l k=eI l:=by unfold mr eI;rw [List.take_of_length_le hk]
noncomputable def JQ:Code:=aB Tryz.f124
theorem Fe {p:Prop} (h:p:=by simp [-List.map_append,-List.map_take,-List.map_drop,-List.append_assoc,aa.refs,dE,af.refs,af.isIter,oO,Abs.renT,eY,m8,af.ren,aa.ren,b4,List.idxOf_cons,Eb,lW]):p:=h
theorem D3 {p:Prop} (h:p:=by simp [aa.frz,bf,aa.ren,b4,dZ,af.ren,bg,cd,aV,aa.owns]):p:=h
theorem IK {p:Prop} (h:p:=by simp [af.belO,-List.map_append,-List.map_take,-List.map_drop,-List.append_assoc]):p:=h
theorem H1 {p:Prop} (h:p:=by simp [aK,-List.map_append,-List.map_take,-List.map_drop,-List.append_assoc]):p:=h
theorem Cj (a b:Ty) (ha:a.sz<100000000) (hb:b.sz<100000000):ar cx 124 [Ty.v a,Ty.v b] [] (fun v h=>v=.map 0∧h=[mD (eI (a.names++b.names))]):=by
 have hz1:=bP a
 have hz2:=bP b
 have hal:(a.names++b.names).length=a.names.length+b.names.length:=List.length_append
 refine dN (cx:=cx) 24 0 [(ResultVar.tmp 4)] Tryz.func124 rfl rfl rfl rfl rfl zq ?_
 show wpA cx 24 0 (at_ JQ []) _ _ _
 apply qZ [(0,Ty.v a),(1,Ty.v b)] []
 apply qW 3 [(2,.ptr 0 0),(3,.ptr 1 0)] [a.bx,b.bx]
 apply qW 2 [(2,.ptr 0 0),(3,.ptr 1 0),(5,.map 2)] [a.bx,b.bx,mD ([]:List (List UInt8×Bool))]
 apply ao
 apply ao
 refine cR cxM kq aJ (bq ?_)
 apply qu 2
 refine uk (args:=[.imm (a.names.map aa.str)]) (args':=[.imm (a.names.map aa.str)]) (V':=.own 3 0 a.names.length) (F:=[a.bx,b.bx,mD ([]:List (List UInt8×Bool))]) (G':=[.arr 1 (a.names.map aa.str) 0]) (L:=[3]) kq kq kq kq kq (zl a.names oq) [a.bx,b.bx,mD ([]:List (List UInt8×Bool))] kq D3 D3 zq D3 D3 D3 (by simp [l8,aV,aa.owns]) ?_
 apply qu 2
 refine qD (bc (o:=3) (len:=a.names.length) (l:=a.names) (xs:=b.names) (enc:=aa.str) (sz:=1) (fr:=0) (x:=(.imm (b.names.map aa.str))) kq bi ty9 bi rfl kq rfl rfl kq ⟨by decide,by kernel_rfl⟩ (fun _=>rfl) oq oq) ?_ ?_ ?_ ?_
 refine qd (d8 (o:=3) (off:=0) (len:=((a.names++b.names).length)) (sz:=1) (es:=((a.names++b.names).map aa.str)) (fr:=0) kq bi kq zq) ?_ ?_ ?_ ?_
 apply qu 1
 refine cq kq ⟨kq,?_⟩
 apply ab
 apply qZ [(5,.map 2),(14,.own 3 0 (a.names++b.names).length),(15,nI ((a.names++b.names).length)),(16,.int .i64 0)] [a.bx,b.bx,mD ([]:List (List UInt8×Bool)),.arr 1 ((a.names++b.names).map aa.str) 0]
 apply qB 0
 refine bB (σ:=Nat) (fun k=>[(5,.map 2),(14,.own 3 0 (a.names++b.names).length),(15,.int .i64 (((a.names++b.names).length:Nat):Int)),(16,.int .i64 ((k:Nat):Int))]) (fun k=>[a.bx,b.bx,mD (mr (a.names++b.names) k),.arr 1 ((a.names++b.names).map aa.str) 0]) (fun k=>k≤(a.names++b.names).length) (fun k=>(a.names++b.names).length - k) 0 kq (by exact Nat.zero_le _) ⟨⟨kq,kq,kq,kq,trivial⟩,by simp [aQ,aa.bel],by simp,(Eq.trans (b:=[a.bx,b.bx,mD ([]:List (List UInt8×Bool)),.arr 1 ((a.names++b.names).map aa.str) 0]) kq (by rfl)),by simp [af.belO,bL]⟩ ?_
 rintro k hk
 apply qW 1 [(5,.map 2),(14,.own 3 0 (a.names++b.names).length),(15,nI ((a.names++b.names).length)),(16,nI k),(17,.bool (decide (((k:Nat):Int)<(((a.names++b.names).length:Nat):Int))))] [a.bx,b.bx,mD (mr (a.names++b.names) k),.arr 1 ((a.names++b.names).map aa.str) 0]
 apply ao
 by_cases hb1:((k:Nat):Int)<(((a.names++b.names).length:Nat):Int)
 apply qt (decide_eq_true hb1)
 apply qK
 apply qz [(5,.map 2),(14,.own 3 0 (a.names++b.names).length),(15,nI ((a.names++b.names).length)),(16,nI k)]
 apply ao
 apply qB 1
 apply qO
 refine qy (dO (k:=.i64) (i:=((k:Nat):Int)) (o:=3) (off:=0) (len:=((a.names++b.names).length)) (sz:=1) (fr:=0) (es:=((a.names++b.names).map aa.str)) kq bi ty9 kq rfl zq oq oq) ?_ ?_ ?_
 refine qy (fH (t:=9) (o:=3) (idx:=(0+k)) (off:=0) (k:=(((a.names++b.names).map aa.str).length)) (sz:=1) (fr:=0) (es:=((a.names++b.names).map aa.str)) (x:=aa.str ((a.names++b.names).getD (0+k) [])) (v:=.str ((a.names++b.names).getD (0+k) [])) kq kq zq (fS _ _ _ _ oq) kq) ?_ ?_ ?_
 apply qR 1 [(5,.map 2),(7,.str ((a.names++b.names).getD (0+k) [])),(14,.own 3 0 (a.names++b.names).length),(15,nI ((a.names++b.names).length)),(16,nI k)] [a.bx,b.bx,mD (mr (a.names++b.names) k),.arr 1 ((a.names++b.names).map aa.str) 0]
 apply qo
 apply qr 2
 refine qY (dC (o:=2) (ek:=aa.str) (ev:=aa.bool) (l:=(mr (a.names++b.names) k)) (k:=((a.names++b.names).getD (0+k) [])) (x:=true) qF kq ws ty9 rfl kq kq) ?_ ?_ ?_
 apply qe
 apply aj
 apply ab
 apply qZ [(5,.map 2),(14,.own 3 0 (a.names++b.names).length),(15,nI ((a.names++b.names).length)),(16,nI k)] [a.bx,b.bx,mD (aI ((a.names++b.names).getD (0+k) []) true (mr (a.names++b.names) k)),.arr 1 ((a.names++b.names).map aa.str) 0]
 apply qo
 refine qy (aN (a:=((k:Nat):Int)) (b:=1) kq oq oq) ?_ ?_ ?_
 apply qr 1
 apply qe
 refine ab ⟨k+1,?_,?_,⟨⟨kq,kq,kq,kq,trivial⟩,by simp [aQ,aa.bel],by simp,(Eq.trans (b:=[a.bx,b.bx,mD (aI ((a.names++b.names).getD (0+k) []) true (mr (a.names++b.names) k)),.arr 1 ((a.names++b.names).map aa.str) 0]) kq (by rw [Bv oq])),by simp [af.belO,bL]⟩⟩
 · omega
 · omega
 iterate 23 kernel_rfl
 apply qf (decide_eq_false hb1)
 refine bn 0 kq kq ?_
 apply ae
 apply ae
 apply ay
 apply ab
 apply qz [(5,.map 2)]
 apply qU 2 [(4,.map 2)]
 refine ya [2] [(4,.map 0)] [mD (mr (a.names++b.names) k)] dq Fe Fe Fe Fe ?_
 apply qZ [(4,.map 0)] [mD (mr (a.names++b.names) k)]
 refine a8 kq ?_
 refine ee (l:=[.map 0]) 1 [mD (mr (a.names++b.names) k)] iq kq (Nat.zero_le _) kq H1 IK ?_
 · exact ⟨rfl,by rw [CV oq]⟩
 iterate 23 kernel_rfl
noncomputable def JT:Code:=aB Tryz.f123
theorem Bw (l:Dn) :ar cx 123 [.map 0] [mD l] (fun v h=>v=.fn (.func 138) [] [.ptr 1 0]∧h=[mD l,.box [.map 0]]):=by
 refine dN (cx:=cx) 4 1 [(ResultVar.tmp 2)] Tryz.func123 rfl rfl rfl rfl rfl zq ?_
 show wpA cx 4 1 (at_ JT []) _ _ _
 apply qZ [(0,.map 0)] [mD l]
 apply qW 2 [(1,.ptr 1 0)] [mD l,.box [.map 0]]
 apply qU 2 [(2,.fn (.func 138) [] [.ptr 1 0])]
 refine a8 kq ?_
 refine ee (l:=[.fn (.func 138) [] [.ptr 1 0]]) 2 [mD l,.box [.map 0]] iq kq dq kq H1 IK ?_
 · exact ⟨rfl,rfl⟩
 iterate 3 kernel_rfl
theorem zm {f:Nat} {U:UF} {S S':St} {a b:Ty} {ok:Bool} (h:gE f U S a b=some (ok,S')):∃ R:Bool×St×Ty×Ty,dW f U f S a b []=some R∧(R.1=true→fB f R.2.1 R.2.2.1 R.2.2.2=some (ok,S'))∧(R.1=false→false=ok∧R.2.1=S'):=by
 unfold gE at h
 split at h <;> try (cases h;done)
 · rename_i S1 a1 b1 hl;exact ⟨_,hl,fun _=>h,fun h=>(by cases h)⟩
 · rename_i S1 a1 b1 hl;cases h;exact ⟨_,hl,fun h=>(by cases h),fun _=>⟨rfl,rfl⟩⟩
theorem E4 {f g:Nat} {U:UF} {S:St} {a b:Ty} {D:Dn} {R:Bool×St×Ty×Ty} (h:dW f U g S a b D=some R):∃ (a' b':Ty) (P:Bool×St×Dn×Bool),bY f S a=some a'∧bY f S b=some b'∧rok a'∧rok b'∧ci U b' (a'.names.drop 0) (a'.kids.drop 0) S D false=some P∧g - 1<g ∧
 (∀ ag,P.1=true→P.2.2.2=ag→(ag=true→dW f U (g - 1) P.2.1 a' b' P.2.2.1=some R)∧(ag=false→R=(true,P.2.1,a',b')))∧(P.1=false→R=(false,P.2.1,a',b')):=by
 cases g with
 | zero=>simp [dW] at h
 | succ g =>
  rw [dW] at h
  split at h <;> try (cases h;done)
  rename_i a' ha
  split at h <;> try (cases h;done)
  rename_i b' hb
  split at h <;> try (cases h;done)
  rename_i hr
  split at h <;> try (cases h;done)
  · rename_i S1 D1 hp
    exact ⟨a',b',_,ha,hb,hr.1,hr.2,hp,by omega,fun ag _ e=>⟨fun _=>h,fun e2=>(by rw [e2] at e;cases e)⟩,fun h=>(by cases h)⟩
  · rename_i S1 D1 hp
    cases h
    exact ⟨a',b',_,ha,hb,hr.1,hr.2,hp,by omega,fun ag _ e=>⟨fun e2=>(by rw [e2] at e;cases e),fun _=>rfl⟩,fun h=>(by cases h)⟩
  · rename_i S1 D1 ag1 hp
    cases h
    exact ⟨a',b',_,ha,hb,hr.1,hr.2,hp,by omega,fun ag h=>(by cases h),fun _=>rfl⟩
theorem tg {U:UF} {b a:Ty} {S:St} {D:Dn} {ag:Bool} {k:Nat} (hk:k<a.names.length) (hl:a.names.length=a.kids.length):ci U b (a.names.drop k) (a.kids.drop k) S D ag =
 if cG b.names (a.names.getD k [])<0∨isD D (a.names.getD k [])=true then ci U b (a.names.drop (k+1)) (a.kids.drop (k+1)) S D ag else (match U S (a.kids.getD k Ty.zero) (b.kids.getD (cG b.names (a.names.getD k [])).toNat Ty.zero) with
 | some (true,S')=>ci U b (a.names.drop (k+1)) (a.kids.drop (k+1)) S' (aI (a.names.getD k []) true D) true
 | some (false,S')=>some (false,S',aI (a.names.getD k []) true D,true)
 | none=>none):=by
 rw [pb (l:=a.names) (d:=[]) hk,pb (l:=a.kids) (d:=Ty.zero) oq,ci] <;> rfl
theorem sG {U:UF} {b a:Ty} {S:St} {D:Dn} {ag:Bool} {k:Nat} {P:Bool×St×Dn×Bool} (h:ci U b (a.names.drop k) (a.kids.drop k) S D ag=some P) (hk:k<a.names.length) (hl:a.names.length=a.kids.length) (hc:cG b.names (a.names.getD k [])<0∨isD D (a.names.getD k [])=true):ci U b (a.names.drop (k+1)) (a.kids.drop (k+1)) S D ag=some P:=by
 rw [tg hk hl,if_pos hc] at h;exact h
theorem tu {U:UF} {b a:Ty} {S:St} {D:Dn} {ag:Bool} {k:Nat} {P:Bool×St×Dn×Bool} (h:ci U b (a.names.drop k) (a.kids.drop k) S D ag=some P) (hk:k<a.names.length) (hl:a.names.length=a.kids.length) (hi:¬ cG b.names (a.names.getD k [])<0) (hd:isD D (a.names.getD k [])=false) :
 ∃ okU SU,U S (a.kids.getD k Ty.zero) (b.kids.getD (cG b.names (a.names.getD k [])).toNat Ty.zero)=some (okU,SU)∧(okU=true→ci U b (a.names.drop (k+1)) (a.kids.drop (k+1)) SU (aI (a.names.getD k []) true D) true=some P)∧(¬ okU=true→P=(false,SU,aI (a.names.getD k []) true D,true)):=by
 rw [tg hk hl,if_neg (by rintro (h|h);exact hi h;rw [hd] at h;cases h)] at h
 split at h <;> try (cases h;done)
 · rename_i S1 hu;exact ⟨_,_,hu,fun _=>h,fun h=>absurd rfl h⟩
 · rename_i S1 hu;cases h;exact ⟨_,_,hu,fun h=>(by cases h),fun _=>rfl⟩
theorem C6 {U:UF} {b a:Ty} {S:St} {D:Dn} {ag:Bool} {k:Nat} {P:Bool×St×Dn×Bool} (h:ci U b (a.names.drop k) (a.kids.drop k) S D ag=some P) (hk:a.names.length≤k):P=(true,S,D,ag):=by
 rw [List.drop_of_length_le hk] at h
 unfold ci at h
 cases h;rfl
theorem II {D:Dn} {s:List UInt8} (h:ai s D=none):isD D s=false:=by unfold isD;rw [h]
theorem HW {D:Dn} {s:List UInt8} {b:Bool} (h:ai s D=some b) (hb:¬ b=true):isD D s=false:=by unfold isD;rw [h];simpa using hb
theorem IV {D:Dn} {s:List UInt8} {b:Bool} (h:ai s D=some b) (hb:b=true):isD D s=true:=by unfold isD;rw [h];exact hb
theorem Jj {f:Nat} {S S':St} {a b:Ty} {ok:Bool} (h:fB f S a b=some (ok,S')):(∀ n,(onT a b n).sz<100000000)∧(∀ n,(onT b a n).sz<100000000) ∧
 (a.n=b.n→decide ((onT a b b.n).names.length+(onT b a a.n).names.length=0)=ok∧S=S') ∧
 (¬ a.n=b.n→(0<(onT a b b.n).names.length∧b.n=0)∨(0<(onT b a a.n).names.length∧a.n=0)→false=ok∧S=S') ∧
 (¬ a.n=b.n→¬ ((0<(onT a b b.n).names.length∧b.n=0)∨(0<(onT b a a.n).names.length∧a.n=0)) →
  ((onT a b b.n).names.length=0∧¬ a.n=0→b7 f S a.n (onT b a b.n)=some (ok,S')) ∧
  (¬ ((onT a b b.n).names.length=0∧¬ a.n=0)→((onT b a a.n).names.length=0→b7 f S b.n (onT a b a.n)=some (ok,S')) ∧
   (¬ (onT b a a.n).names.length=0→(S.length<100000000∧¬ ai a.n S=none∧¬ ai b.n S=none)∧∃ ok1 S2,b7 f (dQ S a b) a.n (onT b a ((S.length+1:Nat):Int))=some (ok1,S2)∧(ok1=true→b7 f S2 b.n (onT a b ((S.length+1:Nat):Int))=some (ok,S'))∧(¬ ok1=true→false=ok∧S2=S')))):=by
 unfold fB at h
 split at h <;> try (cases h;done)
 rename_i hg
 have sN0:∀ (l:Fd) (n n':Int),(recT l n).sz=(recT l n').sz:=fun l n n'=>by simp only [recT,Ty.sz]
 refine ⟨fun n=>(by unfold onT at hg ⊢;rw [sN0 _ n b.n];exact hg.1),fun n=>(by unfold onT at hg ⊢;rw [sN0 _ n a.n];exact hg.2),fun e=>?_,fun e hz=>?_,fun e hz=>⟨fun hl=>?_,fun hl=>⟨fun hr=>?_,fun hr=>?_⟩⟩⟩
 · rw [if_pos e] at h;cases h;exact ⟨rfl,rfl⟩
 · rw [if_neg e,if_pos hz] at h;cases h;exact ⟨rfl,rfl⟩
 · rw [if_neg e,if_neg hz,if_pos hl] at h;exact h
 · rw [if_neg e,if_neg hz,if_neg hl,if_pos hr] at h;exact h
 · rw [if_neg e,if_neg hz,if_neg hl,if_neg hr] at h
   split at h <;> try (cases h;done)
   rename_i hs
   refine ⟨⟨hs.1,fun e=>(by rw [e] at hs;exact absurd hs.2.1 dq),fun e=>(by rw [e] at hs;exact absurd hs.2.2 dq)⟩,?_⟩
   split at h <;> try (cases h;done)
   · rename_i S2 hb;exact ⟨_,_,hb,fun _=>h,fun h=>absurd rfl h⟩
   · rename_i S2 hb;cases h;exact ⟨_,_,hb,fun h=>(by cases h),fun _=>⟨rfl,rfl⟩⟩
theorem In {f:Nat} {S S':St} {a b:Ty} {ok:Bool} (h:fB f S a b=some (ok,S')):(∀ n,(oT a b n).sz<100000000)∧(∀ n,(oT b a n).sz<100000000) ∧
 (a.n=b.n→decide ((oT a b b.n).names.length+(oT b a a.n).names.length=0)=ok∧S=S') ∧
 (¬ a.n=b.n→(0<(oT a b b.n).names.length∧b.n=0)∨(0<(oT b a a.n).names.length∧a.n=0)→false=ok∧S=S') ∧
 (¬ a.n=b.n→¬ ((0<(oT a b b.n).names.length∧b.n=0)∨(0<(oT b a a.n).names.length∧a.n=0)) →
  ((oT a b b.n).names.length=0∧¬ a.n=0→b7 f S a.n (oT b a b.n)=some (ok,S')) ∧
  (¬ ((oT a b b.n).names.length=0∧¬ a.n=0)→((oT b a a.n).names.length=0→b7 f S b.n (oT a b a.n)=some (ok,S')) ∧
   (¬ (oT b a a.n).names.length=0→(S.length<100000000∧¬ ai a.n S=none∧¬ ai b.n S=none)∧∃ ok1 S2,b7 f (dQ S a b) a.n (oT b a ((S.length+1:Nat):Int))=some (ok1,S2)∧(ok1=true→b7 f S2 b.n (oT a b ((S.length+1:Nat):Int))=some (ok,S'))∧(¬ ok1=true→false=ok∧S2=S')))):=Jj h
theorem Dv {S:St} {n:Int} {x:Vr} (h:ai n S=some x):fD S n=x.lv:=by unfold fD;rw [h]
theorem xd (lv lx:Int) (ns:List (List UInt8)) (m:St) (hml:m.length<100000000):ar cx 80 [.ptr 0 0,.agg [.bool true,.int .i64 (lx),.bool false,.int .i64 0,.str [],.int .i64 0,.full [],.full [],.imm (ns.map aa.str)]] [bS lv,mS m] (fun v h=>v=(.int .i64 ((((m.length+1):Nat)):Int))∧h=[bS lv,mS (aI ((((m.length+1):Nat):Int)) ⟨true,lx,false,Ty.zero,ns⟩ m)]):=by
 refine gF ?_
 have:=nz ⟨true,lx,false,Ty.zero,ns⟩ lv m hml
 simpa [bf,cd,aV,aa.frz,aa.owns,Vr.v,Ty.zero] using this
theorem DR (a b:Ty) (ha:a.sz<100000000) (hb:b.sz<100000000):((eI (a.names++b.names)).map Prod.fst).Nodup∧(∀ p∈eI (a.names++b.names),p.1.length≤1000000000)∧(eI (a.names++b.names)).length≤1000000000:=by
 obtain ⟨h1,h2⟩:=mf (a.names++b.names) [] zq
 have hz1:=bP a
 have hz2:=bP b
 refine ⟨h1,fun p hp=>?_,?_⟩
 · have hm:=(h2 p.1).1 (List.mem_map_of_mem hp)
   simp only [List.map_nil,List.not_mem_nil,false_or,List.mem_append] at hm
   have key:∀ t:Ty,t.sz<100000000→p.1∈t.names→p.1.length≤1000000000:=fun t ht hm=>by
    obtain ⟨i,hi,e⟩:=List.getElem_of_mem hm
    have:=fy t i
    rw [List.getD_eq_getElem?_getD,List.getElem?_eq_getElem hi] at this
    have:(t.names[i]).length<t.sz:=this
    rw [← e];omega
   exact hm.elim (key a ha) (key b hb)
 · have:=ux (m:=a.names++b.names) h1 (fun s hs=>by
    have:=(h2 s).1 hs
    simpa using this)
   rw [List.length_map,List.length_append] at this
   have h3:(eI (a.names++b.names)).length≤a.names.length+b.names.length:=this
   omega
end Go.Proofs.YtdikgijfekfaoaaGreatDoor
