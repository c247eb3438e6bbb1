/- A part of the proof: plain lemmas, rules and walks. No condition. -/
import Derived.Test.YtdikgijfekfaoaaGreatDoorP4
set_option linter.all false
namespace Go.Proofs.YtdikgijfekfaoaaGreatDoor
open Go.Proofs.YtdikgijfekfaoaaGreatDoor.Abs
set_option maxRecDepth 20000
set_option maxHeartbeats 4000000
def isV (k n:Int):Bool:=decide (k=6) || (decide (k=5) && decide (n≠0))
noncomputable def JA:Code:=aE Tryz.f104
theorem wP (k n:Int) (x:List UInt8) :ay cx 104 [.agg [.int .i64 (k),.str x,.int .i64 (n),.any,.any]] (.bool (isV k n)):=by
 refine ap (cx:=cx) 16 0 [(ResultVar.tmp 2)] Tryz.func104 rfl rfl rfl rfl rfl zq ?_
 show wpA cx 16 0 (at_ JA []) _ _ _
 refine qZ [(0,.agg [.int .i64 (k),.str x,.int .i64 (n),.any,.any])] [] ?_ ?_
 refine qW 2 [(1,.ptr 0 0)] [.box [.int .i64 (k),.str x,.int .i64 (n),.any,.any]] ?_ ?_
 refine qV 4 ?_ ?_
 by_cases hb1:(k)=6
 refine qm [5,6] (beq_iff_eq.2 hb1) ?_ ?_
 refine qX 10 ?_ ?_
 refine aH (b:=true) (.inr rfl) kq ?_
 · simp [isV, *]
 iterate 2 kernel_rfl
 refine qm [5,6] (beq_eq_false_iff_ne.2 hb1) ?_ ?_
 refine qr 4 ?_ ?_
 by_cases hb2:(k)=5
 refine qm [9,10] (beq_iff_eq.2 hb2) ?_ ?_
 refine qX 6 ?_ ?_
 refine aH (b:=((n) != 0)) (.inr rfl) kq ?_
 by_cases hb3:(n)=0
 refine Eq.trans (bne_eq_false_iff_eq.2 hb3) ?_
 · simp [isV, *]
 refine Eq.trans (bne_iff_ne.2 hb3) ?_
 · simp [isV, *]
 iterate 2 kernel_rfl
 refine qm [9,10] (beq_eq_false_iff_ne.2 hb2) ?_ ?_
 refine qX 6 ?_ ?_
 refine aH (b:=false) (.inr rfl) kq ?_
 · simp [isV, *]
 iterate 7 kernel_rfl
def ww (l:List Int) (s:Int):Int:=match l.findIdx? (·==s) with
 | some i=>(i:Nat)
 | none=>-1
theorem BL {l:List Int} {s:Int} {k:Nat} (hk:k<l.length) (ha:∀ i,i<k→¬ s=l.getD i 0) (h:s=l.getD k 0):((k:Nat):Int)=ww l s:=by
 have e:∀ i (h:i<l.length),l.getD i 0=l[i]:=fun i h=>by rw [List.getD_eq_getElem?_getD,List.getElem?_eq_getElem h];rfl
 have:l.findIdx? (·==s)=some k:=by
  rw [List.findIdx?_eq_some_iff_getElem]
  refine ⟨hk,by rw [← e k hk,← h];simp,fun j hj=>?_⟩
  have:=ha j hj
  rw [e j oq] at this
  simpa using fun h=>this h.symm
 simp [ww,this]
theorem Co {l:List Int} {s:Int} (ha:∀ i,i<l.length→¬ s=l.getD i 0):-1=ww l s:=by
 have:l.findIdx? (·==s)=none:=by
  rw [List.findIdx?_eq_none_iff]
  intro x hx
  obtain ⟨i,hi,rfl⟩:=List.getElem_of_mem hx
  have:=ha i hi
  rw [List.getD_eq_getElem?_getD,List.getElem?_eq_getElem hi] at this
  simpa using fun h:l[i]=s=>this h.symm
 simp [ww,this]
theorem rZ (l:List Int) (s:Int):decide (ww l s ≥ 0)=l.contains s:=by
 rw [Bool.eq_iff_iff]
 simp only [decide_eq_true_eq,List.contains_iff_mem]
 unfold ww
 split
 · rename_i i hi
   obtain ⟨h1,h2,_⟩:=List.findIdx?_eq_some_iff_getElem.1 hi
   simp at h2
   exact ⟨fun _=>h2▸List.getElem_mem h1,fun _=>by omega⟩
 · rename_i hi
   rw [List.findIdx?_eq_none_iff] at hi
   exact ⟨fun h=>by omega,fun h=>by have:=hi s h;simp at this⟩
theorem EF {l:List Int} {n:Int} {k:Nat} (hk:k<l.length) (h:l.getD k 0=n):l.contains n=true:=by
 rw [List.contains_iff_mem,← h,List.getD_eq_getElem?_getD,List.getElem?_eq_getElem hk];exact List.getElem_mem hk
theorem Hf {l:List Int} {n:Int} (ha:∀ i,i<l.length→¬ l.getD i 0=n):l.contains n=false:=by
 rw [Bool.eq_false_iff,Ne,List.contains_iff_mem]
 intro hm
 obtain ⟨i,hi,e⟩:=List.getElem_of_mem hm
 exact ha i hi (by rw [List.getD_eq_getElem?_getD,List.getElem?_eq_getElem hi];exact e)
noncomputable def JU:Code:=aE Tryz.f116
theorem yG (l:List Int) (n:Int) (hn:l.length<1000000000):ay cx 116 [.imm (l.map (aa.int .i64)),.int .i64 (n)] (.int .i64 (ww l n)):=by
 refine ap (cx:=cx) 19 0 [(ResultVar.tmp 4)] Tryz.func116 rfl rfl rfl rfl rfl zq ?_
 show wpA cx 19 0 (at_ JU []) _ _ _
 refine qZ [(0,.imm (l.map (aa.int .i64))),(1,.int .i64 (n))] [] ?_ ?_
 refine qU 1 [(0,.imm (l.map (aa.int .i64))),(1,.int .i64 (n))] ?_ ?_
 refine ar ?_ ?_
 refine qV 1 ?_ ?_
 refine qy (au (l:=l) (enc:=(aa.int .i64)) kq ff) ?_ ?_ ?_
 refine qR 1 [(0,.imm (l.map (aa.int .i64))),(1,.int .i64 (n)),(7,nI l.length),(8,.int .i64 0)] [] ?_ ?_
 refine qB 0 ?_ ?_ ?_
 refine bR (σ:=Nat) (fun k=>[(0,.imm (l.map (aa.int .i64))),(1,.int .i64 (n)),(7,.int .i64 ((l.length:Nat):Int)),(8,.int .i64 ((k:Nat):Int))]) (fun k=>[]) (fun k=>k≤l.length∧∀ i,i<k→¬ n=l.getD i 0) (fun k=>l.length - k) 0 kq zq ⟨⟨kq,kq,kq,kq,trivial⟩,by simp [aV,aa.bel],by simp,kq,by simp⟩ ?_
 rintro k ⟨hk,ha⟩
 refine qW 1 [(0,.imm (l.map (aa.int .i64))),(1,.int .i64 (n)),(7,nI l.length),(8,nI k),(9,.bool (decide (((k:Nat):Int)<((l.length:Nat):Int))))] [] ?_ ?_
 refine ar ?_ ?_
 by_cases hb1:((k:Nat):Int)<((l.length:Nat):Int)
 refine qt (decide_eq_true hb1) ?_ ?_
 refine qK ?_ ?_
 refine qz [(0,.imm (l.map (aa.int .i64))),(1,.int .i64 (n)),(7,nI l.length),(8,nI k)] ?_ ?_
 refine ar ?_ ?_
 refine qB 1 ?_ ?_ ?_
 refine qU 2 [(0,.imm (l.map (aa.int .i64))),(1,.int .i64 (n)),(5,nI k),(7,nI l.length),(8,nI k)] ?_ ?_
 refine qV 3 ?_ ?_
 refine qy (ax (k:=.i64) (l:=l) (enc:=(aa.int .i64)) (i:=((k:Nat):Int)) 0 kq ff ty3 (fun _=>rfl) oq oq) ?_ ?_ ?_
 refine qR 2 [(0,.imm (l.map (aa.int .i64))),(1,.int .i64 (n)),(5,nI k),(7,nI l.length),(8,nI k),(16,.bool ((n)==((l.getD k 0))))] [] ?_ ?_
 by_cases hb2:(n)=((l.getD k 0))
 refine qt (beq_iff_eq.2 hb2) ?_ ?_
 refine qV 2 ?_ ?_
 refine qT ?_ ?_
 apply iR
 apply aR
 apply aR
 apply iR
 apply aR
 refine b8 (n:=((k:Nat):Int)) (.inr rfl) kq ?_
 rotate_left
 iterate 3 kernel_rfl
 refine qf (beq_eq_false_iff_ne.2 hb2) ?_ ?_
 refine qk ?_ ?_
 refine ak ?_
 refine ab ?_
 refine qz [(0,.imm (l.map (aa.int .i64))),(1,.int .i64 (n)),(7,nI l.length),(8,nI k)] ?_ ?_
 refine qo ?_ ?_
 refine qy (aN (a:=((k:Nat):Int)) (b:=1) kq oq oq) ?_ ?_ ?_
 refine qr 1 ?_ ?_
 refine qe ?_ ?_
 refine ab ⟨k+1,?_,?_,⟨⟨kq,kq,kq,kq,trivial⟩,by simp [aV,aa.bel],by simp,kq,by simp⟩⟩
 · omega
 · refine ⟨by omega,fun i hi=>?_⟩
   rcases Nat.lt_succ_iff_lt_or_eq.1 hi with h|h
   · exact ha i h
   · subst h;assumption
 iterate 19 kernel_rfl
 refine qf (decide_eq_false hb1) ?_ ?_
 refine bC 0 kq kq ?_
 refine af ?_
 refine af ?_
 refine aA ?_
 refine ab ?_
 refine qz [] ?_ ?_
 refine qV 1 ?_ ?_
 refine qT ?_ ?_
 refine b8 (n:=(-1)) (.inr rfl) kq ?_
 rotate_left
 iterate 15 kernel_rfl
 all_goals
  first|exact BL oq ha aq|exact Co (fun i hi=>ha i oq)
noncomputable def c88:Code:=aE Tryz.f88
theorem og (l:List Int) (n:Int) (hn:l.length<1000000000):ay cx 88 [.imm (l.map (aa.int .i64)),.int .i64 (n)] (.bool (l.contains n)):=by
 refine ap (cx:=cx) 9 0 [(ResultVar.tmp 4)] Tryz.func88 rfl rfl rfl rfl rfl zq ?_
 show wpA cx 9 0 (at_ c88 []) _ _ _
 refine qZ [(0,.imm (l.map (aa.int .i64))),(1,.int .i64 (n))] [] ?_ ?_
 refine qU 1 [(0,.imm (l.map (aa.int .i64))),(1,.int .i64 (n))] ?_ ?_
 refine qV 2 ?_ ?_
 refine bp (args:=[.imm (l.map (aa.int .i64)),.int .i64 (n)]) kq kq kq kq (yG l (n) oq) (by simp [Ty.v,bm,Occ.v]) (by simp [Ty.v]) (by simp [Ty.v,a7]) ?_
 refine qX 2 ?_ ?_
 refine aH (b:=(decide ((ww l (n)) ≥ 0))) (.inr rfl) kq ?_
 · exact rZ l n
 iterate 4 kernel_rfl
noncomputable def c79:Code:=aE Tryz.f79
theorem tg (l:List Int) (n:Int) (hn:l.length<1000000000):ay cx 79 [.imm (l.map (aa.int .i64)),.int .i64 (n)] (.bool (l.contains n)):=by
 refine ap (cx:=cx) 18 0 [(ResultVar.tmp 4)] Tryz.func79 rfl rfl rfl rfl rfl zq ?_
 show wpA cx 18 0 (at_ c79 []) _ _ _
 refine qZ [(0,.imm (l.map (aa.int .i64))),(1,.int .i64 (n))] [] ?_ ?_
 refine qU 1 [(0,.imm (l.map (aa.int .i64))),(1,.int .i64 (n))] ?_ ?_
 refine ar ?_ ?_
 refine qU 1 [(0,.imm (l.map (aa.int .i64))),(1,.int .i64 (n)),(5,.int .i64 0)] ?_ ?_
 refine qB 0 ?_ ?_ ?_
 refine bR (σ:=Nat) (fun k=>[(0,.imm (l.map (aa.int .i64))),(1,.int .i64 (n)),(5,.int .i64 ((k:Nat):Int))]) (fun k=>[]) (fun k=>k≤l.length∧∀ i,i<k→¬ l.getD i 0=n) (fun k=>l.length - k) 0 kq zq ⟨⟨kq,kq,kq,trivial⟩,by simp [aV,aa.bel],by simp,kq,by simp⟩ ?_
 rintro k ⟨hk,ha⟩
 refine ar ?_ ?_
 refine qV 2 ?_ ?_
 refine qy (au (l:=l) (enc:=(aa.int .i64)) kq ff) ?_ ?_ ?_
 refine qR 1 [(0,.imm (l.map (aa.int .i64))),(1,.int .i64 (n)),(5,nI k),(9,.bool (decide (((k:Nat):Int)<((l.length:Nat):Int))))] [] ?_ ?_
 by_cases hb1:((k:Nat):Int)<((l.length:Nat):Int)
 refine qt (decide_eq_true hb1) ?_ ?_
 refine qK ?_ ?_
 refine qz [(0,.imm (l.map (aa.int .i64))),(1,.int .i64 (n)),(5,nI k)] ?_ ?_
 refine ar ?_ ?_
 refine qB 1 ?_ ?_ ?_
 refine qV 2 ?_ ?_
 refine qy (ax (k:=.i64) (l:=l) (enc:=(aa.int .i64)) (i:=((k:Nat):Int)) 0 kq ff ty3 (fun _=>rfl) oq oq) ?_ ?_ ?_
 refine qR 3 [(0,.imm (l.map (aa.int .i64))),(1,.int .i64 (n)),(5,nI k),(17,.bool (((l.getD k 0))==(n)))] [] ?_ ?_
 by_cases hb2:((l.getD k 0))=(n)
 refine qt (beq_iff_eq.2 hb2) ?_ ?_
 refine qV 1 ?_ ?_
 refine qT ?_ ?_
 apply iR
 apply aR
 apply aR
 apply iR
 apply aR
 refine aH (b:=true) (.inr rfl) kq ?_
 rotate_left
 iterate 3 kernel_rfl
 refine qf (beq_eq_false_iff_ne.2 hb2) ?_ ?_
 refine qk ?_ ?_
 refine ak ?_
 refine ab ?_
 refine qz [(0,.imm (l.map (aa.int .i64))),(1,.int .i64 (n)),(5,nI k)] ?_ ?_
 refine qo ?_ ?_
 refine qr 1 ?_ ?_
 refine qy (aN (a:=((k:Nat):Int)) (b:=1) kq oq oq) ?_ ?_ ?_
 refine qr 1 ?_ ?_
 refine qe ?_ ?_
 refine ab ⟨k+1,?_,?_,⟨⟨kq,kq,kq,trivial⟩,by simp [aV,aa.bel],by simp,kq,by simp⟩⟩
 · omega
 · refine ⟨by omega,fun i hi=>?_⟩
   rcases Nat.lt_succ_iff_lt_or_eq.1 hi with h|h
   · exact ha i h
   · subst h;assumption
 iterate 19 kernel_rfl
 refine qf (decide_eq_false hb1) ?_ ?_
 refine bC 0 kq kq ?_
 refine af ?_
 refine af ?_
 refine aA ?_
 refine ab ?_
 refine qz [] ?_ ?_
 refine qV 1 ?_ ?_
 refine qT ?_ ?_
 refine aH (b:=false) (.inr rfl) kq ?_
 rotate_left
 iterate 15 kernel_rfl
 all_goals
  first|exact (EF (k:=k) oq aq).symm|exact (Hf (fun i hi=>ha i oq)).symm
def cN (l:List Int) (n:Int):List Int:=if l.contains n then l else l++[n]
def aD (l:List Int) (t:Ty):List Int:=((aF t).map Occ.n).foldl cN l
def bj (l:List Int) (ks:List Ty):List Int:=((aI ks).map Occ.n).foldl cN l
def bN (l:List Int) (t:Ty):List Int:=if isV t.kind t.n then cN l t.n else l
theorem CW (l:List Int) (t:Ty) (h:¬ t.kind=5):aD l t=bj (bN l t) t.kids:=by
 unfold aD bj bN isV
 rw [kr,sh,rN,if_neg (fun hc:t.kind=5∧t.n≠0=>h hc.1),List.append_nil]
 by_cases h6:t.kind=6
 · rw [if_pos h6,if_pos (by simp [h6])];rfl
 · rw [if_neg h6,if_neg (by simp [h6,h])];rfl
theorem Es (l:List Int) (t:Ty) (h:t.kind=5):aD l t=bN (bj l t.kids) t:=by
 unfold aD bj bN isV
 rw [kr,sh,rN,if_neg oq,List.nil_append,List.map_append,List.foldl_append]
 by_cases hn:t.n=0
 · rw [if_neg (fun hc=>hc.2 hn),if_neg (by simp [h,hn])];rfl
 · rw [if_pos ⟨h,hn⟩,if_pos (by simp [h,hn])];rfl
theorem yf (l:List Int) (ks:List Ty) (k:Nat) (h:k<ks.length):bj l (ks.take (k+1))=aD (bj l (ks.take k)) (ks.getD k Ty.zero):=by
 unfold bj aD
 rw [qA ks k h,List.map_append,List.foldl_append]
theorem xm (l:List Int) (n:Int):(cN l n).length≤l.length+1:=by unfold cN;split <;> simp
theorem iE:∀ (xs l:List Int),(xs.foldl cN l).length≤l.length+xs.length
 | [],l=>by simp
 | x::xs,l=>by have:=iE xs (cN l x);have:=xm l x;simp only [List.foldl_cons,List.length_cons];omega
theorem rD (l:List Int) (t:Ty):(aD l t).length≤l.length+t.sz:=by
 have:=iE ((aF t).map Occ.n) l;have:=mq t;rw [List.length_map] at *;unfold aD;omega
theorem ta (l:List Int) (ks:List Ty):(bj l ks).length≤l.length+Ty.szL ks:=by
 have:=iE ((aI ks).map Occ.n) l;have:=ky ks;rw [List.length_map] at *;unfold bj;omega
theorem Bj (l:List Int) (t:Ty):(bN l t).length≤l.length+1:=by
 unfold bN;split
 · exact xm l t.n
 · omega
def hpN (u:Ty) (l:List Int):ac:=[u.bx,.box [.own 2 0 l.length],.arr 1 (l.map (aa.int .i64)) (l.map (aa.int .i64)).length]
def hpR (u:Ty) (l:List Int) (t:Ty):ac:=if isV t.kind t.n=true∧¬ l.contains t.n=true then [u.bx,.box [.own 2 0 (l++[t.n]).length],.arr 1 ((l++[t.n]).map (aa.int .i64)) (l.map (aa.int .i64)).length] else hpN u l
noncomputable def Jv:Code:=aE Tryz.f112
theorem lw {p:Prop} (h:p:=by simp [aK]):p:=h
theorem Ji {p:Prop} (h:p:=by simp only [List.length_append,List.length_map,List.length_cons,List.length_nil];omega):p:=h
theorem Et (t u:Ty) (l:List Int) (hl:l.length<900000000):av cx 112 [Ty.v t,.ptr 1 0] (hpN u l) (fun v h=>v=(.tup [])∧h=hpR u l t):=by
 refine ap (cx:=cx) 17 3 [] Tryz.func112 rfl rfl rfl rfl rfl zq ?_
 show wpA cx 17 3 (at_ Jv []) _ _ _
 refine qZ [(0,Ty.v t),(1,.ptr 1 0)] [u.bx,.box [.own 2 0 l.length],.arr 1 (l.map (aa.int .i64)) (l.map (aa.int .i64)).length] ?_ ?_
 refine qW 1 [(1,.ptr 1 0),(2,.ptr 3 0)] [u.bx,.box [.own 2 0 l.length],.arr 1 (l.map (aa.int .i64)) (l.map (aa.int .i64)).length,t.bx] ?_ ?_
 refine qV 1 ?_ ?_
 refine cM (args:=[.agg [.int .i64 (t.kind),.str t.name,.int .i64 (t.n),.imm (t.names.map aa.str),.imm (t.kids.map Ty.enc)]]) (v:=.bool (isV (t.kind) (t.n))) (h':=[u.bx,.box [.own 2 0 l.length],.arr 1 (l.map (aa.int .i64)) (l.map (aa.int .i64)).length,t.bx]) [u.bx,.box [.own 2 0 l.length],.arr 1 (l.map (aa.int .i64)) (l.map (aa.int .i64)).length,t.bx] kq kq kq kq kq (nO (wP (t.kind) (t.n) t.name) rfl rfl rfl) ?_
 refine qr 1 ?_ ?_
 by_cases hb1:(isV (t.kind) (t.n))=true
 refine qm [4,5] (hb1) ?_ ?_
 refine qr 3 ?_ ?_
 refine vZ (args:=[.own 2 0 l.length,.int .i64 (t.n)]) (F:=[u.bx,.box [.own 2 0 l.length],.arr 1 (l.map (aa.int .i64)) (l.map (aa.int .i64)).length,t.bx]) kq kq kq kq (og l (t.n) oq) [u.bx,.box [.own 2 0 l.length],.arr 1 (l.map (aa.int .i64)) (l.map (aa.int .i64)).length,t.bx] kq (by simp [bo,cb,aS,aa.frz,aa.owns]) (by simp [Ty.v]) (by simp [bo,cb,aS,aa.frz,aa.owns]) ?_
 refine qR 2 [(1,.ptr 1 0),(2,.ptr 3 0),(11,.bool (!(l.contains (t.n))))] [u.bx,.box [.own 2 0 l.length],.arr 1 (l.map (aa.int .i64)) (l.map (aa.int .i64)).length,t.bx] ?_ ?_
 by_cases hb2:(l.contains (t.n))=true
 refine qf (x:=(!(l.contains (t.n)))) (congrArg not (hb2)) ?_ ?_
 refine qk ?_ ?_
 refine aL (l:=[]) (.inl rfl) kq lw lw lw ?_ ?_
 refine Eq.trans (b:=[u.bx,.box [.own 2 0 l.length],.arr 1 (l.map (aa.int .i64)) (l.map (aa.int .i64)).length]) kq ?_
 rotate_left
 · first|(simp [ai.belO,hpN,Ty.v];done)|(unfold hpR;split <;> simp [ai.belO,hpN,Ty.v,-List.map_append])
 iterate 2 kernel_rfl
 refine qt (x:=(!(l.contains (t.n)))) (congrArg not (Bool.eq_false_iff.2 hb2)) ?_ ?_
 refine qo ?_ ?_
 refine qr 4 ?_ ?_
 refine qY (bh (o:=2) (len:=l.length) (l:=l) (xs:=[(t.n)]) (enc:=(aa.int .i64)) (sz:=1) (fr:=(l.map (aa.int .i64)).length) (x:=(.full [.int .i64 (t.n)])) kq ff ty3 ff rfl kq rfl rfl kq ⟨by decide,by kernel_rfl⟩ (fun _=>rfl) Ji Ji) ?_ ?_ ?_
 refine qr 1 ?_ ?_
 refine qe ?_ ?_
 refine aL (l:=[]) (.inl rfl) kq lw lw lw ?_ ?_
 refine Eq.trans (b:=[u.bx,.box [.own 2 0 (l++[(t.n)]).length],.arr 1 ((l++[(t.n)]).map (aa.int .i64)) (l.map (aa.int .i64)).length]) kq ?_
 rotate_left
 · first|(simp [ai.belO,hpN,Ty.v];done)|(unfold hpR;split <;> simp [ai.belO,hpN,Ty.v,-List.map_append])
 iterate 10 kernel_rfl
 refine qm [4,5] (Bool.eq_false_iff.2 hb1) ?_ ?_
 refine qR 6 [(1,.ptr 1 0),(2,.ptr 3 0),(11,.bool false)] [u.bx,.box [.own 2 0 l.length],.arr 1 (l.map (aa.int .i64)) (l.map (aa.int .i64)).length,t.bx] ?_ ?_
 refine dY kq kq ?_
 refine qk ?_ ?_
 refine aL (l:=[]) (.inl rfl) kq lw lw lw ?_ ?_
 refine Eq.trans (b:=[u.bx,.box [.own 2 0 l.length],.arr 1 (l.map (aa.int .i64)) (l.map (aa.int .i64)).length]) kq ?_
 rotate_left
 · first|(simp [ai.belO,hpN,Ty.v];done)|(unfold hpR;split <;> simp [ai.belO,hpN,Ty.v,-List.map_append])
 iterate 7 kernel_rfl
 all_goals
  unfold hpR
  first|(rw [if_pos ⟨by assumption,by assumption⟩];done)|(rw [if_pos ⟨by assumption,by assumption⟩];rfl)|(rw [if_neg (fun hc=>absurd hc.1 aq)];rfl)|(rw [if_neg (fun hc=>hc.2 aq)];rfl)
theorem sH (t u:Ty) (l:List Int) (hl:l.length<900000000):av cx 112 [t.v,.ptr 1 0] (hpN u l) (fun v h=>v=.tup []∧h=hpN u (bN l t)):=by
 refine wj [2] (Et t u l hl) ?_
 unfold hpR bN cN
 by_cases h1:isV t.kind t.n=true
 · by_cases h2:l.contains t.n=true
   · rw [if_neg (fun hc=>hc.2 h2),if_pos h1,if_pos h2];rfl
   · rw [if_pos ⟨h1,h2⟩,if_pos h1,if_neg h2];rfl
 · rw [if_neg (fun hc=>h1 hc.1),if_neg h1];rfl
theorem tS:∀ (ks:List Ty) (k:Nat),k<ks.length→Ty.szL (ks.take k)+(ks.getD k Ty.zero).sz≤Ty.szL ks
 | [],k,h=>by simp at h
 | x::ks,0,_=>by simp only [List.take_zero,Ty.szL,List.getD_cons_zero];omega
 | x::ks,k+1,h=>by have:=tS ks k (by simpa using h);simp only [List.take_succ_cons,Ty.szL,List.getD_cons_succ];omega
theorem kI {p:Prop} (h:p:=by simp [ai.belO,hpN,Ty.v]):p:=h
theorem IX {p:Prop} (h:p:=by exact congrArg (fun q=>hpN u q++[t.bx]) (yf _ t.kids k oq).symm):p:=h
theorem xy (t u:Ty) (l:List Int) (hs:t.sz<100000000) (hl:l.length+t.sz<800000000):av cx 54 [Ty.v t,.fn (.func 112) [] [.ptr 1 0]] (hpN u l) (fun v h=>v=(.tup [])∧h=hpN u (aD l t)):=by
 induction hN:t.sz using Nat.strongRecOn generalizing t u l with|_ N ih =>
 have ihV:∀ (t' u:Ty) (l:List Int),t'.sz<t.sz→l.length+t'.sz<800000000→av cx 54 [t'.v,.fn (.func 112) [] [.ptr 1 0]] (hpN u l) (fun v h=>v=.tup []∧h=hpN u (aD l t')):=fun t' u l h1 h2=>ih _ (by rw [← hN];exact h1) t' u l oq h2 rfl
 have hz2:=ct t
 have hzz:=gP t
 have hsl:=Bj l t
 refine ap (cx:=cx) 29 3 [] Tryz.func54 rfl rfl rfl rfl rfl zq ?_
 show wpA cx 29 3 (at_ c54 []) _ _ _
 refine qZ [(0,Ty.v t),(1,.fn (.func 112) [] [.ptr 1 0])] [u.bx,.box [.own 2 0 l.length],.arr 1 (l.map (aa.int .i64)) (l.map (aa.int .i64)).length] ?_ ?_
 refine qW 1 [(1,.fn (.func 112) [] [.ptr 1 0]),(2,.ptr 3 0)] [u.bx,.box [.own 2 0 l.length],.arr 1 (l.map (aa.int .i64)) (l.map (aa.int .i64)).length,t.bx] ?_ ?_
 refine ar ?_ ?_
 refine qU 3 [(1,.fn (.func 112) [] [.ptr 1 0]),(2,.ptr 3 0),(8,.bool ((t.kind) != 5))] ?_ ?_
 by_cases hb1:(t.kind)=5
 refine qf (x:=((t.kind) != 5)) (bne_eq_false_iff_eq.2 hb1) ?_ ?_
 refine qK ?_ ?_
 refine qz [(1,.fn (.func 112) [] [.ptr 1 0]),(2,.ptr 3 0)] ?_ ?_
 refine ar ?_ ?_
 refine qV 2 ?_ ?_
 refine qy (au (l:=t.kids) (enc:=Ty.enc) kq bf) ?_ ?_ ?_
 refine qR 1 [(1,.fn (.func 112) [] [.ptr 1 0]),(2,.ptr 3 0),(13,.imm (t.kids.map Ty.enc)),(14,nI t.kids.length),(15,.int .i64 0)] [u.bx,.box [.own 2 0 l.length],.arr 1 (l.map (aa.int .i64)) (l.map (aa.int .i64)).length,t.bx] ?_ ?_
 refine qB 0 ?_ ?_ ?_
 refine bR (σ:=Nat) (fun k=>[(1,.fn (.func 112) [] [.ptr 1 0]),(2,.ptr 3 0),(13,.imm (t.kids.map Ty.enc)),(14,.int .i64 ((t.kids.length:Nat):Int)),(15,.int .i64 ((k:Nat):Int))]) (fun k=>[u.bx,.box [.own 2 0 (bj l (t.kids.take k)).length],.arr 1 ((bj l (t.kids.take k)).map (aa.int .i64)) ((bj l (t.kids.take k)).map (aa.int .i64)).length,t.bx]) (fun k=>k≤t.kids.length) (fun k=>t.kids.length - k) 0 kq (by exact Nat.zero_le _) ⟨⟨kq,kq,kq,kq,kq,trivial⟩,by simp [aV,aa.bel],by simp,kq,by simp [ai.belO]⟩ ?_
 rintro k hk
 have hvl:=ta l (t.kids.take k)
 have hst:=ie t.kids k
 have hkd:=fun h=>tS t.kids k h
 refine qW 1 [(1,.fn (.func 112) [] [.ptr 1 0]),(2,.ptr 3 0),(13,.imm (t.kids.map Ty.enc)),(14,nI t.kids.length),(15,nI k),(16,.bool (decide (((k:Nat):Int)<((t.kids.length:Nat):Int))))] [u.bx,.box [.own 2 0 (bj l (t.kids.take k)).length],.arr 1 ((bj l (t.kids.take k)).map (aa.int .i64)) ((bj l (t.kids.take k)).map (aa.int .i64)).length,t.bx] ?_ ?_
 refine ar ?_ ?_
 by_cases hb2:((k:Nat):Int)<((t.kids.length:Nat):Int)
 refine qt (decide_eq_true hb2) ?_ ?_
 refine qK ?_ ?_
 refine qz [(1,.fn (.func 112) [] [.ptr 1 0]),(2,.ptr 3 0),(13,.imm (t.kids.map Ty.enc)),(14,nI t.kids.length),(15,nI k)] ?_ ?_
 refine ar ?_ ?_
 refine qB 1 ?_ ?_ ?_
 refine qO ?_ ?_
 refine qy ((ax (k:=.i64) (l:=t.kids) (enc:=Ty.enc) (i:=((k:Nat):Int)) Ty.zero kq bf bX bg oq oq).trans (congrArg (fun cs=>some (aa.pimm cs 0,_)) (aO (t.kids.getD k Ty.zero)))) ?_ ?_ ?_
 refine qR 3 [(1,.fn (.func 112) [] [.ptr 1 0]),(2,.ptr 3 0),(5,.ptr 4 0),(13,.imm (t.kids.map Ty.enc)),(14,nI t.kids.length),(15,nI k)] [u.bx,.box [.own 2 0 (bj l (t.kids.take k)).length],.arr 1 ((bj l (t.kids.take k)).map (aa.int .i64)) ((bj l (t.kids.take k)).map (aa.int .i64)).length,t.bx,(t.kids.getD k Ty.zero).bx] ?_ ?_
 refine qo ?_ ?_
 refine qr 2 ?_ ?_
 refine aT (args:=[.agg [.int .i64 ((t.kids.getD k Ty.zero).kind),.str (t.kids.getD k Ty.zero).name,.int .i64 ((t.kids.getD k Ty.zero).n),.imm ((t.kids.getD k Ty.zero).names.map aa.str),.imm ((t.kids.getD k Ty.zero).kids.map Ty.enc)],.fn (.func 112) [] [.ptr 1 0]]) (hs:=[u.bx,.box [.own 2 0 (bj l (t.kids.take k)).length],.arr 1 ((bj l (t.kids.take k)).map (aa.int .i64)) ((bj l (t.kids.take k)).map (aa.int .i64)).length]) (hs':=[u.bx,.box [.own 2 0 (aD (bj l (t.kids.take k)) (t.kids.getD k Ty.zero)).length],.arr 1 ((aD (bj l (t.kids.take k)) (t.kids.getD k Ty.zero)).map (aa.int .i64)) ((aD (bj l (t.kids.take k)) (t.kids.getD k Ty.zero)).map (aa.int .i64)).length]) (aM:=[t.bx,(t.kids.getD k Ty.zero).bx]) kq kq kq kq kq (ihV (t.kids.getD k Ty.zero) u (bj l (t.kids.take k)) oq oq) kI kI rfl kI kI kq ?_
 refine qe ?_ ?_
 refine ak ?_
 refine ab ?_
 refine qZ [(1,.fn (.func 112) [] [.ptr 1 0]),(2,.ptr 3 0),(13,.imm (t.kids.map Ty.enc)),(14,nI t.kids.length),(15,nI k)] [u.bx,.box [.own 2 0 (aD (bj l (t.kids.take k)) (t.kids.getD k Ty.zero)).length],.arr 1 ((aD (bj l (t.kids.take k)) (t.kids.getD k Ty.zero)).map (aa.int .i64)) ((aD (bj l (t.kids.take k)) (t.kids.getD k Ty.zero)).map (aa.int .i64)).length,t.bx,(t.kids.getD k Ty.zero).bx] ?_ ?_
 refine qo ?_ ?_
 refine qy (aN (a:=((k:Nat):Int)) (b:=1) kq oq oq) ?_ ?_ ?_
 refine qr 1 ?_ ?_
 refine qe ?_ ?_
 refine ab ⟨k+1,?_,?_,⟨⟨kq,kq,kq,kq,kq,trivial⟩,by simp [aV,aa.bel],by simp,(Eq.trans (b:=[u.bx,.box [.own 2 0 (aD (bj l (t.kids.take k)) (t.kids.getD k Ty.zero)).length],.arr 1 ((aD (bj l (t.kids.take k)) (t.kids.getD k Ty.zero)).map (aa.int .i64)) ((aD (bj l (t.kids.take k)) (t.kids.getD k Ty.zero)).map (aa.int .i64)).length,t.bx]) kq IX),by simp [ai.belO]⟩⟩
 · omega
 · omega
 iterate 19 kernel_rfl
 refine qf (decide_eq_false hb2) ?_ ?_
 refine bC 0 kq kq ?_
 refine af ?_
 refine af ?_
 refine aA ?_
 refine ab ?_
 refine qz [(1,.fn (.func 112) [] [.ptr 1 0]),(2,.ptr 3 0)] ?_ ?_
 refine qU 3 [(1,.fn (.func 112) [] [.ptr 1 0]),(2,.ptr 3 0),(25,.bool ((t.kind)==5))] ?_ ?_
 refine qt (beq_iff_eq.2 hb1) ?_ ?_
 refine qo ?_ ?_
 refine qr 2 ?_ ?_
 refine aT (args:=[.agg [.int .i64 (t.kind),.str t.name,.int .i64 (t.n),.imm (t.names.map aa.str),.imm (t.kids.map Ty.enc)],.ptr 1 0]) (hs:=[u.bx,.box [.own 2 0 (bj l (t.kids.take k)).length],.arr 1 ((bj l (t.kids.take k)).map (aa.int .i64)) ((bj l (t.kids.take k)).map (aa.int .i64)).length]) (hs':=[u.bx,.box [.own 2 0 (bN (bj l (t.kids.take k)) t).length],.arr 1 ((bN (bj l (t.kids.take k)) t).map (aa.int .i64)) ((bN (bj l (t.kids.take k)) t).map (aa.int .i64)).length]) (aM:=[t.bx]) kq kq kq kq kq (sH t u (bj l (t.kids.take k)) oq) kI kI rfl kI kI kq ?_
 refine qe ?_ ?_
 refine aL (l:=[]) (.inl rfl) kq lw lw lw ?_ ?_
 refine Eq.trans (b:=[u.bx,.box [.own 2 0 (bN (bj l (t.kids.take k)) t).length],.arr 1 ((bN (bj l (t.kids.take k)) t).map (aa.int .i64)) ((bN (bj l (t.kids.take k)) t).map (aa.int .i64)).length]) kq ?_
 rotate_left
 · simp [ai.belO,hpN,Ty.v]
 iterate 19 kernel_rfl
 refine qt (x:=((t.kind) != 5)) (bne_iff_ne.2 hb1) ?_ ?_
 refine qo ?_ ?_
 refine qr 2 ?_ ?_
 refine aT (args:=[.agg [.int .i64 (t.kind),.str t.name,.int .i64 (t.n),.imm (t.names.map aa.str),.imm (t.kids.map Ty.enc)],.ptr 1 0]) (hs:=[u.bx,.box [.own 2 0 l.length],.arr 1 (l.map (aa.int .i64)) (l.map (aa.int .i64)).length]) (hs':=[u.bx,.box [.own 2 0 (bN l t).length],.arr 1 ((bN l t).map (aa.int .i64)) ((bN l t).map (aa.int .i64)).length]) (aM:=[t.bx]) kq kq kq kq kq (sH t u l oq) kI kI rfl kI kI kq ?_
 refine qN [(1,.fn (.func 112) [] [.ptr 1 0]),(2,.ptr 3 0)] [u.bx,.box [.own 2 0 (bN l t).length],.arr 1 ((bN l t).map (aa.int .i64)) ((bN l t).map (aa.int .i64)).length,t.bx] ?_ ?_
 refine ar ?_ ?_
 refine qV 2 ?_ ?_
 refine qy (au (l:=t.kids) (enc:=Ty.enc) kq bf) ?_ ?_ ?_
 refine qR 1 [(1,.fn (.func 112) [] [.ptr 1 0]),(2,.ptr 3 0),(13,.imm (t.kids.map Ty.enc)),(14,nI t.kids.length),(15,.int .i64 0)] [u.bx,.box [.own 2 0 (bN l t).length],.arr 1 ((bN l t).map (aa.int .i64)) ((bN l t).map (aa.int .i64)).length,t.bx] ?_ ?_
 refine qB 0 ?_ ?_ ?_
 refine bR (σ:=Nat) (fun k=>[(1,.fn (.func 112) [] [.ptr 1 0]),(2,.ptr 3 0),(13,.imm (t.kids.map Ty.enc)),(14,.int .i64 ((t.kids.length:Nat):Int)),(15,.int .i64 ((k:Nat):Int))]) (fun k=>[u.bx,.box [.own 2 0 (bj (bN l t) (t.kids.take k)).length],.arr 1 ((bj (bN l t) (t.kids.take k)).map (aa.int .i64)) ((bj (bN l t) (t.kids.take k)).map (aa.int .i64)).length,t.bx]) (fun k=>k≤t.kids.length) (fun k=>t.kids.length - k) 0 kq (by exact Nat.zero_le _) ⟨⟨kq,kq,kq,kq,kq,trivial⟩,by simp [aV,aa.bel],by simp,kq,by simp [ai.belO]⟩ ?_
 rintro k hk
 have hvl:=ta (bN l t) (t.kids.take k)
 have hst:=ie t.kids k
 have hkd:=fun h=>tS t.kids k h
 refine qW 1 [(1,.fn (.func 112) [] [.ptr 1 0]),(2,.ptr 3 0),(13,.imm (t.kids.map Ty.enc)),(14,nI t.kids.length),(15,nI k),(16,.bool (decide (((k:Nat):Int)<((t.kids.length:Nat):Int))))] [u.bx,.box [.own 2 0 (bj (bN l t) (t.kids.take k)).length],.arr 1 ((bj (bN l t) (t.kids.take k)).map (aa.int .i64)) ((bj (bN l t) (t.kids.take k)).map (aa.int .i64)).length,t.bx] ?_ ?_
 refine ar ?_ ?_
 by_cases hb4:((k:Nat):Int)<((t.kids.length:Nat):Int)
 refine qt (decide_eq_true hb4) ?_ ?_
 refine qK ?_ ?_
 refine qz [(1,.fn (.func 112) [] [.ptr 1 0]),(2,.ptr 3 0),(13,.imm (t.kids.map Ty.enc)),(14,nI t.kids.length),(15,nI k)] ?_ ?_
 refine ar ?_ ?_
 refine qB 1 ?_ ?_ ?_
 refine qO ?_ ?_
 refine qy ((ax (k:=.i64) (l:=t.kids) (enc:=Ty.enc) (i:=((k:Nat):Int)) Ty.zero kq bf bX bg oq oq).trans (congrArg (fun cs=>some (aa.pimm cs 0,_)) (aO (t.kids.getD k Ty.zero)))) ?_ ?_ ?_
 refine qR 3 [(1,.fn (.func 112) [] [.ptr 1 0]),(2,.ptr 3 0),(5,.ptr 4 0),(13,.imm (t.kids.map Ty.enc)),(14,nI t.kids.length),(15,nI k)] [u.bx,.box [.own 2 0 (bj (bN l t) (t.kids.take k)).length],.arr 1 ((bj (bN l t) (t.kids.take k)).map (aa.int .i64)) ((bj (bN l t) (t.kids.take k)).map (aa.int .i64)).length,t.bx,(t.kids.getD k Ty.zero).bx] ?_ ?_
 refine qo ?_ ?_
 refine qr 2 ?_ ?_
 refine aT (args:=[.agg [.int .i64 ((t.kids.getD k Ty.zero).kind),.str (t.kids.getD k Ty.zero).name,.int .i64 ((t.kids.getD k Ty.zero).n),.imm ((t.kids.getD k Ty.zero).names.map aa.str),.imm ((t.kids.getD k Ty.zero).kids.map Ty.enc)],.fn (.func 112) [] [.ptr 1 0]]) (hs:=[u.bx,.box [.own 2 0 (bj (bN l t) (t.kids.take k)).length],.arr 1 ((bj (bN l t) (t.kids.take k)).map (aa.int .i64)) ((bj (bN l t) (t.kids.take k)).map (aa.int .i64)).length]) (hs':=[u.bx,.box [.own 2 0 (aD (bj (bN l t) (t.kids.take k)) (t.kids.getD k Ty.zero)).length],.arr 1 ((aD (bj (bN l t) (t.kids.take k)) (t.kids.getD k Ty.zero)).map (aa.int .i64)) ((aD (bj (bN l t) (t.kids.take k)) (t.kids.getD k Ty.zero)).map (aa.int .i64)).length]) (aM:=[t.bx,(t.kids.getD k Ty.zero).bx]) kq kq kq kq kq (ihV (t.kids.getD k Ty.zero) u (bj (bN l t) (t.kids.take k)) oq oq) kI kI rfl kI kI kq ?_
 refine qe ?_ ?_
 refine ak ?_
 refine ab ?_
 refine qZ [(1,.fn (.func 112) [] [.ptr 1 0]),(2,.ptr 3 0),(13,.imm (t.kids.map Ty.enc)),(14,nI t.kids.length),(15,nI k)] [u.bx,.box [.own 2 0 (aD (bj (bN l t) (t.kids.take k)) (t.kids.getD k Ty.zero)).length],.arr 1 ((aD (bj (bN l t) (t.kids.take k)) (t.kids.getD k Ty.zero)).map (aa.int .i64)) ((aD (bj (bN l t) (t.kids.take k)) (t.kids.getD k Ty.zero)).map (aa.int .i64)).length,t.bx,(t.kids.getD k Ty.zero).bx] ?_ ?_
 refine qo ?_ ?_
 refine qy (aN (a:=((k:Nat):Int)) (b:=1) kq oq oq) ?_ ?_ ?_
 refine qr 1 ?_ ?_
 refine qe ?_ ?_
 refine ab ⟨k+1,?_,?_,⟨⟨kq,kq,kq,kq,kq,trivial⟩,by simp [aV,aa.bel],by simp,(Eq.trans (b:=[u.bx,.box [.own 2 0 (aD (bj (bN l t) (t.kids.take k)) (t.kids.getD k Ty.zero)).length],.arr 1 ((aD (bj (bN l t) (t.kids.take k)) (t.kids.getD k Ty.zero)).map (aa.int .i64)) ((aD (bj (bN l t) (t.kids.take k)) (t.kids.getD k Ty.zero)).map (aa.int .i64)).length,t.bx]) kq IX),by simp [ai.belO]⟩⟩
 · omega
 · omega
 iterate 19 kernel_rfl
 refine qf (decide_eq_false hb4) ?_ ?_
 refine bC 0 kq kq ?_
 refine af ?_
 refine af ?_
 refine aA ?_
 refine ab ?_
 refine qz [(1,.fn (.func 112) [] [.ptr 1 0]),(2,.ptr 3 0)] ?_ ?_
 refine qU 3 [(1,.fn (.func 112) [] [.ptr 1 0]),(2,.ptr 3 0),(25,.bool ((t.kind)==5))] ?_ ?_
 refine qf (beq_eq_false_iff_ne.2 hb1) ?_ ?_
 refine qk ?_ ?_
 refine aL (l:=[]) (.inl rfl) kq lw lw lw ?_ ?_
 refine Eq.trans (b:=[u.bx,.box [.own 2 0 (bj (bN l t) (t.kids.take k)).length],.arr 1 ((bj (bN l t) (t.kids.take k)).map (aa.int .i64)) ((bj (bN l t) (t.kids.take k)).map (aa.int .i64)).length]) kq ?_
 rotate_left
 · simp [ai.belO,hpN,Ty.v]
 iterate 22 kernel_rfl
 all_goals
  refine congrArg (hpN u) ?_
  first|rw [CW l t aq,List.take_of_length_le oq]|rw [Es l t aq,List.take_of_length_le oq]
noncomputable def c76:Code:=aE Tryz.f76
theorem tW (t:Ty) (hs:t.sz<100000000):ay cx 76 [Ty.v t] (.imm ((aD [] t).map (aa.int .i64))):=by
 refine ap (cx:=cx) 8 0 [(ResultVar.tmp 2)] Tryz.func76 rfl rfl rfl rfl rfl zq ?_
 show wpA cx 8 0 (at_ c76 []) _ _ _
 refine qZ [(0,Ty.v t)] [] ?_ ?_
 refine qW 2 [(1,.ptr 0 0)] [t.bx] ?_ ?_
 refine qW 1 [(1,.ptr 0 0),(3,.ptr 1 0)] [t.bx,.box [.full []]] ?_ ?_
 refine mo 1 0 1 (cs:=[.full []]) [.own 2 0 0] dq kq kq kq ?_
 refine qZ [(1,.ptr 0 0),(3,.ptr 1 0)] [t.bx,.box [.own 2 0 0],.arr 1 (([]:List (Int)).map (aa.int .i64)) 0] ?_ ?_
 refine qV 2 ?_ ?_
 refine cM (args:=[.agg [.int .i64 (t.kind),.str t.name,.int .i64 (t.n),.imm (t.names.map aa.str),.imm (t.kids.map Ty.enc)],.fn (.func 112) [] [.ptr 1 0]]) (v:=.tup []) (h':=[t.bx,.box [.own 2 0 (aD [] t).length],.arr 1 ((aD [] t).map (aa.int .i64)) ((aD [] t).map (aa.int .i64)).length]) [t.bx,.box [.own 2 0 0],.arr 1 (([]:List (Int)).map (aa.int .i64)) 0] kq kq kq kq kq (xy t t [] hs (by simp;omega)) ?_
 refine qN [(3,.ptr 1 0)] [t.bx,.box [.own 2 0 (aD [] t).length],.arr 1 ((aD [] t).map (aa.int .i64)) ((aD [] t).map (aa.int .i64)).length] ?_ ?_
 refine qU 2 [(2,.own 2 0 (aD [] t).length)] ?_ ?_
 refine bb kq ?_
 refine eP (l:=[.own 2 0 (aD [] t).length]) (.inr rfl) kq ?_
 · simp [aK,aa.frz,bo]
 iterate 7 kernel_rfl
theorem y7 (l:List (List UInt8)) (hl:l.length<1000000000):av cx 84 [.imm (l.map .str)] [] (fun v h=>v=.own 0 0 l.length∧h=[.arr 1 (l.map .str) 0]):=by
 have:=zX (l.map .str) [] (tn (fun _=>rfl) l) (by simp [jp];omega) rfl zq
 simpa using this
theorem Hj (l:List Ty) (hl:l.length<1000000000):av cx 109 [.imm (l.map Ty.enc)] [] (fun v h=>v=.own 0 0 l.length∧h=[.arr 5 (l.map Ty.enc) 0]):=by
 have:=yb (l.map Ty.enc) [] (tn (fun q=>by rw [Ty.enc_v];rfl) l) (by simp [jp];omega) rfl zq
 simpa using this
theorem Ez (l:List Ty) (k:Nat):l.set k (l.getD k Ty.zero)=l:=by
 by_cases h:k<l.length
 · rw [List.getD_eq_getElem?_getD,List.getElem?_eq_getElem h];exact List.set_getElem_self h
 · exact List.set_eq_of_length_le oq
theorem wR {t:Ty} (h:av cx 67 [t.v] [] (fun v h=>v=xn t∧h=xG t)):ay cx 67 [t.v] t.v:=jE h (by rintro _ _ ⟨rfl,rfl⟩;exact wX t) zq
noncomputable def c67:Code:=aE Tryz.f67
theorem sf {p:Prop} (h:p:=by simp [aa.frz,bo,aa.ren,bV,dB,ai.ren,bc,cb,aS,aa.owns]):p:=h
theorem EG {p:Prop} (h:p:=by simp [-List.map_append,-List.map_take,-List.map_drop,-List.append_assoc,aa.refs,cY,ai.refs,ai.isIter,kZ,Abs.renT,ee,lh,ai.ren,aa.ren,bV,List.idxOf_cons]):p:=h
theorem sP (t:Ty) (hs:t.sz<100000000):av cx 67 [Ty.v t] [] (fun v h=>v=xn t∧h=xG t):=by
 induction hN:t.sz using Nat.strongRecOn generalizing t with|_ N ih =>
 have ihC:∀ x:Ty,x.sz<t.sz→ay cx 67 [x.v] x.v:=fun x h1=>wR (ih _ (by rw [← hN];exact h1) x (Nat.lt_trans h1 hs) rfl)
 have hz1:=bK t
 have hz2:=ct t
 refine dF (cx:=cx) 30 0 [(ResultVar.cell 2 25)] Tryz.func67 rfl rfl rfl rfl rfl zq ?_
 show wpA cx 30 0 (at_ c67 []) _ _ _
 refine qZ [(0,Ty.v t)] [] ?_ ?_
 refine qW 2 [(1,.ptr 0 0),(2,.ptr 1 0)] [t.bx,.box zC] ?_ ?_
 refine ar ?_ ?_
 refine cK cxM kq aB (bv ?_)
 refine qu 2 ?_ ?_
 refine uy (args:=[.imm (t.names.map aa.str)]) (args':=[.imm (t.names.map aa.str)]) (V':=.own 2 0 t.names.length) (F:=[t.bx,.box zC]) (G':=[.arr 1 (t.names.map aa.str) 0]) (L:=[2]) kq kq kq kq kq (y7 t.names oq) [t.bx,.box zC] kq sf sf zq sf sf sf (by simp [l9,aS,aa.owns]) ?_
 refine qu 2 ?_ ?_
 refine uy (args:=[.imm (t.kids.map Ty.enc)]) (args':=[.imm (t.kids.map Ty.enc)]) (V':=.own 3 0 t.kids.length) (F:=[t.bx,.box zC,.arr 1 (t.names.map aa.str) 0]) (G':=[.arr 5 (t.kids.map Ty.enc) 0]) (L:=[3]) kq kq kq kq kq (Hj t.kids oq) [t.bx,.box zC,.arr 1 (t.names.map aa.str) 0] kq sf sf zq sf sf sf (by simp [l9,aS,aa.owns]) ?_
 refine qu 4 ?_ ?_
 refine cn kq ⟨kq,?_⟩
 refine ab ?_
 refine qZ [(1,.ptr 0 0),(2,.ptr 1 0)] [.box [.int .i64 (t.kind),.str t.name,.int .i64 (t.n),.own 2 0 t.names.length,.own 3 0 t.kids.length],.box zC,.arr 1 (t.names.map aa.str) 0,.arr 5 (t.kids.map Ty.enc) 0] ?_ ?_
 refine sD 0 3 2 (cs:=[.int .i64 (t.kind),.str t.name,.int .i64 (t.n),.own 2 0 t.names.length,.own 3 0 t.kids.length]) (es:=(t.names.map aa.str)) (off:=0) (len:=t.names.length) (sz:=1) (fr:=0) [.int .i64 (t.kind),.str t.name,.int .i64 (t.n),.imm (t.names.map aa.str),.own 3 0 t.kids.length] (t.names.map aa.str) dq kq kq kq zq kq kq ?_
 refine qZ [(1,.ptr 0 0),(2,.ptr 1 0)] [.box [.int .i64 (t.kind),.str t.name,.int .i64 (t.n),.imm (t.names.map aa.str),.own 3 0 t.kids.length],.box zC,.arr 1 (t.names.map aa.str) (t.names.map aa.str).length,.arr 5 (t.kids.map Ty.enc) 0] ?_ ?_
 refine ar ?_ ?_
 refine qV 2 ?_ ?_
 refine qy (mz (o:=3) (off:=0) (len:=t.kids.length) (sz:=5) (es:=(t.kids.map Ty.enc)) (fr:=0) kq bf kq zq) ?_ ?_ ?_
 refine qR 1 [(1,.ptr 0 0),(2,.ptr 1 0),(14,nI t.kids.length),(15,.int .i64 0)] [.box [.int .i64 (t.kind),.str t.name,.int .i64 (t.n),.imm (t.names.map aa.str),.own 3 0 t.kids.length],.box zC,.arr 1 (t.names.map aa.str) (t.names.map aa.str).length,.arr 5 (t.kids.map Ty.enc) 0] ?_ ?_
 refine qB 0 ?_ ?_ ?_
 refine bR (σ:=Nat) (fun k=>[(1,.ptr 0 0),(2,.ptr 1 0),(14,.int .i64 ((t.kids.length:Nat):Int)),(15,.int .i64 ((k:Nat):Int))]) (fun k=>[.box [.int .i64 (t.kind),.str t.name,.int .i64 (t.n),.imm (t.names.map aa.str),.own 3 0 t.kids.length],.box zC,.arr 1 (t.names.map aa.str) (t.names.map aa.str).length,.arr 5 (t.kids.map Ty.enc) 0]) (fun k=>k≤t.kids.length) (fun k=>t.kids.length - k) 0 kq (by exact Nat.zero_le _) ⟨⟨kq,kq,kq,kq,trivial⟩,by simp [aV,aa.bel],by simp,kq,by simp [ai.belO]⟩ ?_
 rintro k hk
 refine qW 1 [(1,.ptr 0 0),(2,.ptr 1 0),(14,nI t.kids.length),(15,nI k),(16,.bool (decide (((k:Nat):Int)<((t.kids.length:Nat):Int))))] [.box [.int .i64 (t.kind),.str t.name,.int .i64 (t.n),.imm (t.names.map aa.str),.own 3 0 t.kids.length],.box zC,.arr 1 (t.names.map aa.str) (t.names.map aa.str).length,.arr 5 (t.kids.map Ty.enc) 0] ?_ ?_
 refine ar ?_ ?_
 by_cases hb1:((k:Nat):Int)<((t.kids.length:Nat):Int)
 refine qt (decide_eq_true hb1) ?_ ?_
 refine qK ?_ ?_
 refine qz [(1,.ptr 0 0),(2,.ptr 1 0),(14,nI t.kids.length),(15,nI k)] ?_ ?_
 refine ar ?_ ?_
 refine qB 1 ?_ ?_ ?_
 refine qU 2 [(1,.ptr 0 0),(2,.ptr 1 0),(3,nI k),(14,nI t.kids.length),(15,nI k)] ?_ ?_
 refine cK cxM kq (lG aB) (bv ?_)
 refine qu 6 ?_ ?_
 refine qd (lQ (k:=.i64) (i:=((k:Nat):Int)) (o:=3) (off:=0) (len:=t.kids.length) (sz:=5) (fr:=0) (es:=(t.kids.map Ty.enc)) kq bf bX kq rfl zq oq oq) ?_ ?_ ?_ ?_
 refine qd (uB (t:=25) (o:=3) (idx:=(0+k)) (off:=0) (k:=((t.kids.map Ty.enc).length)) (sz:=5) (fr:=0) (es:=(t.kids.map Ty.enc)) (x:=Ty.enc (t.kids.getD (0+k) Ty.zero)) (v:=.agg [.int .i64 ((t.kids.getD (0+k) Ty.zero).kind),.str (t.kids.getD (0+k) Ty.zero).name,.int .i64 ((t.kids.getD (0+k) Ty.zero).n),.imm ((t.kids.getD (0+k) Ty.zero).names.map aa.str),.imm ((t.kids.getD (0+k) Ty.zero).kids.map Ty.enc)]) kq kq zq (uf _ _ _ _ oq) (by rw [aO];exact kq)) ?_ ?_ ?_ ?_
 refine cB (args:=[.agg [.int .i64 ((t.kids.getD (0+k) Ty.zero).kind),.str (t.kids.getD (0+k) Ty.zero).name,.int .i64 ((t.kids.getD (0+k) Ty.zero).n),.imm ((t.kids.getD (0+k) Ty.zero).names.map aa.str),.imm ((t.kids.getD (0+k) Ty.zero).kids.map Ty.enc)]]) kq kq kq kq kq (ihC (t.kids.getD (0+k) Ty.zero) (b9 t _ oq)) (by intro _;simp [Ty.v,bm,Occ.v]) (by simp [Ty.v]) (by simp [Ty.v,a7]) ?_
 refine qd (lQ (k:=.i64) (i:=((k:Nat):Int)) (o:=3) (off:=0) (len:=t.kids.length) (sz:=5) (fr:=0) (es:=(t.kids.map Ty.enc)) kq bf bX kq rfl zq oq oq) ?_ ?_ ?_ ?_
 refine qD (AF (o:=3) (k:=((t.kids.map Ty.enc).length)) (x:=Ty.v (t.kids.getD (0+k) Ty.zero)) (enc:=Ty.enc) (l:=t.kids) (X:=(t.kids.getD (0+k) Ty.zero)) (d:=Ty.zero) (idx:=(0+k)) (sz:=5) kq (Ty.enc_v (t.kids.getD (0+k) Ty.zero)).symm kq zq oq bX El AQ) ?_ ?_ ?_ ?_
 refine cn kq ⟨kq,?_⟩
 refine ak ?_
 refine ab ?_
 refine qZ [(1,.ptr 0 0),(2,.ptr 1 0),(14,nI t.kids.length),(15,nI k)] [.box [.int .i64 (t.kind),.str t.name,.int .i64 (t.n),.imm (t.names.map aa.str),.own 3 0 t.kids.length],.box zC,.arr 1 (t.names.map aa.str) (t.names.map aa.str).length,.arr 5 ((t.kids.set (0+k) (t.kids.getD (0+k) Ty.zero)).map Ty.enc) 0] ?_ ?_
 refine qo ?_ ?_
 refine qy (aN (a:=((k:Nat):Int)) (b:=1) kq oq oq) ?_ ?_ ?_
 refine qr 1 ?_ ?_
 refine qe ?_ ?_
 refine ab ⟨k+1,?_,?_,⟨⟨kq,kq,kq,kq,trivial⟩,by simp [aV,aa.bel],by simp,(Eq.trans (b:=[.box [.int .i64 (t.kind),.str t.name,.int .i64 (t.n),.imm (t.names.map aa.str),.own 3 0 t.kids.length],.box zC,.arr 1 (t.names.map aa.str) (t.names.map aa.str).length,.arr 5 ((t.kids.set (0+k) (t.kids.getD (0+k) Ty.zero)).map Ty.enc) 0]) kq (by rw [Ez])),by simp [ai.belO]⟩⟩
 · omega
 · omega
 iterate 26 kernel_rfl
 refine qf (decide_eq_false hb1) ?_ ?_
 refine bC 0 kq kq ?_
 refine af ?_
 refine af ?_
 refine aA ?_
 refine ab ?_
 refine qz [(1,.ptr 0 0),(2,.ptr 1 0)] ?_ ?_
 refine qW 2 [(2,.ptr 1 0)] [.box [.int .i64 (t.kind),.str t.name,.int .i64 (t.n),.imm (t.names.map aa.str),.own 3 0 t.kids.length],.box [.int .i64 (t.kind),.str t.name,.int .i64 (t.n),.imm (t.names.map aa.str),.own 3 0 t.kids.length],.arr 1 (t.names.map aa.str) (t.names.map aa.str).length,.arr 5 (t.kids.map Ty.enc) 0] ?_ ?_
 refine iB [3,1] [(2,.ptr 1 0)] [.arr 5 (t.kids.map Ty.enc) 0,.box [.int .i64 (t.kind),.str t.name,.int .i64 (t.n),.imm (t.names.map aa.str),.own 0 0 t.kids.length]] dq EG EG EG EG ?_
 refine qZ [(2,.ptr 1 0)] [.arr 5 (t.kids.map Ty.enc) 0,.box [.int .i64 (t.kind),.str t.name,.int .i64 (t.n),.imm (t.names.map aa.str),.own 0 0 t.kids.length]] ?_ ?_
 refine bb kq ?_
 refine dV (l:=[.agg [.int .i64 (t.kind),.str t.name,.int .i64 (t.n),.imm (t.names.map aa.str),.own 0 0 t.kids.length]]) 1 [.arr 5 (t.kids.map Ty.enc) 0] (.inr rfl) kq (Nat.zero_le _) kq (by simp [aK,-List.map_append,-List.map_take,-List.map_drop,-List.append_assoc]) (by simp [ai.belO,-List.map_append,-List.map_take,-List.map_drop,-List.append_assoc]) ?_
 · exact ⟨rfl,rfl⟩
 iterate 21 kernel_rfl
theorem ga (t:Ty) (hs:t.sz<100000000):ay cx 67 [t.v] t.v:=wR (sP t hs)
mutual
def renT (f:Int→Int):Ty→Ty
 | .mk k x n l ks=>.mk k x (if isV k n=true then f n else n) l (eO f ks)
def eO (f:Int→Int):List Ty→List Ty
 | []=>[]
 | t::l=>renT f t::eO f l
end
theorem eV (f:Int→Int):∀ l,eO f l=l.map (renT f)
 | []=>rfl
 | t::l=>by rw [eO,eV f l];rfl
theorem mU (f:Int→Int) (t:Ty):(renT f t).kind=t.kind:=by cases t;rfl
theorem ni (f:Int→Int) (t:Ty):(renT f t).name=t.name:=by cases t;rfl
theorem lz (f:Int→Int) (t:Ty):(renT f t).names=t.names:=by cases t;rfl
theorem yd (f:Int→Int) (t:Ty):(renT f t).n=if isV t.kind t.n=true then f t.n else t.n:=by cases t;rfl
theorem CH (f:Int→Int) (t:Ty):(renT f t).kids=t.kids.map (renT f):=by cases t;simp only [renT,Ty.kids_mk,eV]
def rkL (f:Int→Int) (ks:List Ty) (k:Nat):List Ty:=(ks.take k).map (renT f)++ks.drop k
@[simp] theorem Jl (f:Int→Int) (ks:List Ty) (k:Nat):(rkL f ks k).length=ks.length:=by simp [rkL];omega
abbrev At:=List (Int×Int)
@[simp] theorem Jp (k:Nat) (l:At):((ae (aa.int .i64) (aa.int .i64) l).all fun e=>e.1.bel k && e.2.bel k)=true:=by
 simp [ae,List.all_eq_true]
def Jb (m:At) (n:Int):Int:=(am n m).getD 0
def rnF (t:Ty) (k:Nat):List Int:=(((aF t).take k).map Occ.n).foldl cN []
theorem kl {α:Type} (l:List α) (k:Nat) (d:α) (h:k<l.length):l.take (k+1)=l.take k++[l.getD k d]:=by
 rw [List.take_succ_eq_append_getElem h,List.getD_eq_getElem?_getD,List.getElem?_eq_getElem h];rfl
theorem w8 {t:Ty} {k:Nat} (h:k<(aF t).length):rnF t (k+1)=cN (rnF t k) ((aF t).getD k Occ.zero).n:=by
 unfold rnF
 rw [kl _ k Occ.zero h,List.map_append,List.foldl_append];rfl
theorem D9 {t:Ty} {k:Nat} (h:k<(aF t).length) (hc:(rnF t k).contains ((aF t).getD k Occ.zero).n=true):rnF t k=rnF t (k+1):=by rw [w8 h,cN,if_pos hc]
theorem GE {t:Ty} {k:Nat} (h:k<(aF t).length) (hc:¬ (rnF t k).contains ((aF t).getD k Occ.zero).n=true):rnF t k++[((aF t).getD k Occ.zero).n]=rnF t (k+1):=by rw [w8 h,cN,if_neg hc]
theorem GX {t:Ty} {k:Nat} (h:(aF t).length≤k):rnF t k=aD [] t:=by unfold rnF aD;rw [List.take_of_length_le h]
theorem Hv (t:Ty) (k:Nat):(rnF t k).length≤k:=by
 have:=iE (((aF t).take k).map Occ.n) []
 rw [List.length_map,List.length_take] at this
 unfold rnF;simp only [List.length_nil] at this;omega
noncomputable def c35:Code:=aE Tryz.f35
theorem Jd {p:Prop} (h:p:=by simp only [List.length_append,List.length_map,List.length_cons,List.length_nil];omega):p:=h
theorem r7 (t:Ty) (hs:t.sz<100000000):ay cx 35 [Ty.v t] (.imm ((aD [] t).map (aa.int .i64))):=by
 have hol:=mq t
 refine ap (cx:=cx) 33 0 [(ResultVar.tmp 2)] Tryz.func35 rfl rfl rfl rfl rfl zq ?_
 show wpA cx 33 0 (at_ c35 []) _ _ _
 refine qZ [(0,Ty.v t)] [] ?_ ?_
 refine qW 2 [(1,.ptr 0 0)] [t.bx] ?_ ?_
 refine qV 1 ?_ ?_
 refine bp (args:=[.agg [.int .i64 (t.kind),.str t.name,.int .i64 (t.n),.imm (t.names.map aa.str),.imm (t.kids.map Ty.enc)]]) kq kq kq kq (Bv t oq) (by simp [Ty.v,bm,Occ.v]) (by simp [Ty.v]) (by simp [Ty.v,a7]) ?_
 refine qR 1 [(3,.imm ((aF t).map Occ.v))] [t.bx] ?_ ?_
 refine qU 1 [(3,.imm ((aF t).map Occ.v)),(4,.full [])] ?_ ?_
 refine pJ 4 1 dq kq ?_
 refine qZ [(3,.imm ((aF t).map Occ.v)),(4,.own 1 0 0)] [t.bx,.arr 1 (([]:List (Int)).map (aa.int .i64)) 0] ?_ ?_
 refine ar ?_ ?_
 refine qU 1 [(3,.imm ((aF t).map Occ.v)),(4,.own 1 0 0),(5,.int .i64 0)] ?_ ?_
 refine qB 0 ?_ ?_ ?_
 refine bR (σ:=Nat) (fun k=>[(3,.imm ((aF t).map Occ.v)),(4,.own 1 0 (rnF t k).length),(5,.int .i64 ((k:Nat):Int))]) (fun k=>[t.bx,.arr 1 ((rnF t k).map (aa.int .i64)) ((rnF t k).map (aa.int .i64)).length]) (fun k=>k≤(aF t).length) (fun k=>(aF t).length - k) 0 kq (by exact Nat.zero_le _) ⟨⟨kq,kq,kq,trivial⟩,by simp [aV,aa.bel],by simp,kq,by simp [ai.belO,-List.map_append]⟩ ?_
 rintro k hk
 have hrl:=Hv t k
 refine ar ?_ ?_
 refine qV 2 ?_ ?_
 refine qy (au (l:=(aF t)) (enc:=Occ.v) kq ng) ?_ ?_ ?_
 refine qR 1 [(3,.imm ((aF t).map Occ.v)),(4,.own 1 0 (rnF t k).length),(5,nI k),(12,.bool (decide (((k:Nat):Int)<(((aF t).length:Nat):Int))))] [t.bx,.arr 1 ((rnF t k).map (aa.int .i64)) ((rnF t k).map (aa.int .i64)).length] ?_ ?_
 by_cases hb1:((k:Nat):Int)<(((aF t).length:Nat):Int)
 refine qt (decide_eq_true hb1) ?_ ?_
 refine qK ?_ ?_
 refine qz [(3,.imm ((aF t).map Occ.v)),(4,.own 1 0 (rnF t k).length),(5,nI k)] ?_ ?_
 refine ar ?_ ?_
 refine qB 1 ?_ ?_ ?_
 refine qV 3 ?_ ?_
 refine qy (ax (k:=.i64) (l:=(aF t)) (enc:=Occ.v) (i:=((k:Nat):Int)) Occ.zero kq ng zN (fun _=>rfl) oq oq) ?_ ?_ ?_
 refine qr 2 ?_ ?_
 refine vZ (args:=[.own 1 0 (rnF t k).length,.int .i64 (((aF t).getD k Occ.zero).n)]) (F:=[t.bx,.arr 1 ((rnF t k).map (aa.int .i64)) ((rnF t k).map (aa.int .i64)).length]) kq kq kq kq (tg (rnF t k) (((aF t).getD k Occ.zero).n) oq) [t.bx,.arr 1 ((rnF t k).map (aa.int .i64)) ((rnF t k).map (aa.int .i64)).length] kq (by simp [bo,cb,aS,aa.frz,aa.owns]) (by simp [Ty.v]) (by simp [bo,cb,aS,aa.frz,aa.owns]) ?_
 refine qR 1 [(3,.imm ((aF t).map Occ.v)),(4,.own 1 0 (rnF t k).length),(5,nI k),(6,.bool ((rnF t k).contains (((aF t).getD k Occ.zero).n)))] [t.bx,.arr 1 ((rnF t k).map (aa.int .i64)) ((rnF t k).map (aa.int .i64)).length] ?_ ?_
 refine qU 2 [(3,.imm ((aF t).map Occ.v)),(4,.own 1 0 (rnF t k).length),(5,nI k),(23,.bool (!((rnF t k).contains (((aF t).getD k Occ.zero).n))))] ?_ ?_
 by_cases hb2:((rnF t k).contains (((aF t).getD k Occ.zero).n))=true
 refine qf (x:=(!((rnF t k).contains (((aF t).getD k Occ.zero).n)))) (congrArg not (hb2)) ?_ ?_
 refine qk ?_ ?_
 refine ak ?_
 refine ab ?_
 refine qz [(3,.imm ((aF t).map Occ.v)),(4,.own 1 0 (rnF t k).length),(5,nI k)] ?_ ?_
 refine vM 1 [t.bx,.arr 1 ((rnF t k).map (aa.int .i64)) ((rnF t k).map (aa.int .i64)).length] (by simp [cb]) ?_
 refine qz [(3,.imm ((aF t).map Occ.v)),(4,.own 1 0 (rnF t k).length),(5,nI k)] ?_ ?_
 refine qo ?_ ?_
 refine qr 1 ?_ ?_
 refine qy (aN (a:=((k:Nat):Int)) (b:=1) kq oq oq) ?_ ?_ ?_
 refine qr 1 ?_ ?_
 refine qe ?_ ?_
 refine ab ⟨k+1,?_,?_,⟨⟨kq,(Eq.trans (b:=.own 1 0 (rnF t k).length) kq (by rw [D9 oq aq])),kq,trivial⟩,by simp [aV,aa.bel],by simp,(Eq.trans (b:=[t.bx,.arr 1 ((rnF t k).map (aa.int .i64)) ((rnF t k).map (aa.int .i64)).length]) kq (by rw [D9 oq aq])),by simp [ai.belO,-List.map_append]⟩⟩
 · omega
 · omega
 iterate 10 kernel_rfl
 refine qt (x:=(!((rnF t k).contains (((aF t).getD k Occ.zero).n)))) (congrArg not (Bool.eq_false_iff.2 hb2)) ?_ ?_
 refine qo ?_ ?_
 refine qr 3 ?_ ?_
 refine qy (ax (k:=.i64) (l:=(aF t)) (enc:=Occ.v) (i:=((k:Nat):Int)) Occ.zero kq ng zN (fun _=>rfl) oq oq) ?_ ?_ ?_
 refine qr 3 ?_ ?_
 refine qY (bh (o:=1) (len:=((rnF t k).length)) (l:=(rnF t k)) (xs:=[(((aF t).getD k Occ.zero).n)]) (enc:=(aa.int .i64)) (sz:=1) (fr:=((rnF t k).map (aa.int .i64)).length) (x:=(.full [.int .i64 (((aF t).getD k Occ.zero).n)])) kq ff ty3 ff rfl kq rfl rfl kq ⟨by decide,by kernel_rfl⟩ (fun _=>rfl) Jd Jd) ?_ ?_ ?_
 refine qr 1 ?_ ?_
 refine qe ?_ ?_
 refine ak ?_
 refine ab ?_
 refine qZ [(3,.imm ((aF t).map Occ.v)),(4,.own 1 0 ((rnF t k)++[(((aF t).getD k Occ.zero).n)]).length),(5,nI k)] [t.bx,.arr 1 (((rnF t k)++[(((aF t).getD k Occ.zero).n)]).map (aa.int .i64)) ((rnF t k).map (aa.int .i64)).length] ?_ ?_
 refine vM 1 [t.bx,.arr 1 (((rnF t k)++[(((aF t).getD k Occ.zero).n)]).map (aa.int .i64)) (((rnF t k)++[(((aF t).getD k Occ.zero).n)]).map (aa.int .i64)).length] (by simp [cb]) ?_
 refine qZ [(3,.imm ((aF t).map Occ.v)),(4,.own 1 0 ((rnF t k)++[(((aF t).getD k Occ.zero).n)]).length),(5,nI k)] [t.bx,.arr 1 (((rnF t k)++[(((aF t).getD k Occ.zero).n)]).map (aa.int .i64)) (((rnF t k)++[(((aF t).getD k Occ.zero).n)]).map (aa.int .i64)).length] ?_ ?_
 refine qo ?_ ?_
 refine qr 1 ?_ ?_
 refine qy (aN (a:=((k:Nat):Int)) (b:=1) kq oq oq) ?_ ?_ ?_
 refine qr 1 ?_ ?_
 refine qe ?_ ?_
 refine ab ⟨k+1,?_,?_,⟨⟨kq,(Eq.trans (b:=.own 1 0 ((rnF t k)++[(((aF t).getD k Occ.zero).n)]).length) kq (by rw [GE oq aq])),kq,trivial⟩,by simp [aV,aa.bel],by simp,(Eq.trans (b:=[t.bx,.arr 1 (((rnF t k)++[(((aF t).getD k Occ.zero).n)]).map (aa.int .i64)) (((rnF t k)++[(((aF t).getD k Occ.zero).n)]).map (aa.int .i64)).length]) kq (by rw [GE oq aq])),by simp [ai.belO,-List.map_append]⟩⟩
 · omega
 · omega
 iterate 30 kernel_rfl
 refine qf (decide_eq_false hb1) ?_ ?_
 refine bC 0 kq kq ?_
 refine af ?_
 refine af ?_
 refine aA ?_
 refine ab ?_
 refine qz [(4,.own 1 0 (rnF t k).length)] ?_ ?_
 refine qU 2 [(2,.own 1 0 (rnF t k).length)] ?_ ?_
 refine bb kq ?_
 refine eP (l:=[.own 1 0 (rnF t k).length]) (.inr rfl) kq ?_
 · rw [GX oq]
   simp [aK,aa.frz,bo]
 iterate 18 kernel_rfl
def bt:List Int→List Int→Int→Int
 | x::F,y::G,n=>if x=n then y else bt F G n
 | _,_,n=>n
theorem As {n:Int}:∀ (F G:List Int) (j:Nat),(∀ i,i<j→¬ F.getD i 0=n)→j<F.length→F.length≤G.length→F.getD j 0=n→bt F G n=G.getD j 0
 | [],G,j,_,h,_,_=>by simp at h
 | x::F,[],j,_,_,h,_=>by simp at h
 | x::F,y::G,0,_,_,_,h=>by simp only [List.getD_cons_zero] at h ⊢;rw [bt,if_pos h]
 | x::F,y::G,j+1,ha,hj,hl,h=>by
  have h0:=ha 0 oq
  simp only [List.getD_cons_zero,List.getD_cons_succ] at h0 h ⊢
  rw [bt,if_neg h0]
  exact As F G j (fun i hi=>by have:=ha (i+1) oq;simpa only [List.getD_cons_succ] using this) (by simpa using hj) (by simpa using hl) h
theorem AA {n:Int}:∀ (F G:List Int),(∀ i,i<F.length→¬ F.getD i 0=n)→bt F G n=n
 | [],G,_=>by unfold bt;rfl
 | x::F,[],_=>by unfold bt;rfl
 | x::F,y::G,ha=>by
  have h0:=ha 0 zq
  simp only [List.getD_cons_zero] at h0
  rw [bt,if_neg h0]
  exact AA F G (fun i hi=>by have:=ha (i+1) (by simpa using hi);simpa only [List.getD_cons_succ] using this)
def rnK (f:Int→Int) (t:Ty) (k:Nat):List Ty:=(t.kids.take k).map (renT f)
theorem Ej {f:Int→Int} {t:Ty} {k:Nat} (h:k<t.kids.length):rnK f t k++[renT f (t.kids.getD k Ty.zero)]=rnK f t (k+1):=by
 unfold rnK;rw [e7 _ _ h,List.map_append];rfl
theorem Gy (f:Int→Int) (t:Ty) (k:Nat):(rnK f t k).length≤k:=by unfold rnK;rw [List.length_map,List.length_take];omega
theorem um {f:Int→Int} {t:Ty} {k:Nat} (h:t.kids.length≤k):rnK f t k=(renT f t).kids:=by rw [CH,rnK,List.take_of_length_le h]
theorem E0 {F G:List Int} {t:Ty} {j:Nat} (hv:t.kind=6∨t.kind=5∧¬ t.n=0) (ha:∀ i,i<j→¬ F.getD i 0=t.n) (hj:j<F.length) (hl:F.length≤G.length) (h:F.getD j 0=t.n):G.getD j 0=(renT (bt F G) t).n:=by
 rw [yd,if_pos (by unfold isV;rcases hv with h|h <;> simp [h]),As F G j ha hj hl h]
theorem FL {F G:List Int} {t:Ty} (ha:∀ i,i<F.length→¬ F.getD i 0=t.n):t.n=(renT (bt F G) t).n:=by
 rw [yd];split
 · rw [AA F G ha]
 · rfl
theorem Fi {F G:List Int} {t:Ty} (h6:¬ t.kind=6) (h5:¬ (t.kind=5∧¬ t.n=0)):t.n=(renT (bt F G) t).n:=by
 rw [yd,if_neg (by unfold isV;simp [h6];intro h;by_cases hn:t.n=0;exact hn;exact absurd ⟨h,hn⟩ h5)]
noncomputable def c32:Code:=aE Tryz.f32
theorem Is {p:Prop} (h:p:=by simp only [List.length_append,List.length_cons,List.length_nil];omega):p:=h
theorem wv (t:Ty) (F G:List Int) (hs:t.sz<100000000) (hF:F.length<1000000000) (hfg:F.length≤G.length):ay cx 32 [Ty.v t,.imm (F.map (aa.int .i64)),.imm (G.map (aa.int .i64))] (Ty.v (renT (bt F G) t)):=by
 induction hN:t.sz using Nat.strongRecOn generalizing t with|_ N ih =>
 have ihN:∀ x:Ty,x.sz<t.sz→ay cx 32 [x.v,.imm (F.map (.int .i64)),.imm (G.map (.int .i64))] (renT (bt F G) x).v:=fun x h1=>ih _ (by rw [← hN];exact h1) x (Nat.lt_trans h1 hs) rfl
 have hz1:=bK t
 have hz2:=ct t
 refine ap (cx:=cx) 65 0 [(ResultVar.cell 6 25)] Tryz.func32 rfl rfl rfl rfl rfl zq ?_
 show wpA cx 65 0 (at_ c32 []) _ _ _
 refine qZ [(0,Ty.v t),(1,.imm (F.map (aa.int .i64))),(2,.imm (G.map (aa.int .i64)))] [] ?_ ?_
 refine qW 2 [(1,.imm (F.map (aa.int .i64))),(2,.imm (G.map (aa.int .i64))),(3,.ptr 0 0),(6,.ptr 1 0)] [t.bx,.box zC] ?_ ?_
 refine qW 3 [(1,.imm (F.map (aa.int .i64))),(2,.imm (G.map (aa.int .i64))),(3,.ptr 0 0),(6,.ptr 1 0),(7,.ptr 2 0)] [t.bx,.box zC,t.bx] ?_ ?_
 refine qW 2 [(1,.imm (F.map (aa.int .i64))),(2,.imm (G.map (aa.int .i64))),(3,.ptr 0 0),(6,.ptr 1 0),(7,.ptr 2 0)] [t.bx,.box zC,.box [.int .i64 (t.kind),.str t.name,.int .i64 (t.n),.imm (t.names.map aa.str),.full []]] ?_ ?_
 refine mo 2 4 5 (cs:=[.int .i64 (t.kind),.str t.name,.int .i64 (t.n),.imm (t.names.map aa.str),.full []]) [.int .i64 (t.kind),.str t.name,.int .i64 (t.n),.imm (t.names.map aa.str),.own 3 0 0] dq kq kq kq ?_
 refine qZ [(1,.imm (F.map (aa.int .i64))),(2,.imm (G.map (aa.int .i64))),(3,.ptr 0 0),(6,.ptr 1 0),(7,.ptr 2 0)] [t.bx,.box zC,.box [.int .i64 (t.kind),.str t.name,.int .i64 (t.n),.imm (t.names.map aa.str),.own 3 0 0],.arr 5 (([]:List (Ty)).map Ty.enc) 0] ?_ ?_
 refine ar ?_ ?_
 refine qU 1 [(1,.imm (F.map (aa.int .i64))),(2,.imm (G.map (aa.int .i64))),(3,.ptr 0 0),(6,.ptr 1 0),(7,.ptr 2 0),(8,.int .i64 0)] ?_ ?_
 refine qB 0 ?_ ?_ ?_
 refine bR (σ:=Nat) (fun k=>[(1,.imm (F.map (aa.int .i64))),(2,.imm (G.map (aa.int .i64))),(3,.ptr 0 0),(6,.ptr 1 0),(7,.ptr 2 0),(8,.int .i64 ((k:Nat):Int))]) (fun k=>[t.bx,.box zC,.box [.int .i64 (t.kind),.str t.name,.int .i64 (t.n),.imm (t.names.map aa.str),.own 3 0 (rnK (bt F G) t k).length],.arr 5 ((rnK (bt F G) t k).map Ty.enc) 0]) (fun k=>k≤t.kids.length) (fun k=>t.kids.length - k) 0 kq (by exact Nat.zero_le _) ⟨⟨kq,kq,kq,kq,kq,kq,trivial⟩,by simp [aV,aa.bel],by simp,kq,by simp [ai.belO,bM,Ty.enc_v]⟩ ?_
 rintro k hk
 have hrl:=Gy (bt F G) t k
 refine ar ?_ ?_
 refine qV 3 ?_ ?_
 refine qy (au (l:=t.kids) (enc:=Ty.enc) kq bf) ?_ ?_ ?_
 refine qR 1 [(1,.imm (F.map (aa.int .i64))),(2,.imm (G.map (aa.int .i64))),(3,.ptr 0 0),(6,.ptr 1 0),(7,.ptr 2 0),(8,nI k),(16,.bool (decide (((k:Nat):Int)<((t.kids.length:Nat):Int))))] [t.bx,.box zC,.box [.int .i64 (t.kind),.str t.name,.int .i64 (t.n),.imm (t.names.map aa.str),.own 3 0 (rnK (bt F G) t k).length],.arr 5 ((rnK (bt F G) t k).map Ty.enc) 0] ?_ ?_
 by_cases hb1:((k:Nat):Int)<((t.kids.length:Nat):Int)
 refine qt (decide_eq_true hb1) ?_ ?_
 refine qK ?_ ?_
 refine qz [(1,.imm (F.map (aa.int .i64))),(2,.imm (G.map (aa.int .i64))),(3,.ptr 0 0),(6,.ptr 1 0),(7,.ptr 2 0),(8,nI k)] ?_ ?_
 refine ar ?_ ?_
 refine qB 1 ?_ ?_ ?_
 refine cK cxM kq (lG aB) (bv ?_)
 refine qu 5 ?_ ?_
 refine qd ((ax (k:=.i64) (l:=t.kids) (enc:=Ty.enc) (i:=((k:Nat):Int)) Ty.zero kq bf bX bg oq oq).trans (congrArg (fun cs=>some (aa.pimm cs 0,_)) (aO (t.kids.getD k Ty.zero)))) ?_ ?_ ?_ ?_
 refine qu 3 ?_ ?_
 refine cB (args:=[.agg [.int .i64 ((t.kids.getD k Ty.zero).kind),.str (t.kids.getD k Ty.zero).name,.int .i64 ((t.kids.getD k Ty.zero).n),.imm ((t.kids.getD k Ty.zero).names.map aa.str),.imm ((t.kids.getD k Ty.zero).kids.map Ty.enc)],.imm (F.map (aa.int .i64)),.imm (G.map (aa.int .i64))]) kq kq kq kq kq (ihN (t.kids.getD k Ty.zero) (b9 t _ oq)) (by intro _;simp [Ty.v,bm,Occ.v]) (by simp [Ty.v]) (by simp [Ty.v,a7]) ?_
 refine qu 1 ?_ ?_
 refine qD (bh (o:=3) (len:=((rnK (bt F G) t k).length)) (l:=(rnK (bt F G) t k)) (xs:=[(renT (bt F G) (t.kids.getD k Ty.zero))]) (enc:=Ty.enc) (sz:=5) (fr:=0) (x:=(.full [Ty.v (renT (bt F G) (t.kids.getD k Ty.zero))])) kq bf bX bf rfl kq rfl rfl (Eq.trans (b:=some [Ty.v (renT (bt F G) (t.kids.getD k Ty.zero))]) kq (by simp [Ty.enc_v])) ⟨by decide,by kernel_rfl⟩ gQ Is Is) ?_ ?_ ?_ ?_
 refine qu 2 ?_ ?_
 refine cn kq ⟨kq,?_⟩
 refine ak ?_
 refine ab ?_
 refine qZ [(1,.imm (F.map (aa.int .i64))),(2,.imm (G.map (aa.int .i64))),(3,.ptr 0 0),(6,.ptr 1 0),(7,.ptr 2 0),(8,nI k)] [t.bx,.box zC,.box [.int .i64 (t.kind),.str t.name,.int .i64 (t.n),.imm (t.names.map aa.str),.own 3 0 ((rnK (bt F G) t k)++[(renT (bt F G) (t.kids.getD k Ty.zero))]).length],.arr 5 (((rnK (bt F G) t k)++[(renT (bt F G) (t.kids.getD k Ty.zero))]).map Ty.enc) 0] ?_ ?_
 refine qo ?_ ?_
 refine qr 1 ?_ ?_
 refine qy (aN (a:=((k:Nat):Int)) (b:=1) kq oq oq) ?_ ?_ ?_
 refine qr 1 ?_ ?_
 refine qe ?_ ?_
 refine ab ⟨k+1,?_,?_,⟨⟨kq,kq,kq,kq,kq,kq,trivial⟩,by simp [aV,aa.bel],by simp,(Eq.trans (b:=[t.bx,.box zC,.box [.int .i64 (t.kind),.str t.name,.int .i64 (t.n),.imm (t.names.map aa.str),.own 3 0 ((rnK (bt F G) t k)++[(renT (bt F G) (t.kids.getD k Ty.zero))]).length],.arr 5 (((rnK (bt F G) t k)++[(renT (bt F G) (t.kids.getD k Ty.zero))]).map Ty.enc) 0]) kq (by rw [Ej oq])),by simp [ai.belO,bM,Ty.enc_v]⟩⟩
 · omega
 · omega
 iterate 23 kernel_rfl
 refine qf (decide_eq_false hb1) ?_ ?_
 refine bC 0 kq kq ?_
 refine af ?_
 refine af ?_
 refine aA ?_
 refine ab ?_
 refine qz [(1,.imm (F.map (aa.int .i64))),(2,.imm (G.map (aa.int .i64))),(3,.ptr 0 0),(6,.ptr 1 0),(7,.ptr 2 0)] ?_ ?_
 refine ar ?_ ?_
 refine qV 4 ?_ ?_
 by_cases hb2:(t.kind)=6
 refine qm [34,35] (beq_iff_eq.2 hb2) ?_ ?_
 refine qR 9 [(1,.imm (F.map (aa.int .i64))),(2,.imm (G.map (aa.int .i64))),(3,.ptr 0 0),(6,.ptr 1 0),(7,.ptr 2 0),(44,.bool true)] [t.bx,.box zC,.box [.int .i64 (t.kind),.str t.name,.int .i64 (t.n),.imm (t.names.map aa.str),.own 3 0 (rnK (bt F G) t k).length],.arr 5 ((rnK (bt F G) t k).map Ty.enc) 0] ?_ ?_
 refine cp kq kq ?_
 refine qU 1 [(1,.imm (F.map (aa.int .i64))),(2,.imm (G.map (aa.int .i64))),(3,.ptr 0 0),(6,.ptr 1 0),(7,.ptr 2 0),(9,.int .i64 0)] ?_ ?_
 refine qB 2 ?_ ?_ ?_
 refine bR (σ:=Nat) (fun j=>[(1,.imm (F.map (aa.int .i64))),(2,.imm (G.map (aa.int .i64))),(3,.ptr 0 0),(6,.ptr 1 0),(7,.ptr 2 0),(9,.int .i64 ((j:Nat):Int))]) (fun j=>[t.bx,.box zC,.box [.int .i64 (t.kind),.str t.name,.int .i64 (t.n),.imm (t.names.map aa.str),.own 3 0 (rnK (bt F G) t k).length],.arr 5 ((rnK (bt F G) t k).map Ty.enc) 0]) (fun j=>j≤F.length∧∀ i,i<j→¬ F.getD i 0=t.n) (fun j=>F.length - j) 0 kq zq ⟨⟨kq,kq,kq,kq,kq,kq,trivial⟩,by simp [aV,aa.bel],by simp,kq,by simp [ai.belO,bM,Ty.enc_v]⟩ ?_
 rintro j ⟨hj,ha⟩
 refine ar ?_ ?_
 refine qV 2 ?_ ?_
 refine qy (au (l:=F) (enc:=(aa.int .i64)) kq ff) ?_ ?_ ?_
 refine qR 1 [(1,.imm (F.map (aa.int .i64))),(2,.imm (G.map (aa.int .i64))),(3,.ptr 0 0),(6,.ptr 1 0),(7,.ptr 2 0),(9,nI j),(48,.bool (decide (((j:Nat):Int)<((F.length:Nat):Int))))] [t.bx,.box zC,.box [.int .i64 (t.kind),.str t.name,.int .i64 (t.n),.imm (t.names.map aa.str),.own 3 0 (rnK (bt F G) t k).length],.arr 5 ((rnK (bt F G) t k).map Ty.enc) 0] ?_ ?_
 by_cases hb3:((j:Nat):Int)<((F.length:Nat):Int)
 refine qt (decide_eq_true hb3) ?_ ?_
 refine qK ?_ ?_
 refine qz [(1,.imm (F.map (aa.int .i64))),(2,.imm (G.map (aa.int .i64))),(3,.ptr 0 0),(6,.ptr 1 0),(7,.ptr 2 0),(9,nI j)] ?_ ?_
 refine ar ?_ ?_
 refine qB 3 ?_ ?_ ?_
 refine ar ?_ ?_
 refine cK cxM kq aB (bv ?_)
 refine qu 2 ?_ ?_
 refine qd (ax (k:=.i64) (l:=F) (enc:=(aa.int .i64)) (i:=((j:Nat):Int)) 0 kq ff ty3 (fun _=>rfl) oq oq) ?_ ?_ ?_ ?_
 refine qu 4 ?_ ?_
 refine cn kq ⟨kq,?_⟩
 refine ab ?_
 refine qZ [(1,.imm (F.map (aa.int .i64))),(2,.imm (G.map (aa.int .i64))),(3,.ptr 0 0),(6,.ptr 1 0),(7,.ptr 2 0),(9,nI j),(57,.bool (((F.getD j 0))==(t.n)))] [t.bx,.box zC,.box [.int .i64 (t.kind),.str t.name,.int .i64 (t.n),.imm (t.names.map aa.str),.own 3 0 (rnK (bt F G) t k).length],.arr 5 ((rnK (bt F G) t k).map Ty.enc) 0] ?_ ?_
 by_cases hb4:((F.getD j 0))=(t.n)
 refine qt (beq_iff_eq.2 hb4) ?_ ?_
 refine qV 2 ?_ ?_
 refine qy (ax (k:=.i64) (l:=G) (enc:=(aa.int .i64)) (i:=((j:Nat):Int)) 0 kq ff ty3 (fun _=>rfl) oq oq) ?_ ?_ ?_
 refine qR 3 [(6,.ptr 1 0),(7,.ptr 2 0)] [t.bx,.box zC,.box [.int .i64 (t.kind),.str t.name,.int .i64 ((G.getD j 0)),.imm (t.names.map aa.str),.own 3 0 (rnK (bt F G) t k).length],.arr 5 ((rnK (bt F G) t k).map Ty.enc) 0] ?_ ?_
 refine qW 2 [(6,.ptr 1 0)] [t.bx,.box [.int .i64 (t.kind),.str t.name,.int .i64 ((G.getD j 0)),.imm (t.names.map aa.str),.own 3 0 (rnK (bt F G) t k).length],.box [.int .i64 (t.kind),.str t.name,.int .i64 ((G.getD j 0)),.imm (t.names.map aa.str),.own 3 0 (rnK (bt F G) t k).length],.arr 5 ((rnK (bt F G) t k).map Ty.enc) 0] ?_ ?_
 refine bb kq ?_
 apply iR
 apply aR
 apply aR
 apply iR
 apply aR
 refine eP (l:=[.agg [.int .i64 (t.kind),.str t.name,.int .i64 ((G.getD j 0)),.imm (t.names.map aa.str),.own 3 0 (rnK (bt F G) t k).length]]) (.inr rfl) kq ?_
 rotate_left
 iterate 6 kernel_rfl
 refine qf (beq_eq_false_iff_ne.2 hb4) ?_ ?_
 refine qk ?_ ?_
 refine ak ?_
 refine ab ?_
 refine qz [(1,.imm (F.map (aa.int .i64))),(2,.imm (G.map (aa.int .i64))),(3,.ptr 0 0),(6,.ptr 1 0),(7,.ptr 2 0),(9,nI j)] ?_ ?_
 refine qo ?_ ?_
 refine qr 1 ?_ ?_
 refine qy (aN (a:=((j:Nat):Int)) (b:=1) kq oq oq) ?_ ?_ ?_
 refine qr 1 ?_ ?_
 refine qe ?_ ?_
 refine ab ⟨j+1,?_,?_,⟨⟨kq,kq,kq,kq,kq,kq,trivial⟩,by simp [aV,aa.bel],by simp,kq,by simp [ai.belO,bM,Ty.enc_v]⟩⟩
 · omega
 · refine ⟨by omega,fun i hi=>?_⟩
   rcases Nat.lt_succ_iff_lt_or_eq.1 hi with h|h
   · exact ha i h
   · subst h;assumption
 iterate 22 kernel_rfl
 refine qf (decide_eq_false hb3) ?_ ?_
 refine bC 2 kq kq ?_
 refine af ?_
 refine af ?_
 refine aA ?_
 refine ab ?_
 refine qz [(6,.ptr 1 0),(7,.ptr 2 0)] ?_ ?_
 refine qW 2 [(6,.ptr 1 0)] [t.bx,.box [.int .i64 (t.kind),.str t.name,.int .i64 (t.n),.imm (t.names.map aa.str),.own 3 0 (rnK (bt F G) t k).length],.box [.int .i64 (t.kind),.str t.name,.int .i64 (t.n),.imm (t.names.map aa.str),.own 3 0 (rnK (bt F G) t k).length],.arr 5 ((rnK (bt F G) t k).map Ty.enc) 0] ?_ ?_
 refine bb kq ?_
 refine eP (l:=[.agg [.int .i64 (t.kind),.str t.name,.int .i64 (t.n),.imm (t.names.map aa.str),.own 3 0 (rnK (bt F G) t k).length]]) (.inr rfl) kq ?_
 rotate_left
 iterate 13 kernel_rfl
 refine qm [34,35] (beq_eq_false_iff_ne.2 hb2) ?_ ?_
 refine qr 4 ?_ ?_
 by_cases hb5:(t.kind)=5
 refine qm [38,39] (beq_iff_eq.2 hb5) ?_ ?_
 refine qR 5 [(1,.imm (F.map (aa.int .i64))),(2,.imm (G.map (aa.int .i64))),(3,.ptr 0 0),(6,.ptr 1 0),(7,.ptr 2 0),(44,.bool ((t.n) != 0))] [t.bx,.box zC,.box [.int .i64 (t.kind),.str t.name,.int .i64 (t.n),.imm (t.names.map aa.str),.own 3 0 (rnK (bt F G) t k).length],.arr 5 ((rnK (bt F G) t k).map Ty.enc) 0] ?_ ?_
 by_cases hb6:(t.n)=0
 refine qf (x:=((t.n) != 0)) (bne_eq_false_iff_eq.2 hb6) ?_ ?_
 refine qK ?_ ?_
 refine qz [(6,.ptr 1 0),(7,.ptr 2 0)] ?_ ?_
 refine qW 2 [(6,.ptr 1 0)] [t.bx,.box [.int .i64 (t.kind),.str t.name,.int .i64 (t.n),.imm (t.names.map aa.str),.own 3 0 (rnK (bt F G) t k).length],.box [.int .i64 (t.kind),.str t.name,.int .i64 (t.n),.imm (t.names.map aa.str),.own 3 0 (rnK (bt F G) t k).length],.arr 5 ((rnK (bt F G) t k).map Ty.enc) 0] ?_ ?_
 refine bb kq ?_
 refine eP (l:=[.agg [.int .i64 (t.kind),.str t.name,.int .i64 (t.n),.imm (t.names.map aa.str),.own 3 0 (rnK (bt F G) t k).length]]) (.inr rfl) kq ?_
 rotate_left
 iterate 4 kernel_rfl
 refine qt (x:=((t.n) != 0)) (bne_iff_ne.2 hb6) ?_ ?_
 refine qU 1 [(1,.imm (F.map (aa.int .i64))),(2,.imm (G.map (aa.int .i64))),(3,.ptr 0 0),(6,.ptr 1 0),(7,.ptr 2 0),(9,.int .i64 0)] ?_ ?_
 refine qB 2 ?_ ?_ ?_
 refine bR (σ:=Nat) (fun j=>[(1,.imm (F.map (aa.int .i64))),(2,.imm (G.map (aa.int .i64))),(3,.ptr 0 0),(6,.ptr 1 0),(7,.ptr 2 0),(9,.int .i64 ((j:Nat):Int))]) (fun j=>[t.bx,.box zC,.box [.int .i64 (t.kind),.str t.name,.int .i64 (t.n),.imm (t.names.map aa.str),.own 3 0 (rnK (bt F G) t k).length],.arr 5 ((rnK (bt F G) t k).map Ty.enc) 0]) (fun j=>j≤F.length∧∀ i,i<j→¬ F.getD i 0=t.n) (fun j=>F.length - j) 0 kq zq ⟨⟨kq,kq,kq,kq,kq,kq,trivial⟩,by simp [aV,aa.bel],by simp,kq,by simp [ai.belO,bM,Ty.enc_v]⟩ ?_
 rintro j ⟨hj,ha⟩
 refine ar ?_ ?_
 refine qV 2 ?_ ?_
 refine qy (au (l:=F) (enc:=(aa.int .i64)) kq ff) ?_ ?_ ?_
 refine qR 1 [(1,.imm (F.map (aa.int .i64))),(2,.imm (G.map (aa.int .i64))),(3,.ptr 0 0),(6,.ptr 1 0),(7,.ptr 2 0),(9,nI j),(48,.bool (decide (((j:Nat):Int)<((F.length:Nat):Int))))] [t.bx,.box zC,.box [.int .i64 (t.kind),.str t.name,.int .i64 (t.n),.imm (t.names.map aa.str),.own 3 0 (rnK (bt F G) t k).length],.arr 5 ((rnK (bt F G) t k).map Ty.enc) 0] ?_ ?_
 by_cases hb7:((j:Nat):Int)<((F.length:Nat):Int)
 refine qt (decide_eq_true hb7) ?_ ?_
 refine qK ?_ ?_
 refine qz [(1,.imm (F.map (aa.int .i64))),(2,.imm (G.map (aa.int .i64))),(3,.ptr 0 0),(6,.ptr 1 0),(7,.ptr 2 0),(9,nI j)] ?_ ?_
 refine ar ?_ ?_
 refine qB 3 ?_ ?_ ?_
 refine ar ?_ ?_
 refine cK cxM kq aB (bv ?_)
 refine qu 2 ?_ ?_
 refine qd (ax (k:=.i64) (l:=F) (enc:=(aa.int .i64)) (i:=((j:Nat):Int)) 0 kq ff ty3 (fun _=>rfl) oq oq) ?_ ?_ ?_ ?_
 refine qu 4 ?_ ?_
 refine cn kq ⟨kq,?_⟩
 refine ab ?_
 refine qZ [(1,.imm (F.map (aa.int .i64))),(2,.imm (G.map (aa.int .i64))),(3,.ptr 0 0),(6,.ptr 1 0),(7,.ptr 2 0),(9,nI j),(57,.bool (((F.getD j 0))==(t.n)))] [t.bx,.box zC,.box [.int .i64 (t.kind),.str t.name,.int .i64 (t.n),.imm (t.names.map aa.str),.own 3 0 (rnK (bt F G) t k).length],.arr 5 ((rnK (bt F G) t k).map Ty.enc) 0] ?_ ?_
 by_cases hb8:((F.getD j 0))=(t.n)
 refine qt (beq_iff_eq.2 hb8) ?_ ?_
 refine qV 2 ?_ ?_
 refine qy (ax (k:=.i64) (l:=G) (enc:=(aa.int .i64)) (i:=((j:Nat):Int)) 0 kq ff ty3 (fun _=>rfl) oq oq) ?_ ?_ ?_
 refine qR 3 [(6,.ptr 1 0),(7,.ptr 2 0)] [t.bx,.box zC,.box [.int .i64 (t.kind),.str t.name,.int .i64 ((G.getD j 0)),.imm (t.names.map aa.str),.own 3 0 (rnK (bt F G) t k).length],.arr 5 ((rnK (bt F G) t k).map Ty.enc) 0] ?_ ?_
 refine qW 2 [(6,.ptr 1 0)] [t.bx,.box [.int .i64 (t.kind),.str t.name,.int .i64 ((G.getD j 0)),.imm (t.names.map aa.str),.own 3 0 (rnK (bt F G) t k).length],.box [.int .i64 (t.kind),.str t.name,.int .i64 ((G.getD j 0)),.imm (t.names.map aa.str),.own 3 0 (rnK (bt F G) t k).length],.arr 5 ((rnK (bt F G) t k).map Ty.enc) 0] ?_ ?_
 refine bb kq ?_
 apply iR
 apply aR
 apply aR
 apply iR
 apply aR
 refine eP (l:=[.agg [.int .i64 (t.kind),.str t.name,.int .i64 ((G.getD j 0)),.imm (t.names.map aa.str),.own 3 0 (rnK (bt F G) t k).length]]) (.inr rfl) kq ?_
 rotate_left
 iterate 6 kernel_rfl
 refine qf (beq_eq_false_iff_ne.2 hb8) ?_ ?_
 refine qk ?_ ?_
 refine ak ?_
 refine ab ?_
 refine qz [(1,.imm (F.map (aa.int .i64))),(2,.imm (G.map (aa.int .i64))),(3,.ptr 0 0),(6,.ptr 1 0),(7,.ptr 2 0),(9,nI j)] ?_ ?_
 refine qo ?_ ?_
 refine qr 1 ?_ ?_
 refine qy (aN (a:=((j:Nat):Int)) (b:=1) kq oq oq) ?_ ?_ ?_
 refine qr 1 ?_ ?_
 refine qe ?_ ?_
 refine ab ⟨j+1,?_,?_,⟨⟨kq,kq,kq,kq,kq,kq,trivial⟩,by simp [aV,aa.bel],by simp,kq,by simp [ai.belO,bM,Ty.enc_v]⟩⟩
 · omega
 · refine ⟨by omega,fun i hi=>?_⟩
   rcases Nat.lt_succ_iff_lt_or_eq.1 hi with h|h
   · exact ha i h
   · subst h;assumption
 iterate 22 kernel_rfl
 refine qf (decide_eq_false hb7) ?_ ?_
 refine bC 2 kq kq ?_
 refine af ?_
 refine af ?_
 refine aA ?_
 refine ab ?_
 refine qz [(6,.ptr 1 0),(7,.ptr 2 0)] ?_ ?_
 refine qW 2 [(6,.ptr 1 0)] [t.bx,.box [.int .i64 (t.kind),.str t.name,.int .i64 (t.n),.imm (t.names.map aa.str),.own 3 0 (rnK (bt F G) t k).length],.box [.int .i64 (t.kind),.str t.name,.int .i64 (t.n),.imm (t.names.map aa.str),.own 3 0 (rnK (bt F G) t k).length],.arr 5 ((rnK (bt F G) t k).map Ty.enc) 0] ?_ ?_
 refine bb kq ?_
 refine eP (l:=[.agg [.int .i64 (t.kind),.str t.name,.int .i64 (t.n),.imm (t.names.map aa.str),.own 3 0 (rnK (bt F G) t k).length]]) (.inr rfl) kq ?_
 rotate_left
 iterate 14 kernel_rfl
 refine qm [38,39] (beq_eq_false_iff_ne.2 hb5) ?_ ?_
 refine qR 5 [(1,.imm (F.map (aa.int .i64))),(2,.imm (G.map (aa.int .i64))),(3,.ptr 0 0),(6,.ptr 1 0),(7,.ptr 2 0),(44,.bool false)] [t.bx,.box zC,.box [.int .i64 (t.kind),.str t.name,.int .i64 (t.n),.imm (t.names.map aa.str),.own 3 0 (rnK (bt F G) t k).length],.arr 5 ((rnK (bt F G) t k).map Ty.enc) 0] ?_ ?_
 refine dY kq kq ?_
 refine qK ?_ ?_
 refine qz [(6,.ptr 1 0),(7,.ptr 2 0)] ?_ ?_
 refine qW 2 [(6,.ptr 1 0)] [t.bx,.box [.int .i64 (t.kind),.str t.name,.int .i64 (t.n),.imm (t.names.map aa.str),.own 3 0 (rnK (bt F G) t k).length],.box [.int .i64 (t.kind),.str t.name,.int .i64 (t.n),.imm (t.names.map aa.str),.own 3 0 (rnK (bt F G) t k).length],.arr 5 ((rnK (bt F G) t k).map Ty.enc) 0] ?_ ?_
 refine bb kq ?_
 refine eP (l:=[.agg [.int .i64 (t.kind),.str t.name,.int .i64 (t.n),.imm (t.names.map aa.str),.own 3 0 (rnK (bt F G) t k).length]]) (.inr rfl) kq ?_
 rotate_left
 iterate 25 kernel_rfl
 all_goals
  have hkk:t.kids.length≤k:=by omega
  first|(have hn:=E0 (F:=F) (G:=G) (t:=t) oq ha oq hfg aq;rw [um hkk,hn];simp [aK,aa.frz,bo,Ty.v,mU,ni,lz];done)|(have hn:=FL (F:=F) (G:=G) (t:=t) (fun i hi=>ha i oq);rw [um hkk];simp [aK,aa.frz,bo,Ty.v,mU,ni,lz,← hn];done)|(have hn:=Fi (F:=F) (G:=G) (t:=t) oq oq;rw [um hkk];simp [aK,aa.frz,bo,Ty.v,mU,ni,lz,← hn];done)
def stF (F:List Int) (t:Ty):List Int:=(aD [] t).foldl cN F
def frL (l:List Ty) (i:Nat):List Int:=(l.take i).foldl stF []
def inF (F:List Int) (t:Ty) (k:Nat):List Int:=((aD [] t).take k).foldl cN F
theorem ii {F:List Int} {t:Ty} {k:Nat} (h:k<(aD [] t).length):inF F t (k+1)=cN (inF F t k) ((aD [] t).getD k 0):=by
 unfold inF;rw [kl _ k 0 h,List.foldl_append];rfl
theorem oT {F:List Int} {t:Ty} {k:Nat} (h:(aD [] t).length≤k):inF F t k=stF F t:=by unfold inF stF;rw [List.take_of_length_le h]
theorem mn {l:List Ty} {i:Nat} (h:i<l.length):frL l (i+1)=stF (frL l i) (l.getD i Ty.zero):=by
 unfold frL;rw [kl _ i Ty.zero h,List.foldl_append];rfl
theorem A5 (F:List Int) (t:Ty) (k:Nat):(inF F t k).length≤F.length+t.sz:=by
 have h1:=iE ((aD [] t).take k) F
 have h2:=rD [] t
 rw [List.length_take] at h1
 simp only [List.length_nil] at h2
 unfold inF;omega
theorem EU (F:List Int) (t:Ty):(stF F t).length≤F.length+t.sz:=by rw [← oT (Nat.le_refl _)];exact A5 F t _
def okT (l:List Ty):Prop:=l.length≤8∧∀ i,(l.getD i Ty.zero).sz<100000000
theorem uJ {l:List Ty} (hl:okT l):∀ i,i≤l.length→(frL l i).length≤i * 100000000
 | 0,_=>by simp [frL]
 | i+1,h=>by
  have h1:=uJ hl i oq
  have h2:=EU (frL l i) (l.getD i Ty.zero)
  have h3:=hl.2 i
  rw [mn oq,Nat.add_mul]
  omega
theorem fr8 {l:List Ty} (hl:okT l) {i:Nat} (hi:i≤l.length):(frL l i).length≤800000000:=by
 have h1:=uJ hl i hi
 have h2:=hl.1
 have h3:i * 100000000≤8 * 100000000:=Nat.mul_le_mul_right _ oq
 omega
theorem fr7 {l:List Ty} (hl:okT l) {i:Nat} (hi:i<l.length):(frL l i).length≤700000000:=by
 have h1:=uJ hl i oq
 have h2:=hl.1
 have h3:i * 100000000≤7 * 100000000:=Nat.mul_le_mul_right _ oq
 omega
def atF:List Int→Nat→At
 | [],_=>[]
 | n::F,k=>(n,((k+1:Nat):Int))::atF F (k+1)
def atM (F:List Int):At:=atF F 0
def Hw (l:List Ty):Int→Int:=Jb (atM (frL l l.length))
def cnL (l:List Ty) (k:Nat):List Ty:=(l.take k).map (renT (Hw l))
def lR (l:List Ty):List Ty:=l.map (renT (Hw l))
def toL (k:Nat):List Int:=(List.range k).map fun i=>((i+1:Nat):Int)
theorem wu (F:List Int) (n:Int):toL F.length++[(((F++[n]).length:Nat):Int)]=toL (F++[n]).length:=by
 unfold toL;rw [List.length_append,List.length_singleton,List.range_succ,List.map_append];rfl
theorem uV (k:Nat):(toL k).length=k:=by simp [toL]
def GJ (l:List Ty):Int→Int:=bt (frL l l.length) (toL (frL l l.length).length)
def fW (l:List Ty) (k:Nat):List Ty:=(l.take k).map (renT (GJ l))
def bn (l:List Ty):List Ty:=l.map (renT (GJ l))
theorem sB {l:List Ty} {k:Nat} (h:k<l.length):fW l k++[renT (bt (frL l l.length) (toL (frL l l.length).length)) (l.getD k Ty.zero)]=fW l (k+1):=by
 unfold fW;rw [e7 _ _ h,List.map_append];rfl
theorem C4 (l:List Ty) (k:Nat):(fW l k).length≤k:=by unfold fW;rw [List.length_map,List.length_take];omega
theorem CP {l:List Ty} {k:Nat} (h:l.length≤k):fW l k=bn l:=by unfold fW bn;rw [List.take_of_length_le h]
theorem yT {F:List Int} {n:Int} (h:F.contains n=true):F=cN F n:=by rw [cN,if_pos h]
theorem Ef {F:List Int} {n:Int} (h:¬ F.contains n=true):F++[n]=cN F n:=by rw [cN,if_neg h]
noncomputable def c30:Code:=aE Tryz.f30
theorem Bf {p:Prop} (h:p:=by simp only [List.length_append,List.length_map,List.length_cons,List.length_nil];first|omega|(have:=hl2 i;have:=hf7 i oq;omega)):p:=h
theorem ER {p:Prop} (h:p:=by simp [bo,cb,aS,aa.frz,aa.owns,Ty.v]):p:=h
theorem G7 {p:Prop} (h:p:=by have:=hl2 i;have:=hf7 i oq;omega):p:=h
theorem nJ (l:List Ty) (hl:okT l):ay cx 30 [.imm (l.map Ty.enc)] (.imm ((bn l).map Ty.enc)):=by
 obtain ⟨hl1,hl2⟩:=id hl
 have hf7:=fun (i:Nat) h=>fr7 (i:=i) hl h
 have hf9:=fr8 hl (Nat.le_refl _)
 refine ap (cx:=cx) 65 0 [(ResultVar.tmp 2)] Tryz.func30 rfl rfl rfl rfl rfl zq ?_
 show wpA cx 65 0 (at_ c30 []) _ _ _
 refine qZ [(0,.imm (l.map Ty.enc))] [] ?_ ?_
 refine qU 1 [(0,.imm (l.map Ty.enc))] ?_ ?_
 refine qU 2 [(0,.imm (l.map Ty.enc)),(3,.full []),(4,.full [])] ?_ ?_
 refine pJ 3 1 dq kq ?_
 refine pJ 4 1 dq kq ?_
 refine qZ [(0,.imm (l.map Ty.enc)),(3,.own 0 0 0),(4,.own 1 0 0)] [.arr 1 (([]:List (Int)).map (aa.int .i64)) 0,.arr 1 (([]:List (Int)).map (aa.int .i64)) 0] ?_ ?_
 refine ar ?_ ?_
 refine qU 1 [(0,.imm (l.map Ty.enc)),(3,.own 0 0 0),(4,.own 1 0 0),(5,.int .i64 0)] ?_ ?_
 refine qB 0 ?_ ?_ ?_
 refine bR (σ:=Nat) (fun i=>[(0,.imm (l.map Ty.enc)),(3,.own 0 0 (frL l i).length),(4,.own 1 0 (toL (frL l i).length).length),(5,.int .i64 ((i:Nat):Int))]) (fun i=>[.arr 1 ((frL l i).map (aa.int .i64)) ((frL l i).map (aa.int .i64)).length,.arr 1 ((toL (frL l i).length).map (aa.int .i64)) 0]) (fun i=>i≤l.length) (fun i=>l.length - i) 0 kq (by exact Nat.zero_le _) ⟨⟨kq,kq,kq,kq,trivial⟩,by simp [aV,aa.bel],by simp,kq,by simp [ai.belO]⟩ ?_
 rintro i hi
 have htl:=uV (frL l i).length
 refine ar ?_ ?_
 refine qV 2 ?_ ?_
 refine qy (au (l:=l) (enc:=Ty.enc) kq bf) ?_ ?_ ?_
 refine qR 1 [(0,.imm (l.map Ty.enc)),(3,.own 0 0 (frL l i).length),(4,.own 1 0 (toL (frL l i).length).length),(5,nI i),(14,.bool (decide (((i:Nat):Int)<((l.length:Nat):Int))))] [.arr 1 ((frL l i).map (aa.int .i64)) ((frL l i).map (aa.int .i64)).length,.arr 1 ((toL (frL l i).length).map (aa.int .i64)) 0] ?_ ?_
 by_cases hb1:((i:Nat):Int)<((l.length:Nat):Int)
 refine qt (decide_eq_true hb1) ?_ ?_
 refine qK ?_ ?_
 refine qz [(0,.imm (l.map Ty.enc)),(3,.own 0 0 (frL l i).length),(4,.own 1 0 (toL (frL l i).length).length),(5,nI i)] ?_ ?_
 refine ar ?_ ?_
 refine qB 1 ?_ ?_ ?_
 refine qV 2 ?_ ?_
 refine qy ((ax (k:=.i64) (l:=l) (enc:=Ty.enc) (i:=((i:Nat):Int)) Ty.zero kq bf bX bg oq oq).trans (congrArg (fun cs=>some (aa.pimm cs 0,_)) (aO (l.getD i Ty.zero)))) ?_ ?_ ?_
 refine qr 1 ?_ ?_
 refine bp (args:=[.agg [.int .i64 ((l.getD i Ty.zero).kind),.str (l.getD i Ty.zero).name,.int .i64 ((l.getD i Ty.zero).n),.imm ((l.getD i Ty.zero).names.map aa.str),.imm ((l.getD i Ty.zero).kids.map Ty.enc)]]) kq kq kq kq (r7 (l.getD i Ty.zero) (hl2 _)) (by simp [Ty.v,bm,Occ.v]) (by simp [Ty.v]) (by simp [Ty.v,a7]) ?_
 refine qR 1 [(0,.imm (l.map Ty.enc)),(3,.own 0 0 (frL l i).length),(4,.own 1 0 (toL (frL l i).length).length),(5,nI i),(6,.imm ((aD [] (l.getD i Ty.zero)).map (aa.int .i64)))] [.arr 1 ((frL l i).map (aa.int .i64)) ((frL l i).map (aa.int .i64)).length,.arr 1 ((toL (frL l i).length).map (aa.int .i64)) 0] ?_ ?_
 refine qU 1 [(0,.imm (l.map Ty.enc)),(3,.own 0 0 (frL l i).length),(4,.own 1 0 (toL (frL l i).length).length),(5,nI i),(6,.imm ((aD [] (l.getD i Ty.zero)).map (aa.int .i64))),(7,.int .i64 0)] ?_ ?_
 refine qB 2 ?_ ?_ ?_
 refine bR (σ:=Nat) (fun k=>[(0,.imm (l.map Ty.enc)),(3,.own 0 0 (inF (frL l i) (l.getD i Ty.zero) k).length),(4,.own 1 0 (toL (inF (frL l i) (l.getD i Ty.zero) k).length).length),(5,.int .i64 ((i:Nat):Int)),(6,.imm ((aD [] (l.getD i Ty.zero)).map (aa.int .i64))),(7,.int .i64 ((k:Nat):Int))]) (fun k=>[.arr 1 ((inF (frL l i) (l.getD i Ty.zero) k).map (aa.int .i64)) ((inF (frL l i) (l.getD i Ty.zero) k).map (aa.int .i64)).length,.arr 1 ((toL (inF (frL l i) (l.getD i Ty.zero) k).length).map (aa.int .i64)) 0]) (fun k=>k≤(aD [] (l.getD i Ty.zero)).length) (fun k=>(aD [] (l.getD i Ty.zero)).length - k) 0 kq (by exact Nat.zero_le _) ⟨⟨kq,kq,kq,kq,kq,kq,trivial⟩,by simp [aV,aa.bel],by simp,kq,by simp [ai.belO,-List.map_append]⟩ ?_
 rintro k hk
 have hvl:(aD [] (l.getD i Ty.zero)).length≤(l.getD i Ty.zero).sz:=by have:=rD [] (l.getD i Ty.zero);simpa using this
 have hil:=A5 (frL l i) (l.getD i Ty.zero) k
 have htl2:=uV (inF (frL l i) (l.getD i Ty.zero) k).length
 refine ar ?_ ?_
 refine qV 2 ?_ ?_
 refine qy (au (l:=(aD [] (l.getD i Ty.zero))) (enc:=(aa.int .i64)) kq ff) ?_ ?_ ?_
 refine qR 1 [(0,.imm (l.map Ty.enc)),(3,.own 0 0 (inF (frL l i) (l.getD i Ty.zero) k).length),(4,.own 1 0 (toL (inF (frL l i) (l.getD i Ty.zero) k).length).length),(5,nI i),(6,.imm ((aD [] (l.getD i Ty.zero)).map (aa.int .i64))),(7,nI k),(25,.bool (decide (((k:Nat):Int)<(((aD [] (l.getD i Ty.zero)).length:Nat):Int))))] [.arr 1 ((inF (frL l i) (l.getD i Ty.zero) k).map (aa.int .i64)) ((inF (frL l i) (l.getD i Ty.zero) k).map (aa.int .i64)).length,.arr 1 ((toL (inF (frL l i) (l.getD i Ty.zero) k).length).map (aa.int .i64)) 0] ?_ ?_
 by_cases hb2:((k:Nat):Int)<(((aD [] (l.getD i Ty.zero)).length:Nat):Int)
 refine qt (decide_eq_true hb2) ?_ ?_
 refine qK ?_ ?_
 refine qz [(0,.imm (l.map Ty.enc)),(3,.own 0 0 (inF (frL l i) (l.getD i Ty.zero) k).length),(4,.own 1 0 (toL (inF (frL l i) (l.getD i Ty.zero) k).length).length),(5,nI i),(6,.imm ((aD [] (l.getD i Ty.zero)).map (aa.int .i64))),(7,nI k)] ?_ ?_
 refine ar ?_ ?_
 refine qB 3 ?_ ?_ ?_
 refine qV 3 ?_ ?_
 refine qy (ax (k:=.i64) (l:=(aD [] (l.getD i Ty.zero))) (enc:=(aa.int .i64)) (i:=((k:Nat):Int)) 0 kq ff ty3 (fun _=>rfl) oq oq) ?_ ?_ ?_
 refine qr 1 ?_ ?_
 refine vZ (args:=[.own 0 0 (inF (frL l i) (l.getD i Ty.zero) k).length,.int .i64 (((aD [] (l.getD i Ty.zero)).getD k 0))]) (F:=[.arr 1 ((inF (frL l i) (l.getD i Ty.zero) k).map (aa.int .i64)) ((inF (frL l i) (l.getD i Ty.zero) k).map (aa.int .i64)).length,.arr 1 ((toL (inF (frL l i) (l.getD i Ty.zero) k).length).map (aa.int .i64)) 0]) kq kq kq kq (tg (inF (frL l i) (l.getD i Ty.zero) k) (((aD [] (l.getD i Ty.zero)).getD k 0)) G7) [.arr 1 ((inF (frL l i) (l.getD i Ty.zero) k).map (aa.int .i64)) ((inF (frL l i) (l.getD i Ty.zero) k).map (aa.int .i64)).length,.arr 1 ((toL (inF (frL l i) (l.getD i Ty.zero) k).length).map (aa.int .i64)) 0] kq ER (by simp [Ty.v]) ER ?_
 refine qR 1 [(0,.imm (l.map Ty.enc)),(3,.own 0 0 (inF (frL l i) (l.getD i Ty.zero) k).length),(4,.own 1 0 (toL (inF (frL l i) (l.getD i Ty.zero) k).length).length),(5,nI i),(6,.imm ((aD [] (l.getD i Ty.zero)).map (aa.int .i64))),(7,nI k),(8,.bool ((inF (frL l i) (l.getD i Ty.zero) k).contains (((aD [] (l.getD i Ty.zero)).getD k 0))))] [.arr 1 ((inF (frL l i) (l.getD i Ty.zero) k).map (aa.int .i64)) ((inF (frL l i) (l.getD i Ty.zero) k).map (aa.int .i64)).length,.arr 1 ((toL (inF (frL l i) (l.getD i Ty.zero) k).length).map (aa.int .i64)) 0] ?_ ?_
 refine qU 2 [(0,.imm (l.map Ty.enc)),(3,.own 0 0 (inF (frL l i) (l.getD i Ty.zero) k).length),(4,.own 1 0 (toL (inF (frL l i) (l.getD i Ty.zero) k).length).length),(5,nI i),(6,.imm ((aD [] (l.getD i Ty.zero)).map (aa.int .i64))),(7,nI k),(35,.bool (!((inF (frL l i) (l.getD i Ty.zero) k).contains (((aD [] (l.getD i Ty.zero)).getD k 0)))))] ?_ ?_
 by_cases hb3:((inF (frL l i) (l.getD i Ty.zero) k).contains (((aD [] (l.getD i Ty.zero)).getD k 0)))=true
 refine qf (x:=(!((inF (frL l i) (l.getD i Ty.zero) k).contains (((aD [] (l.getD i Ty.zero)).getD k 0))))) (congrArg not (hb3)) ?_ ?_
 refine qk ?_ ?_
 refine ak ?_
 refine ab ?_
 refine qz [(0,.imm (l.map Ty.enc)),(3,.own 0 0 (inF (frL l i) (l.getD i Ty.zero) k).length),(4,.own 1 0 (toL (inF (frL l i) (l.getD i Ty.zero) k).length).length),(5,nI i),(6,.imm ((aD [] (l.getD i Ty.zero)).map (aa.int .i64))),(7,nI k)] ?_ ?_
 refine vM 0 [.arr 1 ((inF (frL l i) (l.getD i Ty.zero) k).map (aa.int .i64)) ((inF (frL l i) (l.getD i Ty.zero) k).map (aa.int .i64)).length,.arr 1 ((toL (inF (frL l i) (l.getD i Ty.zero) k).length).map (aa.int .i64)) 0] (by simp [cb]) ?_
 refine qz [(0,.imm (l.map Ty.enc)),(3,.own 0 0 (inF (frL l i) (l.getD i Ty.zero) k).length),(4,.own 1 0 (toL (inF (frL l i) (l.getD i Ty.zero) k).length).length),(5,nI i),(6,.imm ((aD [] (l.getD i Ty.zero)).map (aa.int .i64))),(7,nI k)] ?_ ?_
 refine qo ?_ ?_
 refine qr 1 ?_ ?_
 refine qy (aN (a:=((k:Nat):Int)) (b:=1) kq oq G7) ?_ ?_ ?_
 refine qr 1 ?_ ?_
 refine qe ?_ ?_
 refine ab ⟨k+1,?_,?_,⟨⟨kq,(Eq.trans (b:=.own 0 0 (inF (frL l i) (l.getD i Ty.zero) k).length) kq (by rw [ii oq,← yT aq])),(Eq.trans (b:=.own 1 0 (toL (inF (frL l i) (l.getD i Ty.zero) k).length).length) kq (by rw [ii oq,← yT aq])),kq,kq,kq,trivial⟩,by simp [aV,aa.bel],by simp,(Eq.trans (b:=[.arr 1 ((inF (frL l i) (l.getD i Ty.zero) k).map (aa.int .i64)) ((inF (frL l i) (l.getD i Ty.zero) k).map (aa.int .i64)).length,.arr 1 ((toL (inF (frL l i) (l.getD i Ty.zero) k).length).map (aa.int .i64)) 0]) kq (by rw [ii oq,← yT aq])),by simp [ai.belO,-List.map_append]⟩⟩
 · omega
 · omega
 iterate 10 kernel_rfl
 refine qt (x:=(!((inF (frL l i) (l.getD i Ty.zero) k).contains (((aD [] (l.getD i Ty.zero)).getD k 0))))) (congrArg not (Bool.eq_false_iff.2 hb3)) ?_ ?_
 refine qV 3 ?_ ?_
 refine qy (ax (k:=.i64) (l:=(aD [] (l.getD i Ty.zero))) (enc:=(aa.int .i64)) (i:=((k:Nat):Int)) 0 kq ff ty3 (fun _=>rfl) oq oq) ?_ ?_ ?_
 refine qr 2 ?_ ?_
 refine qY (bh (o:=0) (len:=((inF (frL l i) (l.getD i Ty.zero) k).length)) (l:=(inF (frL l i) (l.getD i Ty.zero) k)) (xs:=[(((aD [] (l.getD i Ty.zero)).getD k 0))]) (enc:=(aa.int .i64)) (sz:=1) (fr:=((inF (frL l i) (l.getD i Ty.zero) k).map (aa.int .i64)).length) (x:=(.full [.int .i64 (((aD [] (l.getD i Ty.zero)).getD k 0))])) kq ff ty3 ff rfl kq rfl rfl kq ⟨by decide,by kernel_rfl⟩ (fun _=>rfl) Bf Bf) ?_ ?_ ?_
 refine qR 1 [(0,.imm (l.map Ty.enc)),(3,.own 0 0 ((inF (frL l i) (l.getD i Ty.zero) k)++[(((aD [] (l.getD i Ty.zero)).getD k 0))]).length),(4,.own 1 0 (toL (inF (frL l i) (l.getD i Ty.zero) k).length).length),(5,nI i),(6,.imm ((aD [] (l.getD i Ty.zero)).map (aa.int .i64))),(7,nI k)] [.arr 1 (((inF (frL l i) (l.getD i Ty.zero) k)++[(((aD [] (l.getD i Ty.zero)).getD k 0))]).map (aa.int .i64)) ((inF (frL l i) (l.getD i Ty.zero) k).map (aa.int .i64)).length,.arr 1 ((toL (inF (frL l i) (l.getD i Ty.zero) k).length).map (aa.int .i64)) 0] ?_ ?_
 refine qo ?_ ?_
 refine qr 2 ?_ ?_
 refine qy (mz (o:=0) (off:=0) (len:=(((inF (frL l i) (l.getD i Ty.zero) k)++[(((aD [] (l.getD i Ty.zero)).getD k 0))]).length)) (sz:=1) (es:=(((inF (frL l i) (l.getD i Ty.zero) k)++[(((aD [] (l.getD i Ty.zero)).getD k 0))]).map (aa.int .i64))) (fr:=((inF (frL l i) (l.getD i Ty.zero) k).map (aa.int .i64)).length) kq ff kq zq) ?_ ?_ ?_
 refine qr 1 ?_ ?_
 refine qY (bh (o:=1) (len:=((toL (inF (frL l i) (l.getD i Ty.zero) k).length).length)) (l:=(toL (inF (frL l i) (l.getD i Ty.zero) k).length)) (xs:=[((((inF (frL l i) (l.getD i Ty.zero) k)++[(((aD [] (l.getD i Ty.zero)).getD k 0))]).length:Nat):Int)]) (enc:=(aa.int .i64)) (sz:=1) (fr:=0) (x:=(.full [.int .i64 ((((inF (frL l i) (l.getD i Ty.zero) k)++[(((aD [] (l.getD i Ty.zero)).getD k 0))]).length:Nat):Int)])) kq ff ty3 ff rfl kq rfl rfl kq ⟨by decide,by kernel_rfl⟩ (fun _=>rfl) Bf Bf) ?_ ?_ ?_
 refine qr 1 ?_ ?_
 refine qe ?_ ?_
 refine ak ?_
 refine ab ?_
 refine qZ [(0,.imm (l.map Ty.enc)),(3,.own 0 0 ((inF (frL l i) (l.getD i Ty.zero) k)++[(((aD [] (l.getD i Ty.zero)).getD k 0))]).length),(4,.own 1 0 ((toL (inF (frL l i) (l.getD i Ty.zero) k).length)++[((((inF (frL l i) (l.getD i Ty.zero) k)++[(((aD [] (l.getD i Ty.zero)).getD k 0))]).length:Nat):Int)]).length),(5,nI i),(6,.imm ((aD [] (l.getD i Ty.zero)).map (aa.int .i64))),(7,nI k)] [.arr 1 (((inF (frL l i) (l.getD i Ty.zero) k)++[(((aD [] (l.getD i Ty.zero)).getD k 0))]).map (aa.int .i64)) ((inF (frL l i) (l.getD i Ty.zero) k).map (aa.int .i64)).length,.arr 1 (((toL (inF (frL l i) (l.getD i Ty.zero) k).length)++[((((inF (frL l i) (l.getD i Ty.zero) k)++[(((aD [] (l.getD i Ty.zero)).getD k 0))]).length:Nat):Int)]).map (aa.int .i64)) 0] ?_ ?_
 refine vM 0 [.arr 1 (((inF (frL l i) (l.getD i Ty.zero) k)++[(((aD [] (l.getD i Ty.zero)).getD k 0))]).map (aa.int .i64)) (((inF (frL l i) (l.getD i Ty.zero) k)++[(((aD [] (l.getD i Ty.zero)).getD k 0))]).map (aa.int .i64)).length,.arr 1 (((toL (inF (frL l i) (l.getD i Ty.zero) k).length)++[((((inF (frL l i) (l.getD i Ty.zero) k)++[(((aD [] (l.getD i Ty.zero)).getD k 0))]).length:Nat):Int)]).map (aa.int .i64)) 0] (by simp [cb]) ?_
 refine qZ [(0,.imm (l.map Ty.enc)),(3,.own 0 0 ((inF (frL l i) (l.getD i Ty.zero) k)++[(((aD [] (l.getD i Ty.zero)).getD k 0))]).length),(4,.own 1 0 ((toL (inF (frL l i) (l.getD i Ty.zero) k).length)++[((((inF (frL l i) (l.getD i Ty.zero) k)++[(((aD [] (l.getD i Ty.zero)).getD k 0))]).length:Nat):Int)]).length),(5,nI i),(6,.imm ((aD [] (l.getD i Ty.zero)).map (aa.int .i64))),(7,nI k)] [.arr 1 (((inF (frL l i) (l.getD i Ty.zero) k)++[(((aD [] (l.getD i Ty.zero)).getD k 0))]).map (aa.int .i64)) (((inF (frL l i) (l.getD i Ty.zero) k)++[(((aD [] (l.getD i Ty.zero)).getD k 0))]).map (aa.int .i64)).length,.arr 1 (((toL (inF (frL l i) (l.getD i Ty.zero) k).length)++[((((inF (frL l i) (l.getD i Ty.zero) k)++[(((aD [] (l.getD i Ty.zero)).getD k 0))]).length:Nat):Int)]).map (aa.int .i64)) 0] ?_ ?_
 refine qo ?_ ?_
 refine qr 1 ?_ ?_
 refine qy (aN (a:=((k:Nat):Int)) (b:=1) kq oq G7) ?_ ?_ ?_
 refine qr 1 ?_ ?_
 refine qe ?_ ?_
 refine ab ⟨k+1,?_,?_,⟨⟨kq,(Eq.trans (b:=.own 0 0 ((inF (frL l i) (l.getD i Ty.zero) k)++[(((aD [] (l.getD i Ty.zero)).getD k 0))]).length) kq (by rw [ii oq,← Ef aq])),(Eq.trans (b:=.own 1 0 ((toL (inF (frL l i) (l.getD i Ty.zero) k).length)++[((((inF (frL l i) (l.getD i Ty.zero) k)++[(((aD [] (l.getD i Ty.zero)).getD k 0))]).length:Nat):Int)]).length) kq (by rw [wu,ii oq,← Ef aq])),kq,kq,kq,trivial⟩,by simp [aV,aa.bel],by simp,(Eq.trans (b:=[.arr 1 (((inF (frL l i) (l.getD i Ty.zero) k)++[(((aD [] (l.getD i Ty.zero)).getD k 0))]).map (aa.int .i64)) (((inF (frL l i) (l.getD i Ty.zero) k)++[(((aD [] (l.getD i Ty.zero)).getD k 0))]).map (aa.int .i64)).length,.arr 1 (((toL (inF (frL l i) (l.getD i Ty.zero) k).length)++[((((inF (frL l i) (l.getD i Ty.zero) k)++[(((aD [] (l.getD i Ty.zero)).getD k 0))]).length:Nat):Int)]).map (aa.int .i64)) 0]) kq (by rw [wu,ii oq,← Ef aq])),by simp [ai.belO,-List.map_append]⟩⟩
 · omega
 · omega
 iterate 37 kernel_rfl
 refine qf (decide_eq_false hb2) ?_ ?_
 refine bC 2 kq kq ?_
 refine af ?_
 refine af ?_
 refine aA ?_
 refine ak ?_
 refine ab ?_
 refine qz [(0,.imm (l.map Ty.enc)),(3,.own 0 0 (inF (frL l i) (l.getD i Ty.zero) k).length),(4,.own 1 0 (toL (inF (frL l i) (l.getD i Ty.zero) k).length).length),(5,nI i)] ?_ ?_
 refine qo ?_ ?_
 refine qr 1 ?_ ?_
 refine qy (aN (a:=((i:Nat):Int)) (b:=1) kq oq oq) ?_ ?_ ?_
 refine qr 1 ?_ ?_
 refine qe ?_ ?_
 refine ab ⟨i+1,?_,?_,⟨⟨kq,(Eq.trans (b:=.own 0 0 (inF (frL l i) (l.getD i Ty.zero) k).length) kq (by rw [oT oq,mn oq])),(Eq.trans (b:=.own 1 0 (toL (inF (frL l i) (l.getD i Ty.zero) k).length).length) kq (by rw [oT oq,mn oq])),kq,trivial⟩,by simp [aV,aa.bel],by simp,(Eq.trans (b:=[.arr 1 ((inF (frL l i) (l.getD i Ty.zero) k).map (aa.int .i64)) ((inF (frL l i) (l.getD i Ty.zero) k).map (aa.int .i64)).length,.arr 1 ((toL (inF (frL l i) (l.getD i Ty.zero) k).length).map (aa.int .i64)) 0]) kq (by rw [oT oq,mn oq])),by simp [ai.belO]⟩⟩
 · omega
 · omega
 iterate 27 kernel_rfl
 refine qf (decide_eq_false hb1) ?_ ?_
 refine bC 0 kq kq ?_
 refine af ?_
 refine af ?_
 refine aA ?_
 refine ab ?_
 refine qz [(0,.imm (l.map Ty.enc)),(3,.own 0 0 (frL l i).length),(4,.own 1 0 (toL (frL l i).length).length)] ?_ ?_
 refine qU 1 [(0,.imm (l.map Ty.enc)),(3,.own 0 0 (frL l i).length),(4,.own 1 0 (toL (frL l i).length).length),(9,.full [])] ?_ ?_
 refine pJ 9 5 dq kq ?_
 refine vM 1 [.arr 1 ((frL l i).map (aa.int .i64)) ((frL l i).map (aa.int .i64)).length,.arr 1 ((toL (frL l i).length).map (aa.int .i64)) ((toL (frL l i).length).map (aa.int .i64)).length,.arr 5 (([]:List (Ty)).map Ty.enc) 0] (by simp [cb]) ?_
 refine qZ [(0,.imm (l.map Ty.enc)),(3,.own 0 0 (frL l i).length),(4,.own 1 0 (toL (frL l i).length).length),(9,.own 2 0 0)] [.arr 1 ((frL l i).map (aa.int .i64)) ((frL l i).map (aa.int .i64)).length,.arr 1 ((toL (frL l i).length).map (aa.int .i64)) ((toL (frL l i).length).map (aa.int .i64)).length,.arr 5 (([]:List (Ty)).map Ty.enc) 0] ?_ ?_
 refine ar ?_ ?_
 refine qU 1 [(0,.imm (l.map Ty.enc)),(3,.own 0 0 (frL l i).length),(4,.own 1 0 (toL (frL l i).length).length),(9,.own 2 0 0),(10,.int .i64 0)] ?_ ?_
 refine qB 4 ?_ ?_ ?_
 refine bR (σ:=Nat) (fun k=>[(0,.imm (l.map Ty.enc)),(3,.own 0 0 (frL l l.length).length),(4,.own 1 0 (toL (frL l l.length).length).length),(9,.own 2 0 (fW l k).length),(10,.int .i64 ((k:Nat):Int))]) (fun k=>[.arr 1 ((frL l l.length).map (aa.int .i64)) ((frL l l.length).map (aa.int .i64)).length,.arr 1 ((toL (frL l l.length).length).map (aa.int .i64)) ((toL (frL l l.length).length).map (aa.int .i64)).length,.arr 5 ((fW l k).map Ty.enc) 0]) (fun k=>k≤l.length) (fun k=>l.length - k) 0 kq (by exact Nat.zero_le _) ⟨⟨kq,(Eq.trans (b:=.own 0 0 (frL l i).length) kq (by rw [show i=l.length by omega])),(Eq.trans (b:=.own 1 0 (toL (frL l i).length).length) kq (by rw [show i=l.length by omega])),kq,kq,trivial⟩,by simp [aV,aa.bel],by simp,(Eq.trans (b:=[.arr 1 ((frL l i).map (aa.int .i64)) ((frL l i).map (aa.int .i64)).length,.arr 1 ((toL (frL l i).length).map (aa.int .i64)) ((toL (frL l i).length).map (aa.int .i64)).length,.arr 5 (([]:List (Ty)).map Ty.enc) 0]) kq (by rw [show i=l.length by omega];rfl)),by simp [ai.belO,bM,Ty.enc_v]⟩ ?_
 rintro k hk
 have hcl:=C4 l k
 have htl:=uV (frL l l.length).length
 refine ar ?_ ?_
 refine qV 2 ?_ ?_
 refine qy (au (l:=l) (enc:=Ty.enc) kq bf) ?_ ?_ ?_
 refine qR 1 [(0,.imm (l.map Ty.enc)),(3,.own 0 0 (frL l l.length).length),(4,.own 1 0 (toL (frL l l.length).length).length),(9,.own 2 0 (fW l k).length),(10,nI k),(51,.bool (decide (((k:Nat):Int)<((l.length:Nat):Int))))] [.arr 1 ((frL l l.length).map (aa.int .i64)) ((frL l l.length).map (aa.int .i64)).length,.arr 1 ((toL (frL l l.length).length).map (aa.int .i64)) ((toL (frL l l.length).length).map (aa.int .i64)).length,.arr 5 ((fW l k).map Ty.enc) 0] ?_ ?_
 by_cases hb4:((k:Nat):Int)<((l.length:Nat):Int)
 refine qt (decide_eq_true hb4) ?_ ?_
 refine qK ?_ ?_
 refine qz [(0,.imm (l.map Ty.enc)),(3,.own 0 0 (frL l l.length).length),(4,.own 1 0 (toL (frL l l.length).length).length),(9,.own 2 0 (fW l k).length),(10,nI k)] ?_ ?_
 refine ar ?_ ?_
 refine qB 5 ?_ ?_ ?_
 refine qo ?_ ?_
 refine qr 3 ?_ ?_
 refine qy ((ax (k:=.i64) (l:=l) (enc:=Ty.enc) (i:=((k:Nat):Int)) Ty.zero kq bf bX bg oq oq).trans (congrArg (fun cs=>some (aa.pimm cs 0,_)) (aO (l.getD k Ty.zero)))) ?_ ?_ ?_
 refine qr 3 ?_ ?_
 refine vZ (args:=[.agg [.int .i64 ((l.getD k Ty.zero).kind),.str (l.getD k Ty.zero).name,.int .i64 ((l.getD k Ty.zero).n),.imm ((l.getD k Ty.zero).names.map aa.str),.imm ((l.getD k Ty.zero).kids.map Ty.enc)],.own 0 0 (frL l l.length).length,.own 1 0 (toL (frL l l.length).length).length]) (F:=[.arr 1 ((frL l l.length).map (aa.int .i64)) ((frL l l.length).map (aa.int .i64)).length,.arr 1 ((toL (frL l l.length).length).map (aa.int .i64)) ((toL (frL l l.length).length).map (aa.int .i64)).length,.arr 5 ((fW l k).map Ty.enc) 0]) kq kq kq kq (wv (l.getD k Ty.zero) (frL l l.length) (toL (frL l l.length).length) (hl2 _) oq oq) [.arr 1 ((frL l l.length).map (aa.int .i64)) ((frL l l.length).map (aa.int .i64)).length,.arr 1 ((toL (frL l l.length).length).map (aa.int .i64)) ((toL (frL l l.length).length).map (aa.int .i64)).length,.arr 5 ((fW l k).map Ty.enc) 0] kq ER (by simp [Ty.v]) ER ?_
 refine qr 1 ?_ ?_
 refine qY (bh (o:=2) (len:=((fW l k).length)) (l:=(fW l k)) (xs:=[(renT (bt (frL l l.length) (toL (frL l l.length).length)) (l.getD k Ty.zero))]) (enc:=Ty.enc) (sz:=5) (fr:=0) (x:=(.full [Ty.v (renT (bt (frL l l.length) (toL (frL l l.length).length)) (l.getD k Ty.zero))])) kq bf bX bf rfl kq rfl rfl (Eq.trans (b:=some [Ty.v (renT (bt (frL l l.length) (toL (frL l l.length).length)) (l.getD k Ty.zero))]) kq (by simp [Ty.enc_v])) ⟨by decide,by kernel_rfl⟩ gQ Bf Bf) ?_ ?_ ?_
 refine qr 1 ?_ ?_
 refine qe ?_ ?_
 refine ak ?_
 refine ab ?_
 refine qZ [(0,.imm (l.map Ty.enc)),(3,.own 0 0 (frL l l.length).length),(4,.own 1 0 (toL (frL l l.length).length).length),(9,.own 2 0 ((fW l k)++[(renT (bt (frL l l.length) (toL (frL l l.length).length)) (l.getD k Ty.zero))]).length),(10,nI k)] [.arr 1 ((frL l l.length).map (aa.int .i64)) ((frL l l.length).map (aa.int .i64)).length,.arr 1 ((toL (frL l l.length).length).map (aa.int .i64)) ((toL (frL l l.length).length).map (aa.int .i64)).length,.arr 5 (((fW l k)++[(renT (bt (frL l l.length) (toL (frL l l.length).length)) (l.getD k Ty.zero))]).map Ty.enc) 0] ?_ ?_
 refine qo ?_ ?_
 refine qr 1 ?_ ?_
 refine qy (aN (a:=((k:Nat):Int)) (b:=1) kq oq oq) ?_ ?_ ?_
 refine qr 1 ?_ ?_
 refine qe ?_ ?_
 refine ab ⟨k+1,?_,?_,⟨⟨kq,kq,kq,(Eq.trans (b:=.own 2 0 ((fW l k)++[(renT (bt (frL l l.length) (toL (frL l l.length).length)) (l.getD k Ty.zero))]).length) kq (by rw [sB oq])),kq,trivial⟩,by simp [aV,aa.bel],by simp,(Eq.trans (b:=[.arr 1 ((frL l l.length).map (aa.int .i64)) ((frL l l.length).map (aa.int .i64)).length,.arr 1 ((toL (frL l l.length).length).map (aa.int .i64)) ((toL (frL l l.length).length).map (aa.int .i64)).length,.arr 5 (((fW l k)++[(renT (bt (frL l l.length) (toL (frL l l.length).length)) (l.getD k Ty.zero))]).map Ty.enc) 0]) kq (by rw [sB oq])),by simp [ai.belO,bM,Ty.enc_v]⟩⟩
 · omega
 · omega
 iterate 23 kernel_rfl
 refine qf (decide_eq_false hb4) ?_ ?_
 refine bC 4 kq kq ?_
 refine af ?_
 refine af ?_
 refine aA ?_
 refine ab ?_
 refine qz [(9,.own 2 0 (fW l k).length)] ?_ ?_
 refine qU 2 [(2,.own 2 0 (fW l k).length)] ?_ ?_
 refine bb kq ?_
 refine eP (l:=[.own 2 0 (fW l k).length]) (.inr rfl) kq ?_
 · rw [CP oq]
   simp [aK,aa.frz,bo]
 iterate 29 kernel_rfl
def dA (t:Ty):List Int:=(aF t).map Occ.n
def dW (l:List Ty):List Int:=(aI l).map Occ.n
theorem dC (t:Ty) (l:List Ty):dW (t::l)=dA t++dW l:=by simp only [dW,dA,aI,List.map_append]
theorem F8 (t:Ty):dA t=((if t.kind=6 then [t.n] else [])++dW t.kids)++(if t.kind=5∧t.n≠0 then [t.n] else []):=by
 unfold dA dW
 rw [kr,List.map_append,List.map_append]
 congr 1
 · congr 1
   unfold sh;split <;> rfl
 · unfold rN;split <;> rfl
theorem o6 (k:Int) (x:List UInt8) (n:Int) (l:List (List UInt8)) (ks:List Ty):dA (.mk k x n l ks)=((if k=6 then [n] else [])++dW ks)++(if k=5∧n≠0 then [n] else []):=F8 _
theorem pq {F:List Int} {n m:Int}:m∈cN F n↔m∈F∨m=n:=by
 unfold cN
 split
 · rename_i h
   rw [List.contains_iff_mem] at h
   exact ⟨.inl,fun h'=>h'.elim id (fun e=>e▸h)⟩
 · simp
theorem jA {m:Int}:∀ (xs F:List Int),m∈xs.foldl cN F↔m∈F∨m∈xs
 | [],F=>by simp
 | x::xs,F=>by rw [List.foldl_cons,jA xs,pq,List.mem_cons,or_assoc]
theorem Ax {F:List Int} {n:Int} (h:n∈F):cN F n=F:=by unfold cN;rw [if_pos (List.contains_iff_mem.2 h)]
theorem Cy {A F:List Int} {x:Int}:(cN A x).foldl cN F=cN (A.foldl cN F) x:=by
 by_cases h:x∈A
 · rw [Ax h,Ax ((jA A F).2 (.inr h))]
 · unfold cN
   rw [if_neg (by rw [List.contains_iff_mem];exact h),List.foldl_append];rfl
theorem tB:∀ (xs A F:List Int),(xs.foldl cN A).foldl cN F=xs.foldl cN (A.foldl cN F)
 | [],A,F=>rfl
 | x::xs,A,F=>by rw [List.foldl_cons,List.foldl_cons,tB xs,Cy]
theorem Hr (F:List Int) (t:Ty):stF F t=(dA t).foldl cN F:=tB (dA t) [] F
theorem Ey:∀ (l:List Ty) (F:List Int),l.foldl stF F=(dW l).foldl cN F
 | [],F=>rfl
 | t::l,F=>by rw [List.foldl_cons,Ey l,Hr,dC,List.foldl_append]
theorem uQ (l:List Ty):frL l l.length=(dW l).foldl cN []:=by rw [frL,List.take_length,Ey]
theorem mO {t:Ty} {n:Int}:∀ {l:List Ty},t∈l→n∈dA t→n∈dW l
 | [],h,_=>by simp at h
 | x::l,h,hn=>by
  rw [dC,List.mem_append]
  rcases List.mem_cons.1 h with rfl|h
  · exact .inl hn
  · exact .inr (mO h hn)
theorem EQ {l:List Ty} {t:Ty} {n:Int} (h:t∈l) (hn:n∈dA t):n∈frL l l.length:=by
 rw [uQ,jA];exact .inr (mO h hn)
theorem ub {k n:Int} {x:List UInt8} {l:List (List UInt8)} {ks:List Ty} (h:isV k n=true):n∈dA (.mk k x n l ks):=by
 rw [o6]
 simp only [isV,Bool.or_eq_true,decide_eq_true_eq,Bool.and_eq_true] at h
 simp only [List.mem_append]
 rcases h with h|h
 · rw [if_pos h];exact .inl (.inl zq)
 · rw [if_pos h];exact .inr zq
theorem ut {k n m:Int} {x:List UInt8} {l:List (List UInt8)} {ks:List Ty} (h:m∈dW ks):m∈dA (.mk k x n l ks):=by
 rw [o6]
 simp only [List.mem_append]
 exact .inl (.inr h)
mutual
theorem qh {f g:Int→Int}:∀ (t:Ty),(∀ n∈dA t,f n=g n)→renT f t=renT g t
 | .mk k x n l ks,h=>by
  rw [renT,renT,oA ks fun m hm=>h m (ut hm)]
  congr 1
  split
  · rename_i hv;exact h n (ub hv)
  · rfl
theorem oA {f g:Int→Int}:∀ (l:List Ty),(∀ n∈dW l,f n=g n)→eO f l=eO g l
 | [],_=>rfl
 | t::l,h=>by
  rw [dC] at h
  rw [eO,eO,qh t fun n hn=>h n (List.mem_append_left _ hn),oA l fun n hn=>h n (List.mem_append_right _ hn)]
end
theorem F3 {f:Int→Int} {k n:Int} (h:isV k n=true) (h0:f n≠0):isV k (f n)=true:=by
 simp only [isV,Bool.or_eq_true,decide_eq_true_eq,Bool.and_eq_true] at h ⊢
 rcases h with h|h
 · exact .inl h
 · exact .inr ⟨h.1,h0⟩
mutual
theorem xX {f g h:Int→Int}:∀ (t:Ty),(∀ n∈dA t,g n≠0∧h (g n)=f n)→renT h (renT g t)=renT f t
 | .mk k x n l ks,hh=>by
  rw [renT,renT,renT,sT ks fun m hm=>hh m (ut hm)]
  congr 1
  by_cases hv:isV k n=true
  · have:=hh n (ub hv)
    rw [if_pos hv,if_pos (F3 hv this.1),if_pos hv,this.2]
  · rw [if_neg hv,if_neg hv,if_neg hv]
theorem sT {f g h:Int→Int}:∀ (l:List Ty),(∀ n∈dW l,g n≠0∧h (g n)=f n)→eO h (eO g l)=eO f l
 | [],_=>rfl
 | t::l,hh=>by
  rw [dC] at hh
  rw [eO,eO,eO,xX t fun n hn=>hh n (List.mem_append_left _ hn),sT l fun n hn=>hh n (List.mem_append_right _ hn)]
end
mutual
theorem CQ {g:Int→Int}:∀ (t:Ty),(∀ n∈dA t,g n≠0)→dA (renT g t)=(dA t).map g
 | .mk k x n l ks,h=>by
  have ih:=mW ks fun m hm=>h m (ut hm)
  rw [renT,o6,o6]
  simp only [List.map_append,ih]
  by_cases h6:k=6
  · have hv:isV k n=true:=by simp [isV,h6]
    rw [if_pos h6,if_pos h6,if_pos hv,if_neg oq,if_neg oq];rfl
  · rw [if_neg h6,if_neg h6]
    by_cases h5:k=5∧n≠0
    · have hv:isV k n=true:=by simp [isV,h5]
      rw [if_pos hv,if_pos ⟨h5.1,h n (ub hv)⟩,if_pos h5];rfl
    · have hv:¬ isV k n=true:=by
       simp only [isV,Bool.or_eq_true,decide_eq_true_eq,Bool.and_eq_true]
       rintro (hc|hc)
       · exact h6 hc
       · exact h5 hc
      rw [if_neg hv,if_neg h5];rfl
theorem mW {g:Int→Int}:∀ (l:List Ty),(∀ n∈dW l,g n≠0)→dW (eO g l)=(dW l).map g
 | [],_=>rfl
 | t::l,h=>by
  rw [dC] at h
  rw [eO,dC,dC,List.map_append,CQ t fun n hn=>h n (List.mem_append_left _ hn),mW l fun n hn=>h n (List.mem_append_right _ hn)]
end
theorem vu:∀ (F:List Int) (k:Nat) (n:Int),n∈F→bt F ((List.range F.length).map fun i=>((i+k+1:Nat):Int)) n=(am n (atF F k)).getD 0
 | [],k,n,h=>by simp at h
 | a::F,k,n,h=>by
  rw [List.length_cons,List.range_succ_eq_map,List.map_cons,bt,atF,am]
  by_cases e:a=n
  · rw [if_pos e,if_pos e.symm];simp
  · rw [if_neg e,if_neg (fun q=>e q.symm),List.map_map]
    have hm:n∈F:=by
     rcases List.mem_cons.1 h with h|h
     · exact absurd h.symm e
     · exact h
    rw [← vu F (k+1) n hm]
    congr 1
    refine List.map_congr_left fun i _=>?_
    simp only [Function.comp];omega
theorem th (l:List Ty):lR l=bn l:=by
 refine List.map_congr_left fun t ht=>qh t fun n hn=>?_
 have:=vu (frL l l.length) 0 n (EQ ht hn)
 simp only [Nat.add_zero] at this
 exact this.symm
theorem Gi {g:Int→Int} {F:List Int} {n:Int} (h:∀ a∈F,g a=g n→a=n):cN (F.map g) (g n)=(cN F n).map g:=by
 unfold cN
 by_cases hm:n∈F
 · rw [if_pos (List.contains_iff_mem.2 (List.mem_map_of_mem hm)),if_pos (List.contains_iff_mem.2 hm)]
 · rw [if_neg,if_neg (fun hc=>hm (List.contains_iff_mem.1 hc)),List.map_append]
   · rfl
   · rw [List.contains_iff_mem]
     intro hc
     obtain ⟨a,ha,e⟩:=List.mem_map.1 hc
     exact hm (h a ha e▸ha)
theorem xN {g:Int→Int}:∀ (xs F:List Int),(∀ a,a∈F∨a∈xs→∀ b,b∈F∨b∈xs→g a=g b→a=b)→(xs.map g).foldl cN (F.map g)=(xs.foldl cN F).map g
 | [],F,_=>rfl
 | x::xs,F,h=>by
  rw [List.map_cons,List.foldl_cons,List.foldl_cons,Gi fun a ha e=>h a (.inl ha) x (.inr zq) e]
  refine xN xs (cN F x) fun a ha b hb e=>h a ?_ b ?_ e
  · rcases ha with ha|ha
    · rcases pq.1 ha with ha|ha
      · exact .inl ha
      · exact .inr (by simp [ha])
    · exact .inr (by simp [ha])
  · rcases hb with hb|hb
    · rcases pq.1 hb with hb|hb
      · exact .inl hb
      · exact .inr (by simp [hb])
    · exact .inr (by simp [hb])
theorem xl {g:Int→Int}:∀ (F:List Int) (k:Nat) (n:Int),(∀ a∈F,g a=g n→a=n)→am (g n) (atF (F.map g) k)=am n (atF F k)
 | [],k,n,_=>rfl
 | a::F,k,n,h=>by
  rw [List.map_cons,atF,atF,am,am]
  by_cases e:n=a
  · rw [if_pos e,if_pos (congrArg g e)]
  · rw [if_neg e,if_neg (fun q=>e (h a zq q.symm).symm)]
    exact xl F (k+1) n fun b hb=>h b (by simp [hb])
theorem DV (l:List Ty) (g:Int→Int) (h0:∀ n∈dW l,g n≠0) (hi:∀ a∈dW l,∀ b∈dW l,g a=g b→a=b):lR (l.map (renT g))=lR l:=by
 have hF:frL (l.map (renT g)) (l.map (renT g)).length=(frL l l.length).map g:=by
  rw [uQ,uQ,← eV,mW l h0]
  exact xN (dW l) [] fun a ha b hb e=>hi a (ha.elim zq id) b (hb.elim zq id) e
 unfold lR
 rw [List.map_map]
 refine List.map_congr_left fun t ht=>xX t fun n hn=>?_
 have hm:=mO ht hn
 refine ⟨h0 n hm,?_⟩
 unfold Hw Jb atM
 rw [hF,xl _ 0 n fun a ha e=>?_]
 rw [uQ,jA] at ha
 exact hi a (ha.elim zq id) n hm e
mutual
theorem beq_refl:∀ a:Ty,a.beq a=true
 | .mk k x n l ks=>by
  rw [Ty.beq];simp [iK ks]
theorem iK:∀ a:List Ty,Ty.beqL a a=true
 | []=>rfl
 | x::a=>by
  simp only [Ty.beqL,Bool.and_eq_true]
  exact ⟨beq_refl x,iK a⟩
end
structure Vr where
 row:Bool
 lv:Int
 bd:Bool
 val:Ty
 names:List (List UInt8)
def Vr.v (x:Vr):aa:=.agg [.bool x.row,.int .i64 x.lv,.bool x.bd,.int .i64 x.val.kind,.str x.val.name,.int .i64 x.val.n,.imm (x.val.names.map .str),.imm (x.val.kids.map Ty.enc),.imm (x.names.map .str)]
def Vr.zero:Vr:=⟨false,0,false,Ty.zero,[]⟩
abbrev St:=List (Int×Vr)
abbrev mS (m:St):ai:=.map (ae (aa.int .i64) Vr.v m)
abbrev bS (lv:Int):ai:=.box [.int .i64 lv,.map 1]
@[simp] theorem AK (k:Nat) (l:St):((ae (aa.int .i64) Vr.v l).all fun e=>e.1.bel k && e.2.bel k)=true:=by
 simp [ae,Vr.v,List.all_eq_true]
def dP (m:St):Prop:=∀ n x,am n m=some x→x.names.length<100000000
def vOk (m:St) (t:Ty):Bool:=if isV t.kind t.n=true then (match am t.n m with
 | none=>false
 | some x=>(x.row==(t.kind==5)) && (!x.row || x.names==t.names)) else true
mutual
def i9 (m:St):Ty→Bool
 | .mk k x n l ks=>vOk m (.mk k x n l ks) && cq m ks
def cq (m:St):List Ty→Bool
 | []=>true
 | t::l=>i9 m t && cq m l
end
theorem EK (m:St) (t:Ty):i9 m t=(vOk m t && cq m t.kids):=by cases t;rfl
theorem nh (m:St):∀ l,cq m l=l.all (i9 m)
 | []=>rfl
 | t::l=>by rw [cq,nh m l,List.all_cons]
theorem py (m:St) (l:List Ty) (k:Nat) (h:k<l.length):cq m (l.take (k+1))=(cq m (l.take k) && i9 m (l.getD k Ty.zero)):=by
 rw [e7 l k h,nh,nh,List.all_append];simp
def cD (m:St) (t:Ty):Bool:=cO t && i9 m t
def hpS (lv:Int) (m:St):ac:=[bS lv,mS m]
def hpH (lv:Int) (m:St) (u:Ty) (b:Bool):ac:=[bS lv,mS m,.box [.ptr 0 0],u.bx,.box [.bool b]]
theorem GM {m:St} {t:Ty} (h:¬ isV t.kind t.n=true):vOk m t=true:=by rw [vOk,if_neg h]
theorem H2 {m:St} {t:Ty} (h:isV t.kind t.n=true) (hm:am t.n m=none):vOk m t=false:=by rw [vOk,if_pos h,hm]
theorem AN {m:St} {t:Ty} {x:Vr} (h:isV t.kind t.n=true) (hm:am t.n m=some x):vOk m t=((x.row==(t.kind==5)) && (!x.row || x.names==t.names)):=by rw [vOk,if_pos h,hm]
noncomputable def J2:Code:=aE Tryz.f103
theorem eG {p:Prop} (h:p:=by simp [aK]):p:=h
theorem sW (t u:Ty) (lv:Int) (m:St) (b:Bool) (hs:t.sz<100000000) (hm:dP m):av cx 103 [Ty.v t,.ptr 2 0,.ptr 4 0] (hpH lv m u b) (fun v h=>v=(.tup [])∧h=hpH lv m u (b && vOk m t)):=by
 have hz1:=bK t
 refine ap (cx:=cx) 43 5 [] Tryz.func103 rfl rfl rfl rfl rfl zq ?_
 show wpA cx 43 5 (at_ J2 []) _ _ _
 refine qZ [(0,Ty.v t),(1,.ptr 2 0),(2,.ptr 4 0)] [bS lv,mS m,.box [.ptr 0 0],u.bx,.box [.bool (b)]] ?_ ?_
 refine qW 1 [(1,.ptr 2 0),(2,.ptr 4 0),(3,.ptr 5 0)] [bS lv,mS m,.box [.ptr 0 0],u.bx,.box [.bool (b)],t.bx] ?_ ?_
 refine ar ?_ ?_
 refine qV 1 ?_ ?_
 refine cM (args:=[.agg [.int .i64 (t.kind),.str t.name,.int .i64 (t.n),.imm (t.names.map aa.str),.imm (t.kids.map Ty.enc)]]) (v:=.bool (isV (t.kind) (t.n))) (h':=[bS lv,mS m,.box [.ptr 0 0],u.bx,.box [.bool (b)],t.bx]) [bS lv,mS m,.box [.ptr 0 0],u.bx,.box [.bool (b)],t.bx] kq kq kq kq kq (nO (wP (t.kind) (t.n) t.name) rfl rfl rfl) ?_
 refine qR 1 [(1,.ptr 2 0),(2,.ptr 4 0),(3,.ptr 5 0),(8,.bool (!(isV (t.kind) (t.n))))] [bS lv,mS m,.box [.ptr 0 0],u.bx,.box [.bool (b)],t.bx] ?_ ?_
 by_cases hb1:(isV (t.kind) (t.n))=true
 refine qf (x:=(!(isV (t.kind) (t.n)))) (congrArg not (hb1)) ?_ ?_
 refine qK ?_ ?_
 refine qz [(1,.ptr 2 0),(2,.ptr 4 0),(3,.ptr 5 0)] ?_ ?_
 refine ar ?_ ?_
 refine cK cxM kq aB (bv ?_)
 refine qu 6 ?_ ?_
 rcases hm2:am (t.n) m with _|x2
 refine qd (e8 (ok:=true) (o:=1) (ek:=(aa.int .i64)) (ev:=Vr.v) (l:=m) (k:=(t.n)) dH hm2 kq jo ty3 rfl mB kq) ?_ ?_ ?_ ?_
 refine qu 6 ?_ ?_
 refine cn kq ⟨kq,?_⟩
 refine ab ?_
 refine qZ [(2,.ptr 4 0),(3,.ptr 5 0),(4,.ptr 6 0),(5,.bool false)] [bS lv,mS m,.box [.ptr 0 0],u.bx,.box [.bool (b)],t.bx,.box [.bool false,.int .i64 0,.bool false,.int .i64 0,.str [],.int .i64 0,.full [],.full [],.full []]] ?_ ?_
 refine qo ?_ ?_
 refine qr 2 ?_ ?_
 by_cases hb3:(b)=true
 refine gm 19 (.bool (b)) (.bool true) (gw dt) kq (congrArg aa.bool (hb3)) ?_
 refine gm 20 (.bool (b)) (.bool true) (gw dt) kq (congrArg aa.bool (hb3)) ?_
 refine qr 23 ?_ ?_
 refine qe ?_ ?_
 refine aL (l:=[]) (.inl rfl) kq eG eG eG ?_ ?_
 refine Eq.trans (b:=[bS lv,mS m,.box [.ptr 0 0],u.bx,.box [.bool false]]) kq ?_
 rotate_left
 · simp [ai.belO,hpH,Ty.v]
 iterate 2 kernel_rfl
 refine gm 19 (.bool (b)) (.bool false) (gw dt) kq (congrArg aa.bool (Bool.eq_false_iff.2 hb3)) ?_
 refine gm 20 (.bool (b)) (.bool false) (gw dt) kq (congrArg aa.bool (Bool.eq_false_iff.2 hb3)) ?_
 refine qr 23 ?_ ?_
 refine qe ?_ ?_
 refine aL (l:=[]) (.inl rfl) kq eG eG eG ?_ ?_
 refine Eq.trans (b:=[bS lv,mS m,.box [.ptr 0 0],u.bx,.box [.bool false]]) kq ?_
 rotate_left
 · simp [ai.belO,hpH,Ty.v]
 iterate 9 kernel_rfl
 refine qd (cH (ok:=true) (o:=1) (ek:=(aa.int .i64)) (ev:=Vr.v) (l:=m) (k:=(t.n)) (x:=x2) dH hm2 kq jo ty3 rfl mB kq) ?_ ?_ ?_ ?_
 refine qu 6 ?_ ?_
 refine cn kq ⟨kq,?_⟩
 refine ab ?_
 refine qZ [(2,.ptr 4 0),(3,.ptr 5 0),(4,.ptr 6 0),(5,.bool true)] [bS lv,mS m,.box [.ptr 0 0],u.bx,.box [.bool (b)],t.bx,.box [.bool (x2.row),.int .i64 (x2.lv),.bool (x2.bd),.int .i64 (x2.val.kind),.str x2.val.name,.int .i64 (x2.val.n),.imm (x2.val.names.map aa.str),.imm (x2.val.kids.map Ty.enc),.imm (x2.names.map aa.str)]] ?_ ?_
 refine qo ?_ ?_
 refine qr 2 ?_ ?_
 by_cases hb4:(b)=true
 refine gm 19 (.bool (b)) (.bool true) (gw dt) kq (congrArg aa.bool (hb4)) ?_
 refine gm 20 (.bool (b)) (.bool true) (gw dt) kq (congrArg aa.bool (hb4)) ?_
 refine qr 11 ?_ ?_
 by_cases hb5:((x2.row)==((t.kind)==5))=true
 refine gm 29 (.bool ((x2.row)==((t.kind)==5))) (.bool true) (gw dt) kq (congrArg aa.bool (hb5)) ?_
 refine gm 30 (.bool ((x2.row)==((t.kind)==5))) (.bool true) (gw dt) kq (congrArg aa.bool (hb5)) ?_
 refine gm 31 (.bool ((x2.row)==((t.kind)==5))) (.bool true) (gw dt) kq (congrArg aa.bool (hb5)) ?_
 refine qr 4 ?_ ?_
 by_cases hb6:(x2.row)=true
 refine gm 34 (.bool (!(x2.row))) (.bool false) (gw dt) kq (congrArg aa.bool (congrArg not (hb6))) ?_
 refine gm 35 (.bool (!(x2.row))) (.bool false) (gw dt) kq (congrArg aa.bool (congrArg not (hb6))) ?_
 refine qr 4 ?_ ?_
 refine bp (args:=[.imm (x2.names.map aa.str),.imm (t.names.map aa.str)]) kq kq kq kq (iW x2.names t.names (by have:=hm _ _ aq;omega)) (by simp [Ty.v,bm,Occ.v]) (by simp [Ty.v]) (by simp [Ty.v,a7]) ?_
 refine qr 3 ?_ ?_
 refine qe ?_ ?_
 refine aL (l:=[]) (.inl rfl) kq eG eG eG ?_ ?_
 refine Eq.trans (b:=[bS lv,mS m,.box [.ptr 0 0],u.bx,.box [.bool (x2.names==t.names)]]) kq ?_
 rotate_left
 · simp [ai.belO,hpH,Ty.v]
 iterate 3 kernel_rfl
 refine gm 34 (.bool (!(x2.row))) (.bool true) (gw dt) kq (congrArg aa.bool (congrArg not (Bool.eq_false_iff.2 hb6))) ?_
 refine gm 35 (.bool (!(x2.row))) (.bool true) (gw dt) kq (congrArg aa.bool (congrArg not (Bool.eq_false_iff.2 hb6))) ?_
 refine qr 8 ?_ ?_
 refine qe ?_ ?_
 refine aL (l:=[]) (.inl rfl) kq eG eG eG ?_ ?_
 refine Eq.trans (b:=[bS lv,mS m,.box [.ptr 0 0],u.bx,.box [.bool true]]) kq ?_
 rotate_left
 · simp [ai.belO,hpH,Ty.v]
 iterate 3 kernel_rfl
 refine gm 29 (.bool ((x2.row)==((t.kind)==5))) (.bool false) (gw dt) kq (congrArg aa.bool (Bool.eq_false_iff.2 hb5)) ?_
 refine gm 30 (.bool ((x2.row)==((t.kind)==5))) (.bool false) (gw dt) kq (congrArg aa.bool (Bool.eq_false_iff.2 hb5)) ?_
 refine gm 31 (.bool ((x2.row)==((t.kind)==5))) (.bool false) (gw dt) kq (congrArg aa.bool (Bool.eq_false_iff.2 hb5)) ?_
 refine qr 12 ?_ ?_
 refine qe ?_ ?_
 refine aL (l:=[]) (.inl rfl) kq eG eG eG ?_ ?_
 refine Eq.trans (b:=[bS lv,mS m,.box [.ptr 0 0],u.bx,.box [.bool false]]) kq ?_
 rotate_left
 · simp [ai.belO,hpH,Ty.v]
 iterate 3 kernel_rfl
 refine gm 19 (.bool (b)) (.bool false) (gw dt) kq (congrArg aa.bool (Bool.eq_false_iff.2 hb4)) ?_
 refine gm 20 (.bool (b)) (.bool false) (gw dt) kq (congrArg aa.bool (Bool.eq_false_iff.2 hb4)) ?_
 refine qr 23 ?_ ?_
 refine qe ?_ ?_
 refine aL (l:=[]) (.inl rfl) kq eG eG eG ?_ ?_
 refine Eq.trans (b:=[bS lv,mS m,.box [.ptr 0 0],u.bx,.box [.bool false]]) kq ?_
 rotate_left
 · simp [ai.belO,hpH,Ty.v]
 iterate 14 kernel_rfl
 refine qt (x:=(!(isV (t.kind) (t.n)))) (congrArg not (Bool.eq_false_iff.2 hb1)) ?_ ?_
 refine bb kq ?_
 apply aR
 refine aL (l:=[]) (.inr rfl) kq eG eG eG ?_ ?_
 refine Eq.trans (b:=[bS lv,mS m,.box [.ptr 0 0],u.bx,.box [.bool (b)]]) kq ?_
 rotate_left
 · simp [ai.belO,hpH,Ty.v]
 iterate 6 kernel_rfl
 all_goals
  refine congrArg (hpH lv m u) ?_
  first|(rw [GM aq,Bool.and_true];done)|(rw [H2 aq aq,Bool.and_false];done)|(rw [AN aq aq];cases b <;> simp_all;done)|(rw [AN aq aq];simp_all;done)
theorem kM {p:Prop} (h:p:=by simp [ai.belO,hpH,Ty.v]):p:=h
theorem wa (t u:Ty) (lv:Int) (m:St) (b:Bool) (hs:t.sz<100000000) (hm:dP m):av cx 54 [Ty.v t,.fn (.func 103) [] [.ptr 2 0,.ptr 4 0]] (hpH lv m u b) (fun v h=>v=(.tup [])∧h=hpH lv m u (b && i9 m t)):=by
 induction hN:t.sz using Nat.strongRecOn generalizing t u b with|_ N ih =>
 have ihV:∀ (t' u:Ty) (b:Bool),t'.sz<t.sz→av cx 54 [t'.v,.fn (.func 103) [] [.ptr 2 0,.ptr 4 0]] (hpH lv m u b) (fun v h=>v=.tup []∧h=hpH lv m u (b && i9 m t')):=fun t' u b h1=>ih _ (by rw [← hN];exact h1) t' u b oq rfl
 have hz2:=ct t
 refine ap (cx:=cx) 29 5 [] Tryz.func54 rfl rfl rfl rfl rfl zq ?_
 show wpA cx 29 5 (at_ c54 []) _ _ _
 refine qZ [(0,Ty.v t),(1,.fn (.func 103) [] [.ptr 2 0,.ptr 4 0])] [bS lv,mS m,.box [.ptr 0 0],u.bx,.box [.bool (b)]] ?_ ?_
 refine qW 1 [(1,.fn (.func 103) [] [.ptr 2 0,.ptr 4 0]),(2,.ptr 5 0)] [bS lv,mS m,.box [.ptr 0 0],u.bx,.box [.bool (b)],t.bx] ?_ ?_
 refine ar ?_ ?_
 refine qU 3 [(1,.fn (.func 103) [] [.ptr 2 0,.ptr 4 0]),(2,.ptr 5 0),(8,.bool ((t.kind) != 5))] ?_ ?_
 by_cases hb1:(t.kind)=5
 refine qf (x:=((t.kind) != 5)) (bne_eq_false_iff_eq.2 hb1) ?_ ?_
 refine qK ?_ ?_
 refine qz [(1,.fn (.func 103) [] [.ptr 2 0,.ptr 4 0]),(2,.ptr 5 0)] ?_ ?_
 refine ar ?_ ?_
 refine qV 2 ?_ ?_
 refine qy (au (l:=t.kids) (enc:=Ty.enc) kq bf) ?_ ?_ ?_
 refine qR 1 [(1,.fn (.func 103) [] [.ptr 2 0,.ptr 4 0]),(2,.ptr 5 0),(13,.imm (t.kids.map Ty.enc)),(14,nI t.kids.length),(15,.int .i64 0)] [bS lv,mS m,.box [.ptr 0 0],u.bx,.box [.bool (b)],t.bx] ?_ ?_
 refine qB 0 ?_ ?_ ?_
 refine bR (σ:=Nat) (fun k=>[(1,.fn (.func 103) [] [.ptr 2 0,.ptr 4 0]),(2,.ptr 5 0),(13,.imm (t.kids.map Ty.enc)),(14,.int .i64 ((t.kids.length:Nat):Int)),(15,.int .i64 ((k:Nat):Int))]) (fun k=>[bS lv,mS m,.box [.ptr 0 0],u.bx,.box [.bool ((b) && cq m (t.kids.take k))],t.bx]) (fun k=>k≤t.kids.length) (fun k=>t.kids.length - k) 0 kq (by exact Nat.zero_le _) ⟨⟨kq,kq,kq,kq,kq,trivial⟩,by simp [aV,aa.bel],by simp,(Eq.trans (b:=[bS lv,mS m,.box [.ptr 0 0],u.bx,.box [.bool (b)],t.bx]) kq (by simp [cq])),by simp [ai.belO]⟩ ?_
 rintro k hk
 refine qW 1 [(1,.fn (.func 103) [] [.ptr 2 0,.ptr 4 0]),(2,.ptr 5 0),(13,.imm (t.kids.map Ty.enc)),(14,nI t.kids.length),(15,nI k),(16,.bool (decide (((k:Nat):Int)<((t.kids.length:Nat):Int))))] [bS lv,mS m,.box [.ptr 0 0],u.bx,.box [.bool ((b) && cq m (t.kids.take k))],t.bx] ?_ ?_
 refine ar ?_ ?_
 by_cases hb2:((k:Nat):Int)<((t.kids.length:Nat):Int)
 refine qt (decide_eq_true hb2) ?_ ?_
 refine qK ?_ ?_
 refine qz [(1,.fn (.func 103) [] [.ptr 2 0,.ptr 4 0]),(2,.ptr 5 0),(13,.imm (t.kids.map Ty.enc)),(14,nI t.kids.length),(15,nI k)] ?_ ?_
 refine ar ?_ ?_
 refine qB 1 ?_ ?_ ?_
 refine qO ?_ ?_
 refine qy ((ax (k:=.i64) (l:=t.kids) (enc:=Ty.enc) (i:=((k:Nat):Int)) Ty.zero kq bf bX bg oq oq).trans (congrArg (fun cs=>some (aa.pimm cs 0,_)) (aO (t.kids.getD k Ty.zero)))) ?_ ?_ ?_
 refine qR 3 [(1,.fn (.func 103) [] [.ptr 2 0,.ptr 4 0]),(2,.ptr 5 0),(5,.ptr 6 0),(13,.imm (t.kids.map Ty.enc)),(14,nI t.kids.length),(15,nI k)] [bS lv,mS m,.box [.ptr 0 0],u.bx,.box [.bool ((b) && cq m (t.kids.take k))],t.bx,(t.kids.getD k Ty.zero).bx] ?_ ?_
 refine qo ?_ ?_
 refine qr 2 ?_ ?_
 refine aT (args:=[.agg [.int .i64 ((t.kids.getD k Ty.zero).kind),.str (t.kids.getD k Ty.zero).name,.int .i64 ((t.kids.getD k Ty.zero).n),.imm ((t.kids.getD k Ty.zero).names.map aa.str),.imm ((t.kids.getD k Ty.zero).kids.map Ty.enc)],.fn (.func 103) [] [.ptr 2 0,.ptr 4 0]]) (hs:=[bS lv,mS m,.box [.ptr 0 0],u.bx,.box [.bool ((b) && cq m (t.kids.take k))]]) (hs':=[.box [.int .i64 ((lv)),.map 1],mS m,.box [.ptr 0 0],u.bx,.box [.bool ((((b) && cq m (t.kids.take k)) && i9 m (t.kids.getD k Ty.zero)))]]) (aM:=[t.bx,(t.kids.getD k Ty.zero).bx]) kq kq kq kq kq (ihV (t.kids.getD k Ty.zero) u ((b) && cq m (t.kids.take k)) (b9 t k oq)) kM kM rfl kM kM kq ?_
 refine qe ?_ ?_
 refine ak ?_
 refine ab ?_
 refine qZ [(1,.fn (.func 103) [] [.ptr 2 0,.ptr 4 0]),(2,.ptr 5 0),(13,.imm (t.kids.map Ty.enc)),(14,nI t.kids.length),(15,nI k)] [.box [.int .i64 ((lv)),.map 1],mS m,.box [.ptr 0 0],u.bx,.box [.bool ((((b) && cq m (t.kids.take k)) && i9 m (t.kids.getD k Ty.zero)))],t.bx,(t.kids.getD k Ty.zero).bx] ?_ ?_
 refine qo ?_ ?_
 refine qy (aN (a:=((k:Nat):Int)) (b:=1) kq oq oq) ?_ ?_ ?_
 refine qr 1 ?_ ?_
 refine qe ?_ ?_
 refine ab ⟨k+1,?_,?_,⟨⟨kq,kq,kq,kq,kq,trivial⟩,by simp [aV,aa.bel],by simp,(Eq.trans (b:=[.box [.int .i64 ((lv)),.map 1],mS m,.box [.ptr 0 0],u.bx,.box [.bool ((((b) && cq m (t.kids.take k)) && i9 m (t.kids.getD k Ty.zero)))],t.bx]) kq (by rw [py m t.kids k oq,Bool.and_assoc])),by simp [ai.belO]⟩⟩
 · omega
 · omega
 iterate 19 kernel_rfl
 refine qf (decide_eq_false hb2) ?_ ?_
 refine bC 0 kq kq ?_
 refine af ?_
 refine af ?_
 refine aA ?_
 refine ab ?_
 refine qz [(1,.fn (.func 103) [] [.ptr 2 0,.ptr 4 0]),(2,.ptr 5 0)] ?_ ?_
 refine qU 3 [(1,.fn (.func 103) [] [.ptr 2 0,.ptr 4 0]),(2,.ptr 5 0),(25,.bool ((t.kind)==5))] ?_ ?_
 refine qt (beq_iff_eq.2 hb1) ?_ ?_
 refine qo ?_ ?_
 refine qr 2 ?_ ?_
 refine aT (args:=[.agg [.int .i64 (t.kind),.str t.name,.int .i64 (t.n),.imm (t.names.map aa.str),.imm (t.kids.map Ty.enc)],.ptr 2 0,.ptr 4 0]) (hs:=[bS lv,mS m,.box [.ptr 0 0],u.bx,.box [.bool ((b) && cq m (t.kids.take k))]]) (hs':=[.box [.int .i64 ((lv)),.map 1],mS m,.box [.ptr 0 0],u.bx,.box [.bool ((((b) && cq m (t.kids.take k)) && vOk m t))]]) (aM:=[t.bx]) kq kq kq kq kq (sW t u (lv) m ((b) && cq m (t.kids.take k)) oq oq) kM kM rfl kM kM kq ?_
 refine qe ?_ ?_
 refine aL (l:=[]) (.inl rfl) kq eG eG eG ?_ ?_
 refine Eq.trans (b:=[.box [.int .i64 ((lv)),.map 1],mS m,.box [.ptr 0 0],u.bx,.box [.bool ((((b) && cq m (t.kids.take k)) && vOk m t))]]) kq ?_
 rotate_left
 · simp [ai.belO,hpH,Ty.v]
 iterate 19 kernel_rfl
 refine qt (x:=((t.kind) != 5)) (bne_iff_ne.2 hb1) ?_ ?_
 refine qo ?_ ?_
 refine qr 2 ?_ ?_
 refine aT (args:=[.agg [.int .i64 (t.kind),.str t.name,.int .i64 (t.n),.imm (t.names.map aa.str),.imm (t.kids.map Ty.enc)],.ptr 2 0,.ptr 4 0]) (hs:=[bS lv,mS m,.box [.ptr 0 0],u.bx,.box [.bool (b)]]) (hs':=[.box [.int .i64 ((lv)),.map 1],mS m,.box [.ptr 0 0],u.bx,.box [.bool (((b) && vOk m t))]]) (aM:=[t.bx]) kq kq kq kq kq (sW t u (lv) m (b) oq oq) kM kM rfl kM kM kq ?_
 refine qN [(1,.fn (.func 103) [] [.ptr 2 0,.ptr 4 0]),(2,.ptr 5 0)] [.box [.int .i64 ((lv)),.map 1],mS m,.box [.ptr 0 0],u.bx,.box [.bool (((b) && vOk m t))],t.bx] ?_ ?_
 refine ar ?_ ?_
 refine qV 2 ?_ ?_
 refine qy (au (l:=t.kids) (enc:=Ty.enc) kq bf) ?_ ?_ ?_
 refine qR 1 [(1,.fn (.func 103) [] [.ptr 2 0,.ptr 4 0]),(2,.ptr 5 0),(13,.imm (t.kids.map Ty.enc)),(14,nI t.kids.length),(15,.int .i64 0)] [.box [.int .i64 ((lv)),.map 1],mS m,.box [.ptr 0 0],u.bx,.box [.bool (((b) && vOk m t))],t.bx] ?_ ?_
 refine qB 0 ?_ ?_ ?_
 refine bR (σ:=Nat) (fun k=>[(1,.fn (.func 103) [] [.ptr 2 0,.ptr 4 0]),(2,.ptr 5 0),(13,.imm (t.kids.map Ty.enc)),(14,.int .i64 ((t.kids.length:Nat):Int)),(15,.int .i64 ((k:Nat):Int))]) (fun k=>[bS lv,mS m,.box [.ptr 0 0],u.bx,.box [.bool ((((b) && vOk m t)) && cq m (t.kids.take k))],t.bx]) (fun k=>k≤t.kids.length) (fun k=>t.kids.length - k) 0 kq (by exact Nat.zero_le _) ⟨⟨kq,kq,kq,kq,kq,trivial⟩,by simp [aV,aa.bel],by simp,(Eq.trans (b:=[.box [.int .i64 ((lv)),.map 1],mS m,.box [.ptr 0 0],u.bx,.box [.bool (((b) && vOk m t))],t.bx]) kq (by simp [cq])),by simp [ai.belO]⟩ ?_
 rintro k hk
 refine qW 1 [(1,.fn (.func 103) [] [.ptr 2 0,.ptr 4 0]),(2,.ptr 5 0),(13,.imm (t.kids.map Ty.enc)),(14,nI t.kids.length),(15,nI k),(16,.bool (decide (((k:Nat):Int)<((t.kids.length:Nat):Int))))] [bS lv,mS m,.box [.ptr 0 0],u.bx,.box [.bool ((((b) && vOk m t)) && cq m (t.kids.take k))],t.bx] ?_ ?_
 refine ar ?_ ?_
 by_cases hb4:((k:Nat):Int)<((t.kids.length:Nat):Int)
 refine qt (decide_eq_true hb4) ?_ ?_
 refine qK ?_ ?_
 refine qz [(1,.fn (.func 103) [] [.ptr 2 0,.ptr 4 0]),(2,.ptr 5 0),(13,.imm (t.kids.map Ty.enc)),(14,nI t.kids.length),(15,nI k)] ?_ ?_
 refine ar ?_ ?_
 refine qB 1 ?_ ?_ ?_
 refine qO ?_ ?_
 refine qy ((ax (k:=.i64) (l:=t.kids) (enc:=Ty.enc) (i:=((k:Nat):Int)) Ty.zero kq bf bX bg oq oq).trans (congrArg (fun cs=>some (aa.pimm cs 0,_)) (aO (t.kids.getD k Ty.zero)))) ?_ ?_ ?_
 refine qR 3 [(1,.fn (.func 103) [] [.ptr 2 0,.ptr 4 0]),(2,.ptr 5 0),(5,.ptr 6 0),(13,.imm (t.kids.map Ty.enc)),(14,nI t.kids.length),(15,nI k)] [bS lv,mS m,.box [.ptr 0 0],u.bx,.box [.bool ((((b) && vOk m t)) && cq m (t.kids.take k))],t.bx,(t.kids.getD k Ty.zero).bx] ?_ ?_
 refine qo ?_ ?_
 refine qr 2 ?_ ?_
 refine aT (args:=[.agg [.int .i64 ((t.kids.getD k Ty.zero).kind),.str (t.kids.getD k Ty.zero).name,.int .i64 ((t.kids.getD k Ty.zero).n),.imm ((t.kids.getD k Ty.zero).names.map aa.str),.imm ((t.kids.getD k Ty.zero).kids.map Ty.enc)],.fn (.func 103) [] [.ptr 2 0,.ptr 4 0]]) (hs:=[bS lv,mS m,.box [.ptr 0 0],u.bx,.box [.bool ((((b) && vOk m t)) && cq m (t.kids.take k))]]) (hs':=[.box [.int .i64 ((lv)),.map 1],mS m,.box [.ptr 0 0],u.bx,.box [.bool ((((((b) && vOk m t)) && cq m (t.kids.take k)) && i9 m (t.kids.getD k Ty.zero)))]]) (aM:=[t.bx,(t.kids.getD k Ty.zero).bx]) kq kq kq kq kq (ihV (t.kids.getD k Ty.zero) u ((((b) && vOk m t)) && cq m (t.kids.take k)) (b9 t k oq)) kM kM rfl kM kM kq ?_
 refine qe ?_ ?_
 refine ak ?_
 refine ab ?_
 refine qZ [(1,.fn (.func 103) [] [.ptr 2 0,.ptr 4 0]),(2,.ptr 5 0),(13,.imm (t.kids.map Ty.enc)),(14,nI t.kids.length),(15,nI k)] [.box [.int .i64 ((lv)),.map 1],mS m,.box [.ptr 0 0],u.bx,.box [.bool ((((((b) && vOk m t)) && cq m (t.kids.take k)) && i9 m (t.kids.getD k Ty.zero)))],t.bx,(t.kids.getD k Ty.zero).bx] ?_ ?_
 refine qo ?_ ?_
 refine qy (aN (a:=((k:Nat):Int)) (b:=1) kq oq oq) ?_ ?_ ?_
 refine qr 1 ?_ ?_
 refine qe ?_ ?_
 refine ab ⟨k+1,?_,?_,⟨⟨kq,kq,kq,kq,kq,trivial⟩,by simp [aV,aa.bel],by simp,(Eq.trans (b:=[.box [.int .i64 ((lv)),.map 1],mS m,.box [.ptr 0 0],u.bx,.box [.bool ((((((b) && vOk m t)) && cq m (t.kids.take k)) && i9 m (t.kids.getD k Ty.zero)))],t.bx]) kq (by rw [py m t.kids k oq,Bool.and_assoc])),by simp [ai.belO]⟩⟩
 · omega
 · omega
 iterate 19 kernel_rfl
 refine qf (decide_eq_false hb4) ?_ ?_
 refine bC 0 kq kq ?_
 refine af ?_
 refine af ?_
 refine aA ?_
 refine ab ?_
 refine qz [(1,.fn (.func 103) [] [.ptr 2 0,.ptr 4 0]),(2,.ptr 5 0)] ?_ ?_
 refine qU 3 [(1,.fn (.func 103) [] [.ptr 2 0,.ptr 4 0]),(2,.ptr 5 0),(25,.bool ((t.kind)==5))] ?_ ?_
 refine qf (beq_eq_false_iff_ne.2 hb1) ?_ ?_
 refine qk ?_ ?_
 refine aL (l:=[]) (.inl rfl) kq eG eG eG ?_ ?_
 refine Eq.trans (b:=[bS lv,mS m,.box [.ptr 0 0],u.bx,.box [.bool ((((b) && vOk m t)) && cq m (t.kids.take k))]]) kq ?_
 rotate_left
 · simp [ai.belO,hpH,Ty.v]
 iterate 22 kernel_rfl
 all_goals
  refine congrArg (hpH lv m u) ?_
  rw [EK,List.take_of_length_le oq]
  first|(rw [Bool.and_assoc];done)|(rw [Bool.and_assoc,Bool.and_comm (cq m t.kids)];done)
noncomputable def c64:Code:=aE Tryz.f64
theorem FQ {p:Prop} (h:p:=by simp [ai.belO,hpH,hpS,Ty.v]):p:=h
theorem tJ (t:Ty) (lv:Int) (m:St) (hs:t.sz<100000000) (hm:dP m):av cx 64 [.ptr 0 0,Ty.v t] (hpS lv m) (fun v h=>v=(.bool (cD m t))∧h=hpS lv m):=by
 refine ap (cx:=cx) 12 2 [(ResultVar.tmp 4)] Tryz.func64 rfl rfl rfl rfl rfl zq ?_
 show wpA cx 12 2 (at_ c64 []) _ _ _
 refine qZ [(0,.ptr 0 0),(1,Ty.v t)] [bS lv,mS m] ?_ ?_
 refine qW 3 [(2,.ptr 2 0),(3,.ptr 3 0)] [bS lv,mS m,.box [.ptr 0 0],t.bx] ?_ ?_
 refine qV 1 ?_ ?_
 refine bp (args:=[.agg [.int .i64 (t.kind),.str t.name,.int .i64 (t.n),.imm (t.names.map aa.str),.imm (t.kids.map Ty.enc)]]) kq kq kq kq (jW t oq) (by simp [Ty.v,bm,Occ.v]) (by simp [Ty.v]) (by simp [Ty.v,a7]) ?_
 refine qR 2 [(2,.ptr 2 0),(3,.ptr 3 0),(5,.ptr 4 0)] [bS lv,mS m,.box [.ptr 0 0],t.bx,.box [.bool (cO t)]] ?_ ?_
 refine qV 2 ?_ ?_
 refine aT (args:=[.agg [.int .i64 (t.kind),.str t.name,.int .i64 (t.n),.imm (t.names.map aa.str),.imm (t.kids.map Ty.enc)],.fn (.func 103) [] [.ptr 2 0,.ptr 4 0]]) (hs:=[bS lv,mS m,.box [.ptr 0 0],t.bx,.box [.bool (cO t)]]) (hs':=[.box [.int .i64 ((lv)),.map 1],mS m,.box [.ptr 0 0],t.bx,.box [.bool (((cO t) && i9 m t))]]) (aM:=[]) kq kq kq kq kq (wa t t (lv) m (cO t) oq oq) FQ FQ rfl FQ FQ kq ?_
 refine qN [(5,.ptr 4 0)] [.box [.int .i64 ((lv)),.map 1],mS m,.box [.ptr 0 0],t.bx,.box [.bool (((cO t) && i9 m t))]] ?_ ?_
 refine qU 2 [(4,.bool (((cO t) && i9 m t)))] ?_ ?_
 refine bb kq ?_
 refine aL (l:=[.bool (((cO t) && i9 m t))]) (.inr rfl) kq (by simp [aK,cD]) eG eG ?_ ?_
 refine Eq.trans (b:=[.box [.int .i64 ((lv)),.map 1],mS m]) kq ?_
 · rfl
 · simp [ai.belO,hpH,hpS,Ty.v]
 iterate 7 kernel_rfl
noncomputable def c21:Code:=aE Tryz.f21
theorem oQ  :av cx 21 [] [] (fun v h=>v=.ptr 1 0∧h=[mS ([]:St),.box [.int .i64 0,.map 0]]):=by
 refine dF (cx:=cx) 4 0 [(ResultVar.tmp 0)] Tryz.func21 rfl rfl rfl rfl rfl zq ?_
 show wpA cx 4 0 (at_ c21 []) _ _ _
 refine qZ [] [] ?_ ?_
 refine qU 1 [] ?_ ?_
 refine qW 4 [(0,.ptr 1 0)] [mS ([]:List (Int×Vr)),.box [.int .i64 0,.map 0]] ?_ ?_
 refine bb kq ?_
 refine dV (l:=[.ptr 1 0]) 2 [mS ([]:List (Int×Vr)),.box [.int .i64 0,.map 0]] (.inr rfl) kq (Nat.zero_le _) kq (by simp [aK,-List.map_append,-List.map_take,-List.map_drop,-List.append_assoc]) (by simp [ai.belO,-List.map_append,-List.map_take,-List.map_drop,-List.append_assoc]) ?_
 · exact ⟨rfl,rfl⟩
 iterate 3 kernel_rfl
noncomputable def c80:Code:=aE Tryz.f80
theorem s7 (x:Vr) (lv:Int) (m:St) (hml:m.length<100000000):av cx 80 [.ptr 0 0,Vr.v x] [bS lv,mS m] (fun v h=>v=(.int .i64 (((m.length+1):Nat):Int))∧h=[bS lv,mS (aJ ((((m.length+1):Nat):Int)) x m)]):=by
 refine ap (cx:=cx) 19 2 [(ResultVar.tmp 4)] Tryz.func80 rfl rfl rfl rfl rfl zq ?_
 show wpA cx 19 2 (at_ c80 []) _ _ _
 refine qZ [(0,.ptr 0 0),(1,Vr.v x)] [bS lv,mS m] ?_ ?_
 refine qW 2 [(0,.ptr 0 0),(3,.ptr 2 0)] [bS lv,mS m,.box [.bool (x.row),.int .i64 (x.lv),.bool (x.bd),.int .i64 (x.val.kind),.str x.val.name,.int .i64 (x.val.n),.imm (x.val.names.map aa.str),.imm (x.val.kids.map Ty.enc),.imm (x.names.map aa.str)]] ?_ ?_
 refine qV 4 ?_ ?_
 refine qy (Hz (o:=1) (ek:=(aa.int .i64)) (ev:=Vr.v) (l:=m) kq jo kq) ?_ ?_ ?_
 refine qy (aN (a:=((m.length:Nat):Int)) (b:=1) kq oq oq) ?_ ?_ ?_
 refine qR 1 [(0,.ptr 0 0),(3,.ptr 2 0),(5,nI (m.length+1))] [bS lv,mS m,.box [.bool (x.row),.int .i64 (x.lv),.bool (x.bd),.int .i64 (x.val.kind),.str x.val.name,.int .i64 (x.val.n),.imm (x.val.names.map aa.str),.imm (x.val.kids.map Ty.enc),.imm (x.names.map aa.str)]] ?_ ?_
 refine ar ?_ ?_
 refine cK cxM kq aB (bv ?_)
 refine qu 6 ?_ ?_
 refine qD (dc (o:=1) (ek:=(aa.int .i64)) (ev:=Vr.v) (l:=m) (k:=(((m.length+1):Nat):Int)) (x:=(Vr.mk (x.row) (x.lv) (x.bd) x.val x.names)) dH kq jo ty3 rfl kq kq) ?_ ?_ ?_ ?_
 refine cn kq ⟨kq,?_⟩
 refine ab ?_
 refine qZ [(5,nI (m.length+1))] [bS lv,mS (aJ (((m.length+1):Nat):Int) (Vr.mk (x.row) (x.lv) (x.bd) x.val x.names) m),.box [.bool (x.row),.int .i64 (x.lv),.bool (x.bd),.int .i64 (x.val.kind),.str x.val.name,.int .i64 (x.val.n),.imm (x.val.names.map aa.str),.imm (x.val.kids.map Ty.enc),.imm (x.names.map aa.str)]] ?_ ?_
 refine qU 2 [(4,nI (m.length+1))] ?_ ?_
 refine bb kq ?_
 refine aL (l:=[.int .i64 (((m.length+1):Nat):Int)]) (.inr rfl) kq (by simp [aK]) (by simp [aK]) (by simp [aK]) ?_ ?_
 refine Eq.trans (b:=[bS lv,mS (aJ (((m.length+1):Nat):Int) (Vr.mk (x.row) (x.lv) (x.bd) x.val x.names) m)]) kq ?_
 · rfl
 · simp [ai.belO,Vr.v]
 iterate 15 kernel_rfl
theorem Di (lv:Int) (m:St) (hml:m.length<100000000):av cx 80 [.ptr 0 0,.agg [.bool false,.int .i64 (lv),.bool false,.int .i64 0,.str [],.int .i64 0,.full [],.full [],.full []]] [bS lv,mS m] (fun v h=>v=(.int .i64 ((((m.length+1):Nat)):Int))∧h=[bS lv,mS (aJ ((((m.length+1):Nat):Int)) ⟨false,lv,false,Ty.zero,[]⟩ m)]):=by
 refine i5 ?_
 have:=s7 ⟨false,lv,false,Ty.zero,[]⟩ lv m hml
 simpa [bo,cb,aS,aa.frz,aa.owns,Vr.v,Ty.zero] using this
noncomputable def c33:Code:=aE Tryz.f33
theorem C2 (lv:Int) (m:St) (hml:m.length<100000000):av cx 33 [.ptr 0 0] [bS lv,mS m] (fun v h=>v=(.agg [.int .i64 6,.str [],.int .i64 (((m.length+1):Nat):Int),.imm [],.imm []])∧h=[bS lv,mS (aJ ((((m.length+1):Nat):Int)) ⟨false,lv,false,Ty.zero,[]⟩ m)]):=by
 refine ap (cx:=cx) 11 2 [(ResultVar.cell 2 25)] Tryz.func33 rfl rfl rfl rfl rfl zq ?_
 show wpA cx 11 2 (at_ c33 []) _ _ _
 refine qZ [(0,.ptr 0 0)] [bS lv,mS m] ?_ ?_
 refine qW 1 [(0,.ptr 0 0),(2,.ptr 2 0)] [bS lv,mS m,.box zC] ?_ ?_
 refine qV 6 ?_ ?_
 refine aT (args:=[.ptr 0 0,.agg [.bool false,.int .i64 (lv),.bool false,.int .i64 0,.str [],.int .i64 0,.full [],.full [],.full []]]) (hs:=[bS lv,mS m]) (hs':=[.box [.int .i64 ((lv)),.map 1],mS (aJ ((((m.length+1):Nat):Int)) ⟨false,(lv),false,Ty.zero,[]⟩ m)]) (aM:=[.box zC]) kq kq kq kq kq (Di (lv) m oq) (by simp [ai.belO]) (by simp [ai.belO]) rfl (by simp [ai.belO]) (by simp [ai.belO]) kq ?_
 refine qR 2 [(2,.ptr 2 0)] [.box [.int .i64 ((lv)),.map 1],mS (aJ ((((m.length+1):Nat):Int)) ⟨false,(lv),false,Ty.zero,[]⟩ m),.box [.int .i64 6,.str [],nI (m.length+1),.full [],.full []]] ?_ ?_
 refine bb kq ?_
 refine aL (l:=[.agg [.int .i64 6,.str [],.int .i64 (((m.length+1):Nat):Int),.full [],.full []]]) (.inr rfl) kq (by simp [aK,aa.frz,bo]) (by simp [aK]) (by simp [aK]) ?_ ?_
 refine Eq.trans (b:=[.box [.int .i64 ((lv)),.map 1],mS (aJ ((((m.length+1):Nat):Int)) ⟨false,(lv),false,Ty.zero,[]⟩ m)]) kq ?_
 · rfl
 · simp [ai.belO]
 iterate 4 kernel_rfl
noncomputable def c23:Code:=aE Tryz.f23
noncomputable def c24:Code:=aE Tryz.f24
noncomputable def c36:Code:=aE Tryz.f36
@[simp] theorem Hd (k:Nat) (x:Vr):x.v.bel k=true:=by simp [Vr.v]
@[simp] theorem Gr (k:Nat):∀ l:List Vr,bP k (l.map Vr.v)=true
 | []=>rfl
 | x::l=>by simp [bP,Gr k l]
theorem Fb (x:Vr):x.v.refs=[]:=ju _ (Hd 0 x)
theorem zT (l:St):(ae (aa.int .i64) Vr.v l).flatMap (fun e=>e.1.refs++e.2.refs)=[]:=by
 rw [List.flatMap_eq_nil_iff]
 intro e he
 obtain ⟨p,_,rfl⟩:=List.mem_map.1 he
 simp [aa.refs,Fb]
theorem oZ (r:Nat→Nat) (l:St):ix r (ae (aa.int .i64) Vr.v l)=ae (aa.int .i64) Vr.v l:=iU (k:=0) (fun i hi=>by omega) _ (AK 0 l)
def m1:St:=[(1,⟨false,0,false,Ty.zero,[]⟩)]
def vT:Ty:=.mk 6 [] 1 [] []
def lsT (t:Ty):Ty:=.mk 4 [] 0 [] [t]
noncomputable def c28:Code:=aE Tryz.f28
theorem BE (t:Ty) :ay cx 28 [Ty.v t] (Ty.v (lsT t)):=by
 refine ap (cx:=cx) 6 0 [(ResultVar.cell 2 25)] Tryz.func28 rfl rfl rfl rfl rfl zq ?_
 show wpA cx 6 0 (at_ c28 []) _ _ _
 refine qZ [(0,Ty.v t)] [] ?_ ?_
 refine qW 2 [(1,.ptr 0 0),(2,.ptr 1 0)] [t.bx,.box zC] ?_ ?_
 refine qW 4 [(2,.ptr 1 0)] [t.bx,.box [.int .i64 4,.str [],.int .i64 0,.full [],.full [.agg [.int .i64 (t.kind),.str t.name,.int .i64 (t.n),.imm (t.names.map aa.str),.imm (t.kids.map Ty.enc)]]]] ?_ ?_
 refine bb kq ?_
 refine eP (l:=[.agg [.int .i64 4,.str [],.int .i64 0,.full [],.full [.agg [.int .i64 (t.kind),.str t.name,.int .i64 (t.n),.imm (t.names.map aa.str),.imm (t.kids.map Ty.enc)]]]]) (.inr rfl) kq ?_
 · simp [aK,aa.frz,bo,lsT,Ty.v,Ty.kind,Ty.name,Ty.n,Ty.names,Ty.kids,Ty.enc_v]
 iterate 3 kernel_rfl
theorem pr {t:Ty} {n:Int}:n∈aD [] t↔n∈dA t:=by
 show n∈(dA t).foldl cN []↔_
 rw [jA];simp
inductive Gt:Ty→Prop
 | leaf (k:Int) (x:List UInt8) (h4:k≠4) (h5:k≠5) (h6:k≠6):Gt (.mk k x 0 [] [])
 | list (t:Ty) (h:Gt t):Gt (.mk 4 [] 0 [] [t])
 | var (n:Int) (h:0<n):Gt (.mk 6 [] n [] [])
 | rcd (n:Int) (ns:List (List UInt8)) (ks:List Ty) (h0:0≤n) (hs:ns.Pairwise (fun a b=>a<b)) (hl:ns.length=ks.length) (hk:∀ k∈ks,Gt k):Gt (.mk 5 [] n ns ks)
def fg (s:List UInt8) (t:Ty):Option Ty:=am s (t.names.zip t.kids)
theorem hY {κ α:Type} [DecidableEq κ] {k:κ} {x:α}:∀ {l:List (κ×α)},am k l=some x→(k,x)∈l
 | [],h=>by simp [am] at h
 | p::l,h=>by
  rw [am] at h
  split at h
  · rename_i e;cases h;subst e;exact List.mem_cons_self
  · exact List.mem_cons_of_mem _ (hY h)
theorem cS {κ α:Type} [DecidableEq κ] {k:κ}:∀ {l:List (κ×α)},(am k l).isSome=true↔k∈l.map Prod.fst
 | []=>by simp [am]
 | p::l=>by
  rw [am]
  by_cases e:k=p.1
  · rw [if_pos e];simp [e]
  · rw [if_neg e,cS];simp [e]
theorem iv {κ α:Type} [DecidableEq κ] {k:κ} {x:α}:∀ {l:List (κ×α)},(l.map Prod.fst).Nodup→(k,x)∈l→am k l=some x
 | [],_,h=>by simp at h
 | p::l,hn,h=>by
  rw [List.map_cons,List.nodup_cons] at hn
  rw [am]
  rcases List.mem_cons.1 h with rfl|h
  · rw [if_pos rfl]
  · rw [if_neg,iv hn.2 h]
    intro e
    exact hn.1 (e▸List.mem_map_of_mem (f:=Prod.fst) h)
theorem cG {α β:Type}:∀ {a:List α} {b:List β},a.length=b.length→(a.zip b).map Prod.fst=a
 | [],_,_=>rfl
 | x::a,y::b,h=>by simp only [List.zip_cons_cons,List.map_cons,cG (a:=a) (b:=b) (by simpa using h)]
 | x::a,[],h=>by simp at h
theorem az {l:List (List UInt8)} (h:l.Pairwise (fun a b=>a<b)):l.Nodup:=h.imp fun {a b} h=>by rintro rfl;exact absurd h (List.lt_irrefl a)
theorem bZ {s:List UInt8} {t:Ty} (hl:t.names.length=t.kids.length):fg s t=none↔s∉t.names:=by
 have:=cS (k:=s) (l:=t.names.zip t.kids)
 rw [cG hl] at this
 unfold fg
 rw [← this];simp
theorem du {s:List UInt8} {t:Ty} (hl:t.names.length=t.kids.length) (h:s∈t.names):∃ x,fg s t=some x:=by
 have:=cS (k:=s) (l:=t.names.zip t.kids)
 rw [cG hl] at this
 exact Option.isSome_iff_exists.1 (this.2 h)
theorem gF {s:List UInt8} {t x:Ty} (h:fg s t=some x):x∈t.kids:=(List.of_mem_zip (hY h)).2
theorem gM {s:List UInt8} {t x:Ty} (h:fg s t=some x):s∈t.names:=(List.of_mem_zip (hY h)).1
theorem yq {t x:Ty} (hn:t.names.Nodup) (hl:t.names.length=t.kids.length) (h:x∈t.kids):∃ s,fg s t=some x:=by
 obtain ⟨i,hi,e⟩:=List.getElem_of_mem h
 have hz:i<(t.names.zip t.kids).length:=by rw [List.length_zip];omega
 have hm:(t.names.zip t.kids)[i]∈t.names.zip t.kids:=List.getElem_mem hz
 rw [List.getElem_zip,e] at hm
 exact ⟨t.names[i],iv (by rw [cG hl];exact hn) hm⟩
theorem Gt.sorted {t:Ty} (h:Gt t) (h5:t.kind=5):t.names.Pairwise (fun a b=>a<b)∧t.names.length=t.kids.length∧t.name=[]∧0≤t.n∧∀ k∈t.kids,Gt k:=by
 cases h with
 | leaf k x h4 h5' h6=>exact absurd h5 h5'
 | list t h=>simp at h5
 | var n h=>simp at h5
 | rcd n ns ks h0 hs hl hk=>exact ⟨hs,hl,rfl,h0,hk⟩
theorem dw {a b:Ty} (ha:Gt a) (hb:Gt b) (ka:a.kind=5) (kb:b.kind=5) (hn:a.n=b.n) (hf:∀ s,fg s a=fg s b):a=b:=by
 obtain ⟨sa,la,na,_,_⟩:=ha.sorted ka
 obtain ⟨sb,lb,nb,_,_⟩:=hb.sorted kb
 have hm:∀ s,s∈a.names↔s∈b.names:=by
  intro s
  have h1:=bZ (s:=s) la
  have h2:=bZ (s:=s) lb
  rw [hf s] at h1
  constructor
  · intro h;exact Classical.byContradiction fun h'=>(h1.1 (h2.2 h')) h
  · intro h;exact Classical.byContradiction fun h'=>(h2.1 (h1.2 h')) h
 have hnm:a.names=b.names:=by
  have hp:a.names.Perm b.names:=(List.perm_ext_iff_of_nodup (az sa) (az sb)).2 hm
  exact List.Perm.eq_of_pairwise (le:=fun a b=>a<b) (fun x y _ _ h1 h2=>absurd (List.lt_trans h1 h2) (List.lt_irrefl _)) sa sb hp
 have hk:a.kids=b.kids:=by
  have hnl:a.names.length=b.names.length:=by rw [hnm]
  refine List.ext_getElem oq fun i h1 h2=>?_
  have hi:i<a.names.length:=by omega
  have hi':i<b.names.length:=by omega
  have e1:fg a.names[i] a=some a.kids[i]:=iv (by rw [cG la];exact az sa) (by have:=List.getElem_mem (l:=a.names.zip a.kids) (n:=i) (by rw [List.length_zip];omega);rwa [List.getElem_zip] at this)
  have e2:fg b.names[i] b=some b.kids[i]:=iv (by rw [cG lb];exact az sb) (by have:=List.getElem_mem (l:=b.names.zip b.kids) (n:=i) (by rw [List.length_zip];omega);rwa [List.getElem_zip] at this)
  have e3:a.names[i]=b.names[i]:=by simp only [hnm]
  rw [hf,e3,e2] at e1
  exact (Option.some.inj e1).symm
 rw [← Ty.eta a,← Ty.eta b,ka,kb,na,nb,hn,hnm,hk]
def dz (l:Fd) (t:Ty):Fd:=(t.names.zip t.kids).foldl (fun l p=>aJ p.1 p.2 l) l
theorem sR {s:List UInt8}:∀ (z:Fd) (l:Fd),(z.map Prod.fst).Nodup→am s (z.foldl (fun l p=>aJ p.1 p.2 l) l)=(am s z).orElse fun _=>am s l
 | [],l,_=>rfl
 | p::z,l,h=>by
  rw [List.map_cons,List.nodup_cons] at h
  rw [List.foldl_cons,sR z _ h.2,am,bE]
  by_cases e:s=p.1
  · rw [if_pos e,if_pos e]
    have:am s z=none:=by
     cases hm:am s z with
     | none=>rfl
     | some x=>exact absurd (cS.1 (by rw [hm];rfl)) (e▸h.1)
    rw [this];rfl
  · rw [if_neg e,if_neg e]
theorem iz {s:List UInt8} {l:Fd} {t:Ty} (hn:t.names.Nodup) (hl:t.names.length=t.kids.length):am s (dz l t)=(fg s t).orElse fun _=>am s l:=sR _ _ (by rw [cG hl];exact hn)
theorem qE:∀ (z l:Fd),(l.map Prod.fst).Nodup→((z.foldl (fun l p=>aJ p.1 p.2 l) l).map Prod.fst).Nodup
 | [],l,h=>h
 | p::z,l,h=>by
  rw [List.foldl_cons]
  refine qE z _ ?_
  rw [fV]
  split
  · exact h
  · rename_i hm
    rw [List.nodup_append]
    exact ⟨h,by simp,fun a ha b hb=>by simp only [List.mem_singleton] at hb;subst hb;rintro rfl;exact hm ha⟩
theorem dp {l:Fd} (t:Ty) (h:(l.map Prod.fst).Nodup):((dz l t).map Prod.fst).Nodup:=qE _ _ h
theorem nz {q:List UInt8×Ty}:∀ (z l:Fd),q∈z.foldl (fun l p=>aJ p.1 p.2 l) l→q∈z∨q∈l
 | [],l,h=>.inr h
 | p::z,l,h=>by
  rw [List.foldl_cons] at h
  rcases nz z _ h with h|h
  · exact .inl (List.mem_cons_of_mem _ h)
  · have:∀ l:Fd,q∈aJ p.1 p.2 l→q=p∨q∈l:=by
     intro l
     induction l with
     | nil=>intro h;simp only [aJ,List.mem_singleton] at h;exact .inl (h.trans (by cases p;rfl))
     | cons r l ih =>
      intro h
      rw [aJ] at h
      split at h
      · rcases List.mem_cons.1 h with h|h
        · exact .inl (h.trans (by cases p;rfl))
        · exact .inr (List.mem_cons_of_mem _ h)
      · rcases List.mem_cons.1 h with h|h
        · exact .inr (h▸List.mem_cons_self)
        · rcases ih h with h|h
          · exact .inl h
          · exact .inr (List.mem_cons_of_mem _ h)
    rcases this l h with h|h
    · exact .inl (h▸List.mem_cons_self)
    · exact .inr h
theorem eJ {q:List UInt8×Ty} {l:Fd} {t:Ty} (h:q∈dz l t):(q.1∈t.names∧q.2∈t.kids)∨q∈l:=by
 rcases nz _ _ h with h|h
 · exact .inl (List.of_mem_zip h)
 · exact .inr h
theorem lE {l:List (List UInt8)} (h:l.Nodup):(aC l).Pairwise (fun a b=>a<b):=by
 have h1:=fF l
 have h2:(aC l).Nodup:=(bQ l).nodup_iff.2 h
 refine (List.Pairwise.and h1 h2).imp fun {a b} hh=>?_
 have h3:=hh.1
 simp only [leB,decide_eq_true_eq] at h3
 rcases List.le_iff_lt_or_eq.1 h3 with h|h
 · exact h
 · exact absurd h hh.2
theorem ed (l:Fd) (n:Int):(recT l n).names=aC (l.map Prod.fst):=rfl
theorem dL (l:Fd) (n:Int):(recT l n).kids=(aC (l.map Prod.fst)).map fun s=>(am s l).getD Ty.zero:=by
 show b5 l _=_
 rw [b5,List.take_length]
theorem oV {l:Fd} {n:Int} {s:List UInt8} (h:(l.map Prod.fst).Nodup):fg s (recT l n)=am s l:=by
 have hl:(recT l n).names.length=(recT l n).kids.length:=by rw [ed,dL,List.length_map]
 by_cases hs:s∈l.map Prod.fst
 · have hs':s∈aC (l.map Prod.fst):=(bQ _).mem_iff.2 hs
   obtain ⟨i,hi,e⟩:=List.getElem_of_mem hs'
   have hz:i<((recT l n).names.zip (recT l n).kids).length:=by rw [List.length_zip,← hl,ed];omega
   have hm:=List.getElem_mem hz
   rw [List.getElem_zip] at hm
   simp only [ed,dL,List.getElem_map] at hm
   have hfst:((recT l n).names.zip (recT l n).kids).map Prod.fst=aC (l.map Prod.fst):=cG hl
   have:=iv (k:=s) (x:=(am s l).getD Ty.zero) (l:=(recT l n).names.zip (recT l n).kids) (by rw [hfst];exact az (lE h)) (by rw [ed,dL];rw [e] at hm;exact hm)
   unfold fg
   rw [this]
   have h2:=cS.2 hs
   obtain ⟨x,hx⟩:=Option.isSome_iff_exists.1 h2
   rw [hx];rfl
 · have h1:am s l=none:=by
    cases hm:am s l with
    | none=>rfl
    | some x=>exact absurd (cS.1 (by rw [hm];rfl)) hs
   rw [h1,bZ hl,ed,(bQ _).mem_iff]
   exact hs
theorem uC {l:Fd} {n:Int} (h:(l.map Prod.fst).Nodup) (h0:0≤n) (hk:∀ p∈l,Gt p.2):Gt (recT l n):=by
 have:=dL l n
 refine .rcd n _ _ h0 (lE h) (by show _=(recT l n).kids.length;rw [this,List.length_map]) fun k hm=>?_
 have hm:k∈(recT l n).kids:=hm
 rw [this] at hm
 obtain ⟨s,hs,rfl⟩:=List.mem_map.1 hm
 have h2:=cS.2 ((bQ _).mem_iff.1 hs)
 obtain ⟨x,hx⟩:=Option.isSome_iff_exists.1 h2
 rw [hx]
 exact hk _ (hY hx)
def mrg (a b:Ty):Ty:=recT (dz (dz [] a) b) b.n
theorem xY (a b:Ty):((dz (dz [] a) b).map Prod.fst).Nodup:=dp b (dp a zq)
theorem zH {a b:Ty} {s:List UInt8} (ha:a.names.Nodup) (la:a.names.length=a.kids.length) (hb:b.names.Nodup) (lb:b.names.length=b.kids.length):fg s (mrg a b)=(fg s b).orElse fun _=>fg s a:=by
 rw [mrg,oV (xY a b),iz hb lb,iz ha la]
 congr 1
 funext _
 simp [am]
theorem Dg {a b:Ty} (h0:0≤b.n) (ha:∀ k∈a.kids,Gt k) (hb:∀ k∈b.kids,Gt k):Gt (mrg a b):=by
 refine uC (xY a b) h0 fun p hp=>?_
 rcases eJ hp with h|h
 · exact hb _ h.2
 · rcases eJ h with h|h
   · exact ha _ h.2
   · simp at h
@[simp] theorem J4 (a b:Ty):(mrg a b).n=b.n:=rfl
@[simp] theorem C0 (a b:Ty):(mrg a b).kind=5:=rfl
theorem EB {a b k:Ty} (h:k∈(mrg a b).kids):k∈a.kids∨k∈b.kids:=by
 rw [mrg,dL] at h
 obtain ⟨s,hs,rfl⟩:=List.mem_map.1 h
 have h2:=cS.2 ((bQ _).mem_iff.1 hs)
 obtain ⟨x,hx⟩:=Option.isSome_iff_exists.1 h2
 rw [hx]
 rcases eJ (hY hx) with h|h
 · exact .inr h.2
 · rcases eJ h with h|h
   · exact .inl h.2
   · simp at h
mutual
def sub (σ:Int→Ty):Ty→Ty
 | .mk k x n l ks=>if k=6 then σ n else if k=5∧n≠0 then mrg (.mk 5 [] 0 l (uE σ ks)) (σ n) else .mk k x n l (uE σ ks)
def uE (σ:Int→Ty):List Ty→List Ty
 | []=>[]
 | t::l=>sub σ t::uE σ l
end
theorem jG (σ:Int→Ty):∀ l,uE σ l=l.map (sub σ)
 | []=>rfl
 | t::l=>by rw [uE,jG σ l];rfl
theorem cQ (σ:Int→Ty) (x:List UInt8) (n:Int) (l:List (List UInt8)) (ks:List Ty):sub σ (.mk 6 x n l ks)=σ n:=by rw [sub,if_pos rfl]
theorem gN (σ:Int→Ty) {n:Int} (x:List UInt8) (l:List (List UInt8)) (ks:List Ty) (h:n≠0):sub σ (.mk 5 x n l ks)=mrg (.mk 5 [] 0 l (ks.map (sub σ))) (σ n):=by rw [sub,if_neg oq,if_pos ⟨rfl,h⟩,jG]
theorem bu (σ:Int→Ty) {k n:Int} (x:List UInt8) (l:List (List UInt8)) (ks:List Ty) (h6:k≠6) (h5:k=5→n=0):sub σ (.mk k x n l ks)=.mk k x n l (ks.map (sub σ)):=by rw [sub,if_neg h6,if_neg (fun h=>h.2 (h5 h.1)),jG]
theorem t7 (σ:Int→Ty) (s:List UInt8) (k k':Int) (x x':List UInt8) (n n':Int) (l:List (List UInt8)) (ks:List Ty):fg s (.mk k x n l (ks.map (sub σ)))=(fg s (.mk k' x' n' l ks)).map (sub σ):=by
 show am s (l.zip (ks.map (sub σ)))=(am s (l.zip ks)).map (sub σ)
 induction l generalizing ks with
 | nil=>simp [am]
 | cons a l ih =>
  cases ks with
  | nil=>simp [am]
  | cons b ks =>
   simp only [List.map_cons,List.zip_cons_cons,am]
   by_cases e:s=a
   · rw [if_pos e,if_pos e];rfl
   · rw [if_neg e,if_neg e,ih]
theorem tK {o:Occ} {t:Ty}:∀ {l:List Ty},t∈l→o∈aF t→o∈aI l
 | [],h,_=>by simp at h
 | x::l,h,ho=>by
  rw [aI,List.mem_append]
  rcases List.mem_cons.1 h with rfl|h
  · exact .inl ho
  · exact .inr (tK h ho)
theorem su {o:Occ}:∀ {l:List Ty},o∈aI l→∃ t∈l,o∈aF t
 | [],h=>by simp [aI] at h
 | x::l,h=>by
  rw [aI,List.mem_append] at h
  rcases h with h|h
  · exact ⟨x,List.mem_cons_self,h⟩
  · obtain ⟨t,h1,h2⟩:=su h;exact ⟨t,List.mem_cons_of_mem _ h1,h2⟩
theorem ci {o:Occ} {k:Int} {x:List UInt8} {n:Int} {l:List (List UInt8)} {ks:List Ty} {t:Ty} (h:t∈ks) (ho:o∈aF t):o∈aF (.mk k x n l ks):=by
 rw [aF,List.mem_append,List.mem_append];exact .inl (.inr (tK h ho))
theorem cU {x:List UInt8} {n:Int} {l:List (List UInt8)} {ks:List Ty}:(⟨n,false,[]⟩:Occ)∈aF (.mk 6 x n l ks):=by
 rw [aF,List.mem_append,List.mem_append,if_pos rfl];exact .inl (.inl zq)
theorem cc {x:List UInt8} {n:Int} {l:List (List UInt8)} {ks:List Ty} (h:n≠0):(⟨n,true,l⟩:Occ)∈aF (.mk 5 x n l ks):=by
 rw [aF,List.mem_append];exact .inr (by rw [if_pos ⟨rfl,h⟩];simp)
theorem bD {o:Occ} {k:Int} {x:List UInt8} {n:Int} {l:List (List UInt8)} {ks:List Ty} (h:o∈aF (.mk k x n l ks)):(k=6∧o=⟨n,false,[]⟩)∨(k=5∧n≠0∧o=⟨n,true,l⟩)∨∃ t∈ks,o∈aF t:=by
 rw [aF,List.mem_append,List.mem_append] at h
 rcases h with (h|h)|h
 · split at h
   · rename_i h6;exact .inl ⟨h6,by simpa using h⟩
   · simp at h
 · exact .inr (.inr (su h))
 · split at h
   · rename_i h5;exact .inr (.inl ⟨h5.1,h5.2,by simpa using h⟩)
   · simp at h
def okG (σ:Int→Ty) (t:Ty):Prop:=∀ o∈aF t,Gt (σ o.n)∧(o.row=true→(σ o.n).kind=5)
theorem okG.kid {σ:Int→Ty} {k:Int} {x:List UInt8} {n:Int} {l:List (List UInt8)} {ks:List Ty} (h:okG σ (.mk k x n l ks)) {t:Ty} (ht:t∈ks):okG σ t:=fun o ho=>h o (ci ht ho)
theorem d6 {σ:Int→Ty} {t:Ty} (h:Gt t):okG σ t→Gt (sub σ t):=by
 induction h with
 | leaf k x h4 h5 h6=>intro _;rw [bu σ x [] [] h6 (fun h=>absurd h h5)];exact .leaf k x h4 h5 h6
 | list t h ih =>
  intro ho
  rw [bu σ _ _ _ dq dq]
  exact .list _ (ih (ho.kid List.mem_cons_self))
 | var n h=>intro ho;rw [cQ];exact (ho _ cU).1
 | rcd n ns ks h0 hs hl hk ih =>
  intro ho
  by_cases hn:n=0
  · rw [bu σ _ _ _ dq (fun _=>hn)]
    refine .rcd n ns _ h0 hs (by rw [List.length_map];exact hl) fun k hm=>?_
    obtain ⟨t,ht,rfl⟩:=List.mem_map.1 hm
    exact ih t ht (ho.kid ht)
  · rw [gN σ _ _ _ hn]
    have hg:=ho _ (cc hn)
    obtain ⟨s1,s2,s3,s4,s5⟩:=hg.1.sorted (hg.2 rfl)
    refine Dg s4 (fun k hm=>?_) s5
    obtain ⟨t,ht,rfl⟩:=List.mem_map.1 hm
    exact ih t ht (ho.kid ht)
theorem a8 {σ:Int→Ty} {t:Ty} (h:t.kind≠6):(sub σ t).kind=t.kind:=by
 obtain ⟨k,x,n,l,ks⟩:=t
 simp only [Ty.kind_mk] at h ⊢
 by_cases h5:k=5∧n≠0
 · rw [h5.1,gN σ _ _ _ h5.2];rfl
 · rw [bu σ _ _ _ h (fun e=>Classical.byContradiction fun hn=>h5 ⟨e,hn⟩)];rfl
theorem cA {σ:Int→Ty} {t:Ty} (h:Gt t) (h5:t.kind=5) (ho:okG σ t) (s:List UInt8):fg s (sub σ t)=if t.n=0 then (fg s t).map (sub σ) else (fg s (σ t.n)).orElse fun _=>(fg s t).map (sub σ):=by
 obtain ⟨s1,s2,s3,s4,s5⟩:=h.sorted h5
 obtain ⟨k,x,n,l,ks⟩:=t
 simp only [Ty.kind_mk,Ty.names_mk,Ty.kids_mk] at h5 s1 s2 s4 s5
 subst h5
 by_cases hn:n=0
 · rw [Ty.n_mk,if_pos hn,bu σ _ _ _ dq (fun _=>hn)];exact t7 σ s _ _ _ _ _ _ _ _
 · rw [Ty.n_mk,if_neg hn]
   have hg:=ho _ (cc hn)
   obtain ⟨r1,r2,r3,r4,r5⟩:=hg.1.sorted (hg.2 rfl)
   rw [gN σ _ _ _ hn,zH (a:=.mk 5 [] 0 l (ks.map (sub σ))) (az s1) (by simpa using s2) (az r1) r2]
   congr 1
   funext _
   exact t7 σ s _ _ _ _ _ _ _ _
theorem dg {σ:Int→Ty} {t:Ty} (h5:t.kind=5):(sub σ t).n=if t.n=0 then 0 else (σ t.n).n:=by
 obtain ⟨k,x,n,l,ks⟩:=t
 simp only [Ty.kind_mk] at h5
 subst h5
 by_cases hn:n=0
 · rw [Ty.n_mk,if_pos hn,bu σ _ _ _ dq (fun _=>hn)];exact hn
 · rw [Ty.n_mk,if_neg hn,gN σ _ _ _ hn];rfl
theorem cr {n:Int} {t:Ty}:n∈dA t↔∃ o∈aF t,o.n=n:=by unfold dA;rw [List.mem_map]
mutual
theorem dM {σ τ:Int→Ty}:∀ (t:Ty),(∀ o∈aF t,σ o.n=τ o.n)→sub σ t=sub τ t
 | .mk k x n l ks,h=>by
  have ih:=pO ks fun o ho=>h o (by rw [aF,List.mem_append,List.mem_append];exact .inl (.inr ho))
  rw [sub,sub,ih]
  by_cases h6:k=6
  · subst h6
    rw [if_pos rfl,if_pos rfl]
    exact h ⟨n,false,[]⟩ cU
  · rw [if_neg h6,if_neg h6]
    by_cases h5:k=5∧n≠0
    · obtain ⟨rfl,hn⟩:=h5
      rw [if_pos ⟨rfl,hn⟩,if_pos ⟨rfl,hn⟩,h ⟨n,true,l⟩ (cc hn)]
    · rw [if_neg h5,if_neg h5]
theorem pO {σ τ:Int→Ty}:∀ (l:List Ty),(∀ o∈aI l,σ o.n=τ o.n)→uE σ l=uE τ l
 | [],_=>rfl
 | t::l,h=>by
  rw [uE,uE,dM t fun o ho=>h o (by rw [aI,List.mem_append];exact .inl ho),pO l fun o ho=>h o (by rw [aI,List.mem_append];exact .inr ho)]
end
theorem Fs {o:Occ} {a b:Ty} (h:o∈aF (mrg a b)):(o.n=b.n∧b.n≠0∧o.row=true)∨(∃ t∈a.kids,o∈aF t)∨(∃ t∈b.kids,o∈aF t):=by
 rw [← Ty.eta (mrg a b)] at h
 rcases bD h with h|h|⟨t,ht,ho⟩
 · exact absurd h.1 (by rw [C0];decide)
 · exact .inl ⟨by rw [h.2.2];rfl,h.2.1,by rw [h.2.2]⟩
 · rcases EB ht with h|h
   · exact .inr (.inl ⟨t,h,ho⟩)
   · exact .inr (.inr ⟨t,h,ho⟩)
theorem dr {t:Ty} (h5:t.kind=5) (hn:t.n≠0):(⟨t.n,true,t.names⟩:Occ)∈aF t:=by
 obtain ⟨k,x,n,l,ks⟩:=t
 simp only [Ty.kind_mk,Ty.n_mk] at *
 subst h5
 exact cc hn
theorem iw {o:Occ} {t k:Ty} (h:k∈t.kids) (ho:o∈aF k):o∈aF t:=by cases t;exact ci h ho
theorem uI {σ:Int→Ty} {t:Ty} (h:Gt t):okG σ t→∀ o∈aF (sub σ t),∃ p∈aF t,∃ q∈aF (σ p.n),q.n=o.n∧q.row=o.row:=by
 induction h with
 | leaf k x h4 h5 h6 =>
  intro _ o ho
  rw [bu σ x [] [] h6 (fun h=>absurd h h5)] at ho
  rcases bD ho with h|h|⟨t,ht,_⟩
  · exact absurd h.1 h6
  · exact absurd h.1 h5
  · simp at ht
 | list t h ih =>
  intro hk o ho
  rw [bu σ _ _ _ dq dq] at ho
  rcases bD ho with h|h|⟨t',ht,ho⟩
  · exact absurd h.1 dq
  · exact absurd h.1 dq
  · simp only [List.map_cons,List.map_nil,List.mem_singleton] at ht
    subst ht
    obtain ⟨p,hp,q,hq⟩:=ih (hk.kid List.mem_cons_self) o ho
    exact ⟨p,ci List.mem_cons_self hp,q,hq⟩
 | var n h =>
  intro _ o ho
  rw [cQ] at ho
  exact ⟨_,cU,o,ho,rfl,rfl⟩
 | rcd n ns ks h0 hs hl hk ih =>
  intro hkk o ho
  have kids:∀ t'∈ks.map (sub σ),o∈aF t'→∃ p∈aF (Ty.mk 5 [] n ns ks),∃ q∈aF (σ p.n),q.n=o.n∧q.row=o.row:=by
   intro t' ht' ho
   obtain ⟨t,ht,rfl⟩:=List.mem_map.1 ht'
   obtain ⟨p,hp,q,hq⟩:=ih t ht (hkk.kid ht) o ho
   exact ⟨p,ci ht hp,q,hq⟩
  by_cases hn:n=0
  · rw [bu σ _ _ _ dq (fun _=>hn)] at ho
    rcases bD ho with h|h|⟨t',ht,ho⟩
    · exact absurd h.1 dq
    · exact absurd hn h.2.1
    · exact kids t' ht ho
  · rw [gN σ _ _ _ hn] at ho
    have hg:=hkk _ (cc hn)
    rcases Fs ho with h|⟨t',ht,ho⟩|⟨t',ht,ho⟩
    · exact ⟨_,cc hn,_,dr (hg.2 rfl) h.2.1,h.1.symm,h.2.2.symm⟩
    · exact kids t' ht ho
    · exact ⟨_,cc hn,o,iw ht ho,rfl,rfl⟩
theorem E7 {σ τ:Int→Ty} {t:Ty} (h:Gt t) (ht:okG τ t) (hs:∀ o∈aF t,okG σ (τ o.n)):okG σ (sub τ t):=by
 intro o ho
 obtain ⟨p,hp,q,hq,e1,e2⟩:=uI h ht o ho
 have:=hs p hp q hq
 rwa [e1,e2] at this
theorem mc {σ τ:Int→Ty} {t:Ty} (h:Gt t):okG τ t→(∀ o∈aF t,okG σ (τ o.n))→sub σ (sub τ t)=sub (fun n=>sub σ (τ n)) t:=by
 induction h with
 | leaf k x h4 h5 h6 =>
  intro _ _
  rw [bu τ x [] [] h6 (fun h=>absurd h h5),bu _ x [] [] h6 (fun h=>absurd h h5)]
  exact bu _ x [] _ h6 (fun h=>absurd h h5)
 | list t h ih =>
  intro h1 h2
  rw [bu τ _ _ _ dq dq,bu _ _ _ _ dq dq,bu _ _ _ _ dq dq]
  simp only [List.map_cons,List.map_nil]
  rw [ih (h1.kid List.mem_cons_self) fun o ho=>h2 o (ci List.mem_cons_self ho)]
 | var n h=>intro _ _;rw [cQ,cQ]
 | rcd n ns ks h0 hs hl hk ih =>
  intro h1 h2
  have kids:(ks.map (sub τ)).map (sub σ)=ks.map (sub fun n=>sub σ (τ n)):=by
   rw [List.map_map]
   exact List.map_congr_left fun t ht=>ih t ht (h1.kid ht) fun o ho=>h2 o (ci ht ho)
  by_cases hn:n=0
  · rw [bu τ _ _ _ dq (fun _=>hn),bu _ _ _ _ dq (fun _=>hn),bu _ _ _ _ dq (fun _=>hn),kids]
  · have hG:Gt (Ty.mk 5 [] n ns ks):=.rcd n ns ks h0 hs hl hk
    have g1:=d6 hG h1
    have g2:=E7 hG h1 h2
    have g3:okG (fun n=>sub σ (τ n)) (Ty.mk 5 [] n ns ks):=fun o ho=>⟨d6 (h1 o ho).1 (h2 o ho),fun hr=>by have:=(h1 o ho).2 hr;rw [a8 (by rw [this];decide)];exact this⟩
    have hr:=h1 _ (cc hn)
    have h2r:=h2 _ (cc hn)
    have k1:(sub τ (Ty.mk 5 [] n ns ks)).kind=5:=by rw [a8 zq];rfl
    have n1:(sub τ (Ty.mk 5 [] n ns ks)).n=(τ n).n:=by rw [dg rfl,Ty.n_mk,if_neg hn]
    refine dw (d6 g1 g2) (d6 hG g3) (by rw [a8 (by rw [k1];decide),k1]) (by rw [a8 zq];rfl) ?_ fun s=>?_
    · have e3:=dg (σ:=fun n=>sub σ (τ n)) (t:=Ty.mk 5 [] n ns ks) rfl
      rw [Ty.n_mk,if_neg hn] at e3
      rw [dg k1,e3,n1,dg (hr.2 rfl)]
    · have e:=cA hG rfl h1 s
      rw [Ty.n_mk,if_neg hn] at e
      rw [cA g1 k1 g2,cA hG rfl g3,Ty.n_mk,if_neg hn,n1,e,cA hr.1 (hr.2 rfl) h2r]
      have hm:(fg s (.mk 5 [] n ns ks)).map (sub fun n=>sub σ (τ n))=((fg s (.mk 5 [] n ns ks)).map (sub τ)).map (sub σ):=by
       cases hf:fg s (.mk 5 [] n ns ks) with
       | none=>rfl
       | some x =>
        have hx:=gF hf
        simp only [Option.map_some]
        rw [ih x hx (h1.kid hx) fun o ho=>h2 o (ci hx ho)]
      rw [hm]
      by_cases hb:(τ n).n=0
      · rw [if_pos hb,if_pos hb]
        cases fg s (τ n) <;> simp
      · rw [if_neg hb,if_neg hb]
        cases fg s (τ n) <;> cases fg s (σ (τ n).n) <;> simp
def idv (row:Bool) (n:Int):Ty:=if row=true then .mk 5 [] n [] [] else .mk 6 [] n [] []
theorem tP {σ:Int→Ty} {t:Ty} (h:Gt t):(∀ o∈aF t,σ o.n=idv o.row o.n)→sub σ t=t:=by
 induction h with
 | leaf k x h4 h5 h6=>intro _;rw [bu σ x [] [] h6 (fun h=>absurd h h5)];rfl
 | list t h ih =>
  intro ho
  rw [bu σ _ _ _ dq dq]
  simp only [List.map_cons,List.map_nil]
  rw [ih fun o h=>ho o (ci List.mem_cons_self h)]
 | var n h=>intro ho;rw [cQ];exact ho _ cU
 | rcd n ns ks h0 hs hl hk ih =>
  intro ho
  have kids:ks.map (sub σ)=ks:=by
   conv=>rhs;rw [← List.map_id ks]
   exact List.map_congr_left fun t ht=>ih t ht fun o h=>ho o (ci ht h)
  by_cases hn:n=0
  · rw [bu σ _ _ _ dq (fun _=>hn),kids]
  · have e:=ho _ (cc hn)
    rw [gN σ _ _ _ hn,kids]
    have e:σ n=Ty.mk 5 [] n [] []:=e
    rw [e]
    have hG:Gt (Ty.mk 5 [] n ns ks):=.rcd n ns ks h0 hs hl hk
    refine dw (Dg h0 hk zq) hG rfl rfl rfl fun s=>?_
    rw [zH (a:=.mk 5 [] 0 ns ks) (b:=.mk 5 [] n [] []) (az hs) hl .nil rfl]
    rfl
def bdV (S:St) (n:Int):Option Ty:=match am n S with
 | some x=>if x.bd=true then some x.val else none
 | none=>none
theorem jT {S:St} {n:Int} {v:Ty} (h:bdV S n=some v):∃ x,am n S=some x∧x.bd=true∧x.val=v:=by
 unfold bdV at h
 split at h
 · rename_i x hx
   split at h
   · rename_i hb;cases h;exact ⟨x,hx,hb,rfl⟩
   · cases h
 · cases h
theorem bO {S:St} {n:Int} {x:Vr} (h:bdV S n=none) (hx:am n S=some x):x.bd=false:=by
 unfold bdV at h
 rw [hx] at h
 cases hb:x.bd with
 | false=>rfl
 | true=>simp [hb] at h
theorem jS {S:St} {n:Int} {x:Vr} (hx:am n S=some x):bdV S n=if x.bd=true then some x.val else none:=by unfold bdV;rw [hx]
def tyS (S:St) (t:Ty):Prop:=Gt t∧∀ o∈aF t,∃ x,am o.n S=some x∧x.row=o.row∧(o.row=true→x.names=o.names)
structure rwS (S:St) (L:List (List UInt8)) (t:Ty):Prop where
 gt:Gt t
 k5:t.kind=5
 kids:∀ k∈t.kids,tyS S k
 apart:∀ s∈t.names,s∉L
 row:t.n≠0→∃ x,am t.n S=some x∧x.row=true∧∀ s,s∈x.names↔s∈L∨s∈t.names
structure Wf (S:St):Prop where
 dom:∀ n,(am n S).isSome=true↔1≤n∧n≤(S.length:Int)
 srt:∀ n x,am n S=some x→x.names.Pairwise (fun a b=>a<b)
 tv:∀ n x,am n S=some x→x.bd=true→x.row=false→tyS S x.val
 rv:∀ n x,am n S=some x→x.bd=true→x.row=true→rwS S x.names x.val
theorem Wf.zero {S:St} (h:Wf S):am 0 S=none:=by
 cases hm:am 0 S with
 | none=>rfl
 | some x=>have:=(h.dom 0).1 (by rw [hm];rfl);omega
theorem Gt.kid_G {t k:Ty} (h:Gt t) (hk:k∈t.kids):Gt k:=by
 cases h with
 | leaf k x h4 h5 h6=>simp at hk
 | list t h=>simp at hk;subst hk;exact h
 | var n h=>simp at hk
 | rcd n ns ks h0 hs hl hg=>exact hg _ hk
theorem tyS.kid {S:St} {t k:Ty} (h:tyS S t) (hk:k∈t.kids):tyS S k:=⟨h.1.kid_G hk,fun o ho=>h.2 o (iw hk ho)⟩
theorem tyS.toR {S:St} {t:Ty} (h:tyS S t) (h5:t.kind=5):rwS S [] t where
 gt:=h.1
 k5:=h5
 kids:=fun k hk=>h.kid hk
 apart:=fun s _=>by simp
 row:=fun hn=>by
  obtain ⟨x,h1,h2,h3⟩:=h.2 _ (dr h5 hn)
  exact ⟨x,h1,h2,fun s=>by rw [h3 rfl];simp⟩
structure Sol (S:St) (σ:Int→Ty):Prop where
 gt:∀ n x,am n S=some x→Gt (σ n)
 row:∀ n x,am n S=some x→x.row=true→(σ n).kind=5∧∀ s∈x.names,fg s (σ n)=none
 eqs:∀ n x,am n S=some x→x.bd=true→σ n=sub σ x.val
theorem tyS.okG {S:St} {σ:Int→Ty} {t:Ty} (h:tyS S t) (hs:Sol S σ):okG σ t:=fun o ho=>by
 obtain ⟨x,h1,h2,_⟩:=h.2 o ho
 exact ⟨hs.gt _ x h1,fun hr=>(hs.row _ x h1 (h2.trans hr)).1⟩
theorem d7 {o:Occ} {t:Ty} (h5:t.kind=5) (ho:o∈aF t):(t.n≠0∧o=⟨t.n,true,t.names⟩)∨∃ k∈t.kids,o∈aF k:=by
 obtain ⟨k,x,n,l,ks⟩:=t
 simp only [Ty.kind_mk] at h5
 subst h5
 rcases bD ho with h|h|h
 · exact absurd h.1 dq
 · exact .inl ⟨h.2.1,h.2.2⟩
 · exact .inr h
theorem rwS.okG {S:St} {σ:Int→Ty} {t:Ty} {L:List (List UInt8)} (h:rwS S L t) (hs:Sol S σ):okG σ t:=fun o ho=>by
 rcases d7 h.k5 ho with ⟨hn,rfl⟩|⟨k,hk,ho⟩
 · obtain ⟨x,h1,h2,_⟩:=h.row hn
   exact ⟨hs.gt _ x h1,fun _=>(hs.row _ x h1 h2).1⟩
 · exact (h.kids k hk).okG hs o ho
theorem rwS.in {S:St} {t:Ty} {L:List (List UInt8)} (h:rwS S L t):∀ o∈aF t,∃ x,am o.n S=some x∧x.row=o.row:=fun o ho=>by
 rcases d7 h.k5 ho with ⟨hn,rfl⟩|⟨k,hk,ho⟩
 · obtain ⟨x,h1,h2,_⟩:=h.row hn;exact ⟨x,h1,h2⟩
 · obtain ⟨x,h1,h2,_⟩:=(h.kids k hk).2 o ho;exact ⟨x,h1,h2⟩
inductive Dj (σ:Int→Ty):Ty→Prop
 | mk (t:Ty) (hr:t.kind=5→t.n≠0→∀ s∈t.names,fg s (σ t.n)=none) (hk:∀ k∈t.kids,Dj σ k):Dj σ t
theorem tyS.dj {S:St} {σ:Int→Ty} (hs:Sol S σ) {t:Ty} (hg:Gt t):(∀ o∈aF t,∃ x,am o.n S=some x∧x.row=o.row∧(o.row=true→x.names=o.names))→Dj σ t:=by
 induction hg with
 | leaf k x h4 h5 h6=>intro _;exact .mk _ (fun h=>absurd h h5) zq
 | list t h ih=>intro ho;exact .mk _ zq (fun k hk=>by simp at hk;subst hk;exact ih fun o h=>ho o (ci List.mem_cons_self h))
 | var n h=>intro _;exact .mk _ zq zq
 | rcd n ns ks h0 hs' hl hk ih =>
  intro ho
  refine .mk _ (fun _ hn s hs''=>?_) (fun k hk=>ih k hk fun o h=>ho o (ci hk h))
  obtain ⟨x,h1,h2,h3⟩:=ho _ (cc hn)
  exact (hs.row _ x h1 h2).2 s (by rw [h3 rfl];exact hs'')
theorem rwS.dj {S:St} {σ:Int→Ty} (hs:Sol S σ) {t:Ty} {L:List (List UInt8)} (h:rwS S L t):Dj σ t:=by
 refine .mk _ (fun _ hn s hs'=>?_) (fun k hk=>tyS.dj hs (h.kids k hk).1 (h.kids k hk).2)
 obtain ⟨x,h1,h2,h3⟩:=h.row hn
 exact (hs.row _ x h1 h2).2 s ((h3 s).2 (.inr hs'))
theorem lN {σ:Int→Ty} {t k:Ty} (hg:Gt t) (ho:okG σ t) (hd:t.kind=5→t.n≠0→∀ s∈t.names,fg s (σ t.n)=none) (h6:t.kind≠6) (hk:k∈t.kids):sub σ k∈(sub σ t).kids:=by
 cases hg with
 | leaf k x h4 h5 h6=>simp at hk
 | list t h=>simp at hk;subst hk;rw [bu σ _ _ _ dq dq];simp
 | var n h=>exact absurd rfl h6
 | rcd n ns ks h0 hs hl hk' =>
  by_cases hn:n=0
  · rw [bu σ _ _ _ dq (fun _=>hn)];exact List.mem_map_of_mem hk
  · obtain ⟨s,hf⟩:=yq (t:=Ty.mk 5 [] n ns ks) (az hs) hl hk
    have e:=cA (σ:=σ) (.rcd n ns ks h0 hs hl hk') rfl ho s
    rw [Ty.n_mk,if_neg hn,hf,show fg s (σ n)=none from hd rfl hn s (gM hf)] at e
    exact gF e
theorem pv {σ:Int→Ty} {t k:Ty} (hg:Gt t) (ho:okG σ t) (h5:t.kind=5) (hn:t.n≠0) (hk:k∈(σ t.n).kids):k∈(sub σ t).kids:=by
 have hr:=ho _ (dr h5 hn)
 obtain ⟨r1,r2,_⟩:=hr.1.sorted (hr.2 rfl)
 obtain ⟨s,hf⟩:=yq (az r1) r2 hk
 have e:=cA (σ:=σ) hg h5 ho s
 rw [if_neg hn,show fg s (σ t.n)=some k from hf] at e
 exact gF e
theorem Gt.occ_list {o:Occ} {t:Ty} (h:o∈aF (Ty.mk 4 [] 0 [] [t])):o∈aF t:=by
 rcases bD h with h|h|⟨t',ht,ho⟩
 · exact absurd h.1 dq
 · exact absurd h.1 dq
 · simp at ht;subst ht;exact ho
theorem om {σ:Int→Ty} {t:Ty} (hg:Gt t):okG σ t→Dj σ t→∀ p∈aF t,∀ q∈aF (σ p.n),q.n∈dA (sub σ t):=by
 induction hg with
 | leaf k x h4 h5 h6 =>
  intro _ _ p hp
  rcases bD hp with h|h|⟨t',ht,ho⟩
  · exact absurd h.1 h6
  · exact absurd h.1 h5
  · simp at ht
 | list t h ih =>
  intro ho hd p hp q hq
  obtain ⟨_,hr,hk⟩:=hd
  have hp':=Gt.occ_list hp
  have:=ih (ho.kid List.mem_cons_self) (hk t zq) p hp' q hq
  rw [bu σ _ _ _ dq dq]
  obtain ⟨o,h1,h2⟩:=cr.1 this
  exact cr.2 ⟨o,ci (t:=sub σ t) zq h1,h2⟩
 | var n h =>
  intro _ _ p hp q hq
  rcases bD hp with h|h|⟨t',ht,ho⟩
  · rw [h.2] at hq;rw [cQ];exact cr.2 ⟨q,hq,rfl⟩
  · exact absurd h.1 dq
  · simp at ht
 | rcd n ns ks h0 hs hl hk ih =>
  intro ho hd p hp q hq
  obtain ⟨_,hr,hdk⟩:=hd
  have hG:Gt (Ty.mk 5 [] n ns ks):=.rcd n ns ks h0 hs hl hk
  rcases d7 (t:=Ty.mk 5 [] n ns ks) rfl hp with ⟨hn,rfl⟩|⟨k,hk',ho'⟩
  · have hgr:=ho _ (cc hn)
    rcases d7 (hgr.2 rfl) hq with ⟨hn',rfl⟩|⟨k,hk',ho'⟩
    · have e:=dg (σ:=σ) (t:=Ty.mk 5 [] n ns ks) rfl
      rw [if_neg hn] at e
      have:=dr (t:=sub σ (Ty.mk 5 [] n ns ks)) (by rw [a8 zq];rfl) (by rw [e];exact hn')
      exact cr.2 ⟨_,this,e⟩
    · have:=pv hG ho rfl hn hk'
      exact cr.2 ⟨q,iw this ho',rfl⟩
  · have:=ih k hk' (ho.kid hk') (hdk k hk') p ho' q hq
    obtain ⟨o,h1,h2⟩:=cr.1 this
    exact cr.2 ⟨o,iw (lN hG ho hr zq hk') h1,h2⟩
mutual
def hgt:Ty→Nat
 | .mk _ _ _ _ ks=>Bg ks
def Bg:List Ty→Nat
 | []=>0
 | t::l=>max (hgt t+1) (Bg l)
end
theorem zO {d:Nat}:∀ {l:List Ty},(∀ k∈l,hgt k+1≤d)→Bg l≤d
 | [],_=>Nat.zero_le _
 | t::l,h=>by rw [Bg];exact Nat.max_le.2 ⟨h t zq,zO fun k hk=>h k (by simp [hk])⟩
theorem xq {k:Ty}:∀ {l:List Ty},k∈l→hgt k+1≤Bg l
 | [],h=>by simp at h
 | t::l,h=>by
  rw [Bg]
  rcases List.mem_cons.1 h with rfl|h
  · exact Nat.le_max_left _ _
  · exact Nat.le_trans (xq h) (Nat.le_max_right _ _)
theorem oN {k t:Ty} (h:k∈t.kids):hgt k+1≤hgt t:=by cases t;exact xq h
theorem Hk {t:Ty} {d:Nat} (h:∀ k∈t.kids,hgt k+1≤d):hgt t≤d:=by cases t;exact zO h
theorem FV {σ:Int→Ty} {t:Ty} (hg:Gt t):okG σ t→Dj σ t→∀ p∈aF t,hgt (σ p.n)≤hgt (sub σ t):=by
 induction hg with
 | leaf k x h4 h5 h6 =>
  intro _ _ p hp
  rcases bD hp with h|h|⟨t',ht,ho⟩
  · exact absurd h.1 h6
  · exact absurd h.1 h5
  · simp at ht
 | list t h ih =>
  intro ho hd p hp
  obtain ⟨_,hr,hk⟩:=hd
  have:=ih (ho.kid List.mem_cons_self) (hk t zq) p (Gt.occ_list hp)
  have h2:=oN (lN (σ:=σ) (.list t h) ho zq zq (k:=t) zq)
  omega
 | var n h =>
  intro _ _ p hp
  rcases bD hp with h|h|⟨t',ht,ho⟩
  · rw [h.2,cQ];exact Nat.le_refl _
  · exact absurd h.1 dq
  · simp at ht
 | rcd n ns ks h0 hs hl hk ih =>
  intro ho hd p hp
  obtain ⟨_,hr,hdk⟩:=hd
  have hG:Gt (Ty.mk 5 [] n ns ks):=.rcd n ns ks h0 hs hl hk
  rcases d7 (t:=Ty.mk 5 [] n ns ks) rfl hp with ⟨hn,rfl⟩|⟨k,hk',ho'⟩
  · exact Hk fun k hk'=>oN (pv hG ho rfl hn hk')
  · have:=ih k hk' (ho.kid hk') (hdk k hk') p ho'
    have:=oN (lN hG ho hr zq hk')
    omega
structure Rv (S:St) (ρ:Int→Ty):Prop where
 sol:Sol S ρ
 free:∀ n x,am n S=some x→x.bd=false→ρ n=idv x.row n
 fac:∀ σ,Sol S σ→∀ n x,am n S=some x→σ n=sub σ (ρ n)
 occ:∀ n x,am n S=some x→∀ o∈aF (ρ n),∃ y,am o.n S=some y∧y.row=o.row∧y.bd=false
 tail:∀ n x,am n S=some x→x.row=true→(ρ n).n≠0→∃ y,am (ρ n).n S=some y∧∀ s,s∈y.names↔s∈x.names∨s∈(ρ n).names
structure FP (S:St) (τ:Int→Ty):Prop where
 gt:∀ n x,am n S=some x→x.bd=false→Gt (τ n)
 row:∀ n x,am n S=some x→x.bd=false→x.row=true→(τ n).kind=5∧∀ s∈x.names,fg s (τ n)=none
theorem FP.okG {S:St} {τ:Int→Ty} (h:FP S τ) {t:Ty} (ho:∀ o∈aF t,∃ y,am o.n S=some y∧y.row=o.row∧y.bd=false):okG τ t:=fun o hm=>by
 obtain ⟨y,h1,h2,h3⟩:=ho o hm
 exact ⟨h.gt _ y h1 h3,fun hr=>(h.row _ y h1 h3 (h2.trans hr)).1⟩
theorem Rv.comp {S:St} {ρ τ:Int→Ty} (wf:Wf S) (h:Rv S ρ) (ht:FP S τ):Sol S (fun n=>sub τ (ρ n)) where
 gt:=fun n x hx=>d6 (h.sol.gt n x hx) (ht.okG (h.occ n x hx))
 row:=fun n x hx hr=>by
  have hk:=(h.sol.row n x hx hr).1
  refine ⟨by rw [a8 (by rw [hk];decide)];exact hk,fun s hs=>?_⟩
  have h1:=(h.sol.row n x hx hr).2 s hs
  rw [cA (h.sol.gt n x hx) hk (ht.okG (h.occ n x hx)),h1]
  split
  · rfl
  · rename_i hn
    obtain ⟨y,h2,h3⟩:=h.tail n x hx hr hn
    obtain ⟨y',h2',h4,h5⟩:=h.occ n x hx _ (dr hk hn)
    have h2':am (ρ n).n S=some y':=h2'
    rw [h2] at h2'
    cases h2'
    have:=(ht.row _ y h2 h5 h4).2 s ((h3 s).2 (.inl hs))
    rw [this];rfl
 eqs:=fun n x hx hb=>by
  have hv:okG ρ x.val∧Gt x.val∧∀ o∈aF x.val,∃ y,am o.n S=some y∧y.row=o.row:=by
   cases hr:x.row with
   | true=>have:=wf.rv n x hx hb hr;exact ⟨this.okG h.sol,this.gt,this.in⟩
   | false=>have:=wf.tv n x hx hb hr;exact ⟨this.okG h.sol,this.1,fun o ho=>by obtain ⟨y,h1,h2,_⟩:=this.2 o ho;exact ⟨y,h1,h2⟩⟩
  show sub τ (ρ n)=_
  rw [h.sol.eqs n x hx hb,mc hv.2.1 hv.1]
  intro o ho
  obtain ⟨y,h1,h2⟩:=hv.2.2 o ho
  exact ht.okG (h.occ _ y h1)
theorem zD {S:St} {ρ σ:Int→Ty} (h:Rv S ρ) (hs:Sol S σ) {t:Ty} (hg:Gt t) (hi:∀ o∈aF t,∃ y,am o.n S=some y∧y.row=o.row):sub σ (sub ρ t)=sub σ t:=by
 rw [mc hg (fun o ho=>by obtain ⟨y,h1,h2⟩:=hi o ho;exact ⟨h.sol.gt _ y h1,fun hr=>(h.sol.row _ y h1 (h2.trans hr)).1⟩)]
 · exact dM _ fun o ho=>by obtain ⟨y,h1,h2⟩:=hi o ho;exact (h.fac σ hs _ y h1).symm
 · intro o ho p hp
   obtain ⟨y,h1,h2⟩:=hi o ho
   obtain ⟨z,h3,h4,h5⟩:=h.occ _ y h1 p hp
   exact ⟨hs.gt _ z h3,fun hr=>(hs.row _ z h3 (h4.trans hr)).1⟩
def Ext (S S':St):Prop:=∀ m x,am m S=some x→∃ x',am m S'=some x'∧x'.row=x.row∧x'.names=x.names
theorem Ext.refl (S:St):Ext S S:=fun _ x h=>⟨x,h,rfl,rfl⟩
theorem Ext.trans {S T U:St} (h:Ext S T) (k:Ext T U):Ext S U:=fun m x hx=>by
 obtain ⟨y,h1,h2,h3⟩:=h m x hx
 obtain ⟨z,k1,k2,k3⟩:=k m y h1
 exact ⟨z,k1,k2.trans h2,k3.trans h3⟩
theorem tyS.ext {S S':St} (he:Ext S S') {t:Ty} (h:tyS S t):tyS S' t:=⟨h.1,fun o ho=>by
 obtain ⟨x,h1,h2,h3⟩:=h.2 o ho
 obtain ⟨x',k1,k2,k3⟩:=he _ x h1
 exact ⟨x',k1,k2.trans h2,fun hr=>k3.trans (h3 hr)⟩⟩
theorem rwS.ext {S S':St} (he:Ext S S') {t:Ty} {L:List (List UInt8)} (h:rwS S L t):rwS S' L t where
 gt:=h.gt
 k5:=h.k5
 kids:=fun k hk=>(h.kids k hk).ext he
 apart:=h.apart
 row:=fun hn=>by
  obtain ⟨x,h1,h2,h3⟩:=h.row hn
  obtain ⟨x',k1,k2,k3⟩:=he _ x h1
  exact ⟨x',k1,k2.trans h2,fun s=>by rw [k3];exact h3 s⟩
structure Bnd (S S':St) (n:Int) (t:Ty):Prop where
 len:S'.length=S.length
 fw:∀ m x,am m S=some x→∃ x',am m S'=some x'∧x'.row=x.row∧x'.names=x.names∧(m=n→x'.bd=true∧x'.val=t)∧(m≠n→x'.bd=x.bd∧x'.val=x.val)
 bw:∀ m x',am m S'=some x'→∃ x,am m S=some x
theorem Bnd.ext {S S':St} {n:Int} {t:Ty} (h:Bnd S S' n t):Ext S S':=fun m x hx=>by
 obtain ⟨x',h1,h2,h3,_⟩:=h.fw m x hx;exact ⟨x',h1,h2,h3⟩
theorem Bnd.at {S S':St} {n m:Int} {t:Ty} {x':Vr} (h:Bnd S S' n t) (hx:am m S'=some x'):∃ x,am m S=some x∧x'.row=x.row∧x'.names=x.names∧(m=n→x'.bd=true∧x'.val=t)∧(m≠n→x'.bd=x.bd∧x'.val=x.val):=by
 obtain ⟨x,h1⟩:=h.bw m x' hx
 obtain ⟨y,h2,h3⟩:=h.fw m x h1
 rw [hx] at h2;cases h2
 exact ⟨x,h1,h3⟩
def Rk (S:St) (rk:Int→Nat):Prop:=∀ n x,am n S=some x→x.bd=true→∀ o∈aF x.val,rk o.n<rk n
theorem Du {r:Bool} {n:Int} (h:0<n):Gt (idv r n):=by
 cases r
 · exact .var n h
 · exact .rcd n [] [] oq .nil rfl zq
theorem uu {r:Bool} {n:Int} {o:Occ} (h:o∈aF (idv r n)):o.n=n∧o.row=r:=by
 cases r
 · rcases bD (show o∈aF (.mk 6 [] n [] []) from h) with h|h|⟨t,ht,_⟩
   · rw [h.2];exact ⟨rfl,rfl⟩
   · exact absurd h.1 dq
   · simp at ht
 · rcases bD (show o∈aF (.mk 5 [] n [] []) from h) with h|h|⟨t,ht,_⟩
   · exact absurd h.1 dq
   · rw [h.2.2];exact ⟨rfl,rfl⟩
   · simp at ht
theorem uY {σ:Int→Ty} {r:Bool} {n:Int} (hn:n≠0) (hg:Gt (σ n)) (hr:r=true→(σ n).kind=5):sub σ (idv r n)=σ n:=by
 cases r
 · exact cQ σ [] n [] []
 · have h5:=hr rfl
   obtain ⟨s1,s2,s3,s4,s5⟩:=hg.sorted h5
   show sub σ (.mk 5 [] n [] [])=_
   rw [gN σ _ _ _ hn]
   refine dw (Dg s4 zq s5) hg rfl h5 rfl fun s=>?_
   rw [zH (a:=.mk 5 [] 0 [] (List.map (sub σ) [])) .nil rfl (az s1) s2]
   cases fg s (σ n) <;> rfl
theorem rwS.nof {S:St} {σ:Int→Ty} {t:Ty} {L:List (List UInt8)} (h:rwS S L t) (hs:Sol S σ) {s:List UInt8} (hm:s∈L):fg s (sub σ t)=none:=by
 obtain ⟨s1,s2,_⟩:=h.gt.sorted h.k5
 have h0:fg s t=none:=(bZ s2).2 fun hm'=>h.apart s hm' hm
 rw [cA h.gt h.k5 (h.okG hs),h0]
 split
 · rfl
 · rename_i hn
   obtain ⟨y,h1,h2,h3⟩:=h.row hn
   rw [(hs.row _ y h1 h2).2 s ((h3 s).2 (.inl hm))];rfl
def Dl (S:St) (n:Int):Bool:=match am n S with
 | some x=>x.row
 | none=>false
theorem gI {S:St} {n:Int} {x:Vr} (h:am n S=some x):Dl S n=x.row:=by unfold Dl;rw [h]
def one (S:St) (n:Int) (u:Ty):Int→Ty:=fun k=>if k=n then u else idv (Dl S k) k
theorem uL {S:St} (wf:Wf S) {n:Int} {x:Vr} (hx:am n S=some x) (hb:x.bd=true):Gt x.val∧∀ o∈aF x.val,∃ y,am o.n S=some y∧y.row=o.row:=by
 cases hr:x.row with
 | true=>have:=wf.rv n x hx hb hr;exact ⟨this.gt,this.in⟩
 | false=>have:=wf.tv n x hx hb hr;exact ⟨this.1,fun o ho=>by obtain ⟨y,h1,h2,_⟩:=this.2 o ho;exact ⟨y,h1,h2⟩⟩
def vV (S:St) (x:Vr) (t:Ty):Prop:=(x.row=false→tyS S t)∧(x.row=true→rwS S x.names t)
theorem vV.in {S:St} {x:Vr} {t:Ty} (h:vV S x t):Gt t∧∀ o∈aF t,∃ y,am o.n S=some y∧y.row=o.row:=by
 cases hr:x.row with
 | true=>have:=h.2 hr;exact ⟨this.gt,this.in⟩
 | false=>have:=h.1 hr;exact ⟨this.1,fun o ho=>by obtain ⟨y,h1,h2,_⟩:=this.2 o ho;exact ⟨y,h1,h2⟩⟩
theorem vV.dj {S:St} {σ:Int→Ty} {x:Vr} {t:Ty} (h:vV S x t) (hs:Sol S σ):Dj σ t:=by
 cases hr:x.row with
 | true=>exact (h.2 hr).dj hs
 | false=>exact tyS.dj hs (h.1 hr).1 (h.1 hr).2
theorem Sol.okG {S:St} {σ:Int→Ty} (hs:Sol S σ) {t:Ty} (hi:∀ o∈aF t,∃ y,am o.n S=some y∧y.row=o.row):okG σ t:=fun o ho=>by
 obtain ⟨y,h1,h2⟩:=hi o ho;exact ⟨hs.gt _ y h1,fun hr=>(hs.row _ y h1 (h2.trans hr)).1⟩
section
variable {S S':St} {n:Int} {t:Ty} {x:Vr} {ρ:Int→Ty} {rk:Int→Nat}
theorem kg (wf:Wf S) (hx:am n S=some x) (hnb:x.bd=false) (hb:Bnd S S' n t) (σ:Int→Ty):Sol S' σ↔Sol S σ∧σ n=sub σ t:=by
 constructor
 · intro h
   obtain ⟨x',h1,h2,h3,h4,_⟩:=hb.fw n x hx
   refine ⟨⟨fun m y hy=>?_,fun m y hy hr=>?_,fun m y hy hyb=>?_⟩,by have:=h.eqs n x' h1 (h4 rfl).1;rwa [(h4 rfl).2] at this⟩
   · obtain ⟨y',k1,_⟩:=hb.fw m y hy;exact h.gt m y' k1
   · obtain ⟨y',k1,k2,k3,_⟩:=hb.fw m y hy
     have:=h.row m y' k1 (k2.trans hr);rwa [k3] at this
   · obtain ⟨y',k1,k2,k3,k4,k5⟩:=hb.fw m y hy
     have hne:m≠n:=by rintro rfl;rw [hx] at hy;cases hy;rw [hnb] at hyb;cases hyb
     have:=h.eqs m y' k1 ((k5 hne).1.trans hyb);rwa [(k5 hne).2] at this
 · rintro ⟨h,he⟩
   refine ⟨fun m y' hy=>?_,fun m y' hy hr=>?_,fun m y' hy hyb=>?_⟩
   · obtain ⟨y,k1,_⟩:=hb.at hy;exact h.gt m y k1
   · obtain ⟨y,k1,k2,k3,_⟩:=hb.at hy
     have:=h.row m y k1 (k2.symm.trans hr);rwa [← k3] at this
   · obtain ⟨y,k1,k2,k3,k4,k5⟩:=hb.at hy
     by_cases e:m=n
     · subst e;rw [(k4 rfl).2];exact he
     · rw [(k5 e).2];exact h.eqs m y k1 ((k5 e).1.symm.trans hyb)
theorem FN (wf:Wf S) (hx:am n S=some x) (hv:vV S x t) (hb:Bnd S S' n t):Wf S' where
 dom:=fun m=>by
  rw [hb.len,← wf.dom m]
  constructor
  · intro h
    obtain ⟨y,hy⟩:=Option.isSome_iff_exists.1 h
    obtain ⟨z,hz⟩:=hb.bw m y hy
    rw [hz];rfl
  · intro h
    obtain ⟨y,hy⟩:=Option.isSome_iff_exists.1 h
    obtain ⟨z,hz,_⟩:=hb.fw m y hy
    rw [hz];rfl
 srt:=fun m y hy=>by
  obtain ⟨z,k1,k2,k3,_⟩:=hb.at hy
  rw [k3];exact wf.srt m z k1
 tv:=fun m y hy hyb hr=>by
  obtain ⟨z,k1,k2,k3,k4,k5⟩:=hb.at hy
  by_cases e:m=n
  · subst e;rw [hx] at k1;cases k1;rw [(k4 rfl).2];exact (hv.1 (k2.symm.trans hr)).ext hb.ext
  · rw [(k5 e).2];exact (wf.tv m z k1 ((k5 e).1.symm.trans hyb) (k2.symm.trans hr)).ext hb.ext
 rv:=fun m y hy hyb hr=>by
  obtain ⟨z,k1,k2,k3,k4,k5⟩:=hb.at hy
  by_cases e:m=n
  · subst e;rw [hx] at k1;cases k1;rw [(k4 rfl).2,k3];exact (hv.2 (k2.symm.trans hr)).ext hb.ext
  · rw [(k5 e).2,k3];exact (wf.rv m z k1 ((k5 e).1.symm.trans hyb) (k2.symm.trans hr)).ext hb.ext
theorem D8 (wf:Wf S) (h:Rv S ρ) (hx:am n S=some x) (hv:vV S x t):FP S (one S n (sub ρ t)) where
 gt:=fun m y hy hb=>by
  unfold one
  split
  · exact d6 hv.in.1 (h.sol.okG hv.in.2)
  · have:=(wf.dom m).1 (by rw [hy];rfl)
    exact Du oq
 row:=fun m y hy hb hr=>by
  unfold one
  split
  · rename_i e
    subst e
    rw [hx] at hy;cases hy
    have hV:=hv.2 hr
    exact ⟨by rw [a8 (by rw [hV.k5];decide)];exact hV.k5,fun s hs=>hV.nof h.sol hs⟩
  · rw [gI hy,hr]
    exact ⟨rfl,fun s _=>rfl⟩
theorem Gz (wf:Wf S) (h:Rv S ρ) (hx:am n S=some x) (hnb:x.bd=false) (hv:vV S x t) (hb:Bnd S S' n t) (hno:n∉dA (sub ρ t)):Rv S' (fun m=>sub (one S n (sub ρ t)) (ρ m)):=by
 have hp:=D8 wf h hx hv
 have hc:=h.comp wf hp
 have hpos:∀ m y,am m S=some y→m≠0:=fun m y hy=>by have:=(wf.dom m).1 (by rw [hy];rfl);omega
 have hidn:∀ m y,am m S=some y→y.bd=false→sub (one S n (sub ρ t)) (idv y.row m)=one S n (sub ρ t) m:=fun m y hy hyb =>
  uY (hpos m y hy) (hp.gt m y hy hyb) (fun hr=>(hp.row m y hy hyb hr).1)
 have hone:one S n (sub ρ t) n=sub ρ t:=by unfold one;rw [if_pos rfl]
 have hocc:∀ o∈aF (sub ρ t),∃ y,am o.n S=some y∧y.row=o.row∧y.bd=false:=by
  intro o ho
  obtain ⟨p,hp',q,hq,e1,e2⟩:=uI hv.in.1 (h.sol.okG hv.in.2) o ho
  obtain ⟨y,hy,_⟩:=hv.in.2 p hp'
  have:=h.occ _ y hy q hq
  rwa [e1,e2] at this
 have hsame:sub (one S n (sub ρ t)) (sub ρ t)=sub ρ t:=tP (d6 hv.in.1 (h.sol.okG hv.in.2)) fun o ho=>by
  obtain ⟨y,h1,h2,h3⟩:=hocc o ho
  have hne:o.n≠n:=fun e=>hno (cr.2 ⟨o,ho,e⟩)
  unfold one
  rw [if_neg hne,gI h1,h2]
 have hsubt:sub (fun m=>sub (one S n (sub ρ t)) (ρ m)) t=sub ρ t:=by
  rw [← mc hv.in.1 (h.sol.okG hv.in.2),hsame]
  intro o ho
  obtain ⟨y,h1,h2⟩:=hv.in.2 o ho
  exact hp.okG (h.occ _ y h1)
 refine ⟨(kg wf hx hnb hb _).2 ⟨hc,?_⟩,?_,?_,?_,?_⟩
 · show sub (one S n (sub ρ t)) (ρ n)=_
   rw [hsubt,h.free n x hx hnb,hidn n x hx hnb,hone]
 · intro m y' hy' hyb'
   obtain ⟨y,k1,k2,k3,k4,k5⟩:=hb.at hy'
   have hne:m≠n:=by rintro rfl;rw [(k4 rfl).1] at hyb';cases hyb'
   have hyb:y.bd=false:=(k5 hne).1.symm.trans hyb'
   show sub _ (ρ m)=_
   rw [h.free m y k1 hyb,hidn m y k1 hyb]
   unfold one
   rw [if_neg hne,gI k1,k2]
 · intro σ hσ m y' hy'
   obtain ⟨hs,he⟩:=(kg wf hx hnb hb σ).1 hσ
   obtain ⟨y,k1,k2,k3,k4,k5⟩:=hb.at hy'
   have ho:=h.occ m y k1
   rw [mc (h.sol.gt m y k1) (hp.okG ho),h.fac σ hs m y k1]
   · refine dM _ fun o hm=>?_
     obtain ⟨z,z1,z2,z3⟩:=ho o hm
     show σ o.n=sub σ (one S n (sub ρ t) o.n)
     unfold one
     split
     · rename_i e
       rw [zD h hs hv.in.1 hv.in.2,e];exact he
     · rw [gI z1]
       exact (uY (hpos _ z z1) (hs.gt _ z z1) (fun hr=>(hs.row _ z z1 hr).1)).symm
   · intro o hm
     obtain ⟨z,z1,z2,z3⟩:=ho o hm
     unfold one
     split
     · exact hs.okG fun p hp'=>by obtain ⟨w,w1,w2,_⟩:=hocc p hp';exact ⟨w,w1,w2⟩
     · intro p hp'
       obtain ⟨e1,e2⟩:=uu hp'
       rw [e1,e2,gI z1]
       exact ⟨hs.gt _ z z1,fun hr=>(hs.row _ z z1 hr).1⟩
 · intro m y' hy' o ho
   obtain ⟨y,k1,k2,k3,k4,k5⟩:=hb.at hy'
   obtain ⟨p,hp',q,hq,e1,e2⟩:=uI (h.sol.gt m y k1) (hp.okG (h.occ m y k1)) o ho
   have key:∃ z,am q.n S=some z∧z.row=q.row∧z.bd=false∧q.n≠n:=by
    unfold one at hq
    split at hq
    · obtain ⟨z,z1,z2,z3⟩:=hocc q hq
      exact ⟨z,z1,z2,z3,fun e=>hno (cr.2 ⟨q,hq,e⟩)⟩
    · rename_i hne
      obtain ⟨z,z1,z2,z3⟩:=h.occ m y k1 p hp'
      obtain ⟨f1,f2⟩:=uu hq
      rw [f1,f2,gI z1]
      exact ⟨z,z1,rfl,z3,hne⟩
   obtain ⟨z,z1,z2,z3,z4⟩:=key
   obtain ⟨z',w1,w2,w3,w4,w5⟩:=hb.fw _ z z1
   rw [← e1,← e2]
   exact ⟨z',w1,w2.trans z2,(w5 z4).1.trans z3⟩
 · intro m y' hy' hr hn
   obtain ⟨y,k1,k2,k3,k4,k5⟩:=hb.at hy'
   have hr0:=k2.symm.trans hr
   have h5:=(h.sol.row m y k1 hr0).1
   have hG:=h.sol.gt m y k1
   have hO:=hp.okG (h.occ m y k1)
   have hnn:¬ (ρ m).n=0:=by
    intro e
    have:=dg (σ:=one S n (sub ρ t)) h5
    rw [if_pos e] at this
    exact hn this
   obtain ⟨w,w1,w2⟩:=h.tail m y k1 hr0 hnn
   obtain ⟨w',v1,v2,v3⟩:=h.occ m y k1 _ (dr h5 hnn)
   have v1:am (ρ m).n S=some w':=v1
   rw [w1] at v1;cases v1
   have hnm:=dg (σ:=one S n (sub ρ t)) h5
   rw [if_neg hnn] at hnm
   have hfld:∀ s,s∈(sub (one S n (sub ρ t)) (ρ m)).names↔s∈(one S n (sub ρ t) (ρ m).n).names∨s∈(ρ m).names:=by
    intro s
    have hG':=d6 hG hO
    have h5':(sub (one S n (sub ρ t)) (ρ m)).kind=5:=by rw [a8 (by rw [h5];decide)];exact h5
    obtain ⟨_,a2,_⟩:=hG'.sorted h5'
    obtain ⟨_,b2,_⟩:=hG.sorted h5
    obtain ⟨_,c2,_⟩:=(hp.gt _ w w1 v3).sorted (hp.row _ w w1 v3 v2).1
    have e:=cA hG h5 hO s
    rw [if_neg hnn] at e
    have ia:=bZ (s:=s) a2
    have ib:=bZ (s:=s) b2
    have ic:=bZ (s:=s) c2
    rw [e] at ia
    cases hf:fg s (one S n (sub ρ t) (ρ m).n) with
    | some q =>
     rw [hf] at ia ic
     simp only [Option.orElse_some,reduceCtorEq,false_iff,Classical.not_not] at ia ic
     exact ⟨fun _=>.inl ic,fun _=>ia⟩
    | none =>
     rw [hf] at ia ic
     simp only [Option.orElse_none,Option.map_eq_none_iff,true_iff] at ia ic
     constructor
     · intro hm
       refine .inr (Classical.byContradiction fun h'=>?_)
       exact (ia.1 (ib.2 h')) hm
     · rintro (hm|hm)
       · exact absurd hm ic
       · exact Classical.byContradiction fun h'=>(ib.1 (ia.2 h')) hm
   show ∃ z,am (sub (one S n (sub ρ t)) (ρ m)).n S'=some z∧∀ s,s∈z.names↔s∈y'.names∨s∈(sub (one S n (sub ρ t)) (ρ m)).names
   by_cases e:(ρ m).n=n
   · rw [e,hone] at hnm
     rw [e,hone] at hfld
     rw [e,hx] at w1;cases w1
     have hV:=hv.2 v2
     have hne:¬ t.n=0:=by
      intro e0
      have:=dg (σ:=ρ) hV.k5
      rw [if_pos e0] at this
      exact hn (hnm.trans this)
     obtain ⟨y2,a1,a2,a3⟩:=hV.row hne
     have hun:=dg (σ:=ρ) hV.k5
     rw [if_neg hne] at hun
     have hn2:(ρ t.n).n≠0:=fun e0=>hn (hnm.trans (hun.trans e0))
     obtain ⟨y3,b1,b2⟩:=h.tail _ y2 a1 a2 hn2
     obtain ⟨y4,c1,c2,c3,_⟩:=hb.fw _ y3 b1
     refine ⟨y4,by rw [hnm,hun];exact c1,fun s=>?_⟩
     have hfu:s∈(sub ρ t).names↔s∈(ρ t.n).names∨s∈t.names:=by
      have hG':=d6 hV.gt (hV.okG h.sol)
      have h5':(sub ρ t).kind=5:=by rw [a8 (by rw [hV.k5];decide)];exact hV.k5
      obtain ⟨_,p2,_⟩:=hG'.sorted h5'
      obtain ⟨_,q2,_⟩:=hV.gt.sorted hV.k5
      obtain ⟨_,r2,_⟩:=(h.sol.gt _ y2 a1).sorted (h.sol.row _ y2 a1 a2).1
      have e:=cA hV.gt hV.k5 (hV.okG h.sol) s
      rw [if_neg hne] at e
      have ia:=bZ (s:=s) p2
      have ib:=bZ (s:=s) q2
      have ic:=bZ (s:=s) r2
      rw [e] at ia
      cases hf:fg s (ρ t.n) with
      | some q =>
       rw [hf] at ia ic
       simp only [Option.orElse_some,reduceCtorEq,false_iff,Classical.not_not] at ia ic
       exact ⟨fun _=>.inl ic,fun _=>ia⟩
      | none =>
       rw [hf] at ia ic
       simp only [Option.orElse_none,Option.map_eq_none_iff,true_iff] at ia ic
       constructor
       · intro hm
         refine .inr (Classical.byContradiction fun h'=>?_)
         exact (ia.1 (ib.2 h')) hm
       · rintro (hm|hm)
         · exact absurd hm ic
         · exact Classical.byContradiction fun h'=>(ib.1 (ia.2 h')) hm
     rw [c3,b2,a3,w2,k3,hfld,hfu]
     constructor
     · rintro (((h|h)|h)|h)
       · exact .inl h
       · exact .inr (.inr h)
       · exact .inr (.inl (.inr h))
       · exact .inr (.inl (.inl h))
     · rintro (h|(h|h)|h)
       · exact .inl (.inl (.inl h))
       · exact .inr h
       · exact .inl (.inr h)
       · exact .inl (.inl (.inr h))
   · have ho:one S n (sub ρ t) (ρ m).n=idv true (ρ m).n:=by unfold one;rw [if_neg e,gI w1,v2]
     rw [ho] at hnm hfld
     obtain ⟨y4,c1,c2,c3,_⟩:=hb.fw _ w w1
     refine ⟨y4,by rw [hnm];exact c1,fun s=>?_⟩
     rw [c3,w2,k3,hfld]
     have:s∉(idv true (ρ m).n).names:=by simp [idv]
     constructor
     · rintro (h|h)
       · exact .inl h
       · exact .inr (.inr h)
     · rintro (h|h|h)
       · exact .inl h
       · exact absurd h this
       · exact .inr h
theorem Fo (wf:Wf S) (h:Rv S ρ) (hr:Rk S rk) (hx:am n S=some x) (hnb:x.bd=false) (hv:vV S x t) (hb:Bnd S S' n t) (hno:n∉dA (sub ρ t)):∃ rk',Rk S' rk':=by
 obtain ⟨K,hK⟩:∃ K,∀ o∈aF t,rk o.n<K:=by
  have:∀ l:List Occ,∃ K,∀ o∈l,rk o.n<K:=by
   intro l
   induction l with
   | nil=>exact ⟨0,by simp⟩
   | cons a l ih =>
    obtain ⟨K,hK⟩:=ih
    exact ⟨K+rk a.n+1,fun o ho=>by rcases List.mem_cons.1 ho with rfl|ho;omega;have:=hK o ho;omega⟩
  exact this _
 refine ⟨fun m=>rk m+(if n∈dA (ρ m) then K else 0),fun m y' hy' hyb o ho=>?_⟩
 obtain ⟨y,k1,k2,k3,k4,k5⟩:=hb.at hy'
 by_cases e:m=n
 · subst e
   rw [(k4 rfl).2] at ho
   have h1:m∈dA (ρ m):=by
    rw [h.free m x hx hnb]
    have:=(wf.dom m).1 (by rw [hx];rfl)
    cases x.row
    · exact cr.2 ⟨⟨m,false,[]⟩,cU,rfl⟩
    · exact cr.2 ⟨⟨m,true,[]⟩,cc oq,rfl⟩
   have h2:m∉dA (ρ o.n):=by
    intro hm
    obtain ⟨q,hq,e⟩:=cr.1 hm
    exact hno (e▸om hv.in.1 (h.sol.okG hv.in.2) (hv.dj h.sol) o ho q hq)
   show rk o.n+(if m∈dA (ρ o.n) then K else 0)<rk m+(if m∈dA (ρ m) then K else 0)
   rw [if_pos h1,if_neg h2]
   have:=hK o ho
   omega
 · rw [(k5 e).2] at ho
   have hyb':=(k5 e).1.symm.trans hyb
   have h1:=hr m y k1 hyb' o ho
   have h2:n∈dA (ρ o.n)→n∈dA (ρ m):=by
    intro hm
    obtain ⟨q,hq,e⟩:=cr.1 hm
    rw [h.sol.eqs m y k1 hyb']
    have hi:=uL wf k1 hyb'
    have hvv:vV S y y.val:=⟨fun hf=>wf.tv m y k1 hyb' hf,fun ht=>wf.rv m y k1 hyb' ht⟩
    exact e▸om hi.1 (h.sol.okG hi.2) (hvv.dj h.sol) o ho q hq
   show rk o.n+(if n∈dA (ρ o.n) then K else 0)<rk m+(if n∈dA (ρ m) then K else 0)
   by_cases hm:n∈dA (ρ o.n)
   · rw [if_pos hm,if_pos (h2 hm)];omega
   · rw [if_neg hm];omega
end
structure New (S S':St) (v:Vr):Prop where
 len:S'.length=S.length+1
 at_:am ((S.length+1:Nat):Int) S'=some v
 oth:∀ m:Int,m≠((S.length+1:Nat):Int)→am m S'=am m S
 bd:v.bd=false
 srt:v.names.Pairwise (fun a b=>a<b)
theorem Wf.fresh {S:St} (wf:Wf S):am ((S.length+1:Nat):Int) S=none:=by
 cases hm:am ((S.length+1:Nat):Int) S with
 | none=>rfl
 | some x=>have:=(wf.dom _).1 (by rw [hm];rfl);omega
theorem Wf.ne {S:St} (wf:Wf S) {m:Int} {x:Vr} (h:am m S=some x):m≠((S.length+1:Nat):Int):=by
 rintro rfl;rw [wf.fresh] at h;cases h
def upd (σ:Int→Ty) (k:Int) (w:Ty):Int→Ty:=fun m=>if m=k then w else σ m
theorem fv (σ:Int→Ty) (k:Int) (w:Ty):upd σ k w k=w:=by unfold upd;rw [if_pos rfl]
theorem eX {σ:Int→Ty} {k m:Int} {w:Ty} (h:m≠k):upd σ k w m=σ m:=by unfold upd;rw [if_neg h]
section
variable {S S':St} {v:Vr} {σ ρ:Int→Ty}
theorem New.ext (wf:Wf S) (h:New S S' v):Ext S S':=fun m x hx=>⟨x,by rw [h.oth m (wf.ne hx)];exact hx,rfl,rfl⟩
theorem New.wf (wf:Wf S) (h:New S S' v):Wf S':=by
 have he:=h.ext wf
 refine ⟨fun m=>?_,fun m x hx=>?_,fun m x hx hb hr=>?_,fun m x hx hb hr=>?_⟩
 · rw [h.len]
   by_cases e:m=((S.length+1:Nat):Int)
   · rw [e,h.at_];simp;omega
   · rw [h.oth m e,wf.dom m];omega
 · by_cases e:m=((S.length+1:Nat):Int)
   · rw [e,h.at_] at hx;cases hx;exact h.srt
   · rw [h.oth m e] at hx;exact wf.srt m x hx
 · by_cases e:m=((S.length+1:Nat):Int)
   · rw [e,h.at_] at hx;cases hx;rw [h.bd] at hb;cases hb
   · rw [h.oth m e] at hx;exact (wf.tv m x hx hb hr).ext he
 · by_cases e:m=((S.length+1:Nat):Int)
   · rw [e,h.at_] at hx;cases hx;rw [h.bd] at hb;cases hb
   · rw [h.oth m e] at hx;exact (wf.rv m x hx hb hr).ext he
theorem FB (wf:Wf S) {t w:Ty} (hi:∀ o∈aF t,∃ y,am o.n S=some y∧y.row=o.row):sub (upd σ ((S.length+1:Nat):Int) w) t=sub σ t :=
 dM _ fun o ho=>by obtain ⟨y,h1,_⟩:=hi o ho;exact eX (wf.ne h1)
theorem New.sol (wf:Wf S) (h:New S S' v) (hs:Sol S σ) {w:Ty} (hw:Gt w) (hr:v.row=true→w.kind=5∧∀ s∈v.names,fg s w=none):Sol S' (upd σ ((S.length+1:Nat):Int) w):=by
 refine ⟨fun m x hx=>?_,fun m x hx hxr=>?_,fun m x hx hb=>?_⟩
 · by_cases e:m=((S.length+1:Nat):Int)
   · rw [e,fv];exact hw
   · rw [h.oth m e] at hx;rw [eX e];exact hs.gt m x hx
 · by_cases e:m=((S.length+1:Nat):Int)
   · rw [e,h.at_] at hx;cases hx;rw [e,fv];exact hr hxr
   · rw [h.oth m e] at hx;rw [eX e];exact hs.row m x hx hxr
 · by_cases e:m=((S.length+1:Nat):Int)
   · rw [e,h.at_] at hx;cases hx;rw [h.bd] at hb;cases hb
   · rw [h.oth m e] at hx
     rw [eX e,FB wf (uL wf hx hb).2]
     exact hs.eqs m x hx hb
theorem Hi {p:Prop} (h:p:=by rw [h.oth m (wf.ne hx)];exact hx):p:=h
theorem New.back (wf:Wf S) (h:New S S' v) (hs:Sol S' σ):Sol S σ :=
 ⟨fun m x hx=>hs.gt m x Hi,fun m x hx=>hs.row m x Hi,fun m x hx=>hs.eqs m x Hi⟩
theorem New.rv (wf:Wf S) (h:New S S' v) (hv:Rv S ρ):Rv S' (upd ρ ((S.length+1:Nat):Int) (idv v.row ((S.length+1:Nat):Int))):=by
 refine ⟨h.sol wf hv.sol (Du oq) (fun hr=>by rw [hr];exact ⟨rfl,fun s _=>rfl⟩),fun m x hx hb=>?_,fun τ hτ m x hx=>?_,fun m x hx o ho=>?_,fun m x hx hr hn=>?_⟩
 · by_cases e:m=((S.length+1:Nat):Int)
   · rw [e,h.at_] at hx;cases hx;rw [e,fv]
   · rw [h.oth m e] at hx;rw [eX e];exact hv.free m x hx hb
 · by_cases e:m=((S.length+1:Nat):Int)
   · have hx':=hx
     rw [e,h.at_] at hx';cases hx'
     have hx2:=hx
     rw [e,fv]
     rw [e] at hx2
     exact (uY oq (hτ.gt _ _ hx2) (fun hr=>(hτ.row _ _ hx2 hr).1)).symm
   · have hx':=hx
     rw [h.oth m e] at hx';rw [eX e];exact hv.fac τ (h.back wf hτ) m x hx'
 · by_cases e:m=((S.length+1:Nat):Int)
   · rw [e,h.at_] at hx;cases hx
     rw [e,fv] at ho
     obtain ⟨e1,e2⟩:=uu ho
     rw [e1,e2]
     exact ⟨_,h.at_,rfl,h.bd⟩
   · rw [h.oth m e] at hx;rw [eX e] at ho
     obtain ⟨y,h1,h2,h3⟩:=hv.occ m x hx o ho
     exact ⟨y,by rw [h.oth _ (wf.ne h1)];exact h1,h2,h3⟩
 · by_cases e:m=((S.length+1:Nat):Int)
   · have hx':=hx
     rw [e,h.at_] at hx';cases hx'
     rw [e,fv,hr]
     refine ⟨_,h.at_,fun s=>?_⟩
     simp [idv]
   · have hx':=hx
     rw [h.oth m e] at hx';rw [eX e] at hn ⊢
     obtain ⟨y,h1,h2⟩:=hv.tail m x hx' hr hn
     exact ⟨y,by rw [h.oth _ (wf.ne h1)];exact h1,h2⟩
theorem New.rk (wf:Wf S) (h:New S S' v) {rk:Int→Nat} (hr:Rk S rk):Rk S' rk:=fun m x hx hb o ho=>by
 by_cases e:m=((S.length+1:Nat):Int)
 · rw [e,h.at_] at hx;cases hx;rw [h.bd] at hb;cases hb
 · rw [h.oth m e] at hx;exact hr m x hx hb o ho
end
abbrev lim:Nat:=100000000
def hdV:Nat→St→Ty→Option Ty
 | 0,_,_=>none
 | f+1,S,t=>if t.kind=6 then (match bdV S t.n with
  | some v=>if v.sz<lim then hdV f S v else none
  | none=>some t) else some t
def hdR:Nat→St→Fd→Ty→Option Ty
 | 0,_,_,_=>none
 | f+1,S,l,t=>if t.sz<lim∧(dz l t).length<lim∧t.names.length=t.kids.length then (match bdV S t.n with
  | some v=>hdR f S (dz l t) v
  | none=>some (recT (dz l t) t.n)) else none
def cm (f:Nat) (S:St) (t:Ty):Option Ty:=match hdV f S t with
 | some u=>if u.kind=5 then (match bdV S u.n with
  | some _=>hdR f S [] u
  | none=>some u) else some u
 | none=>none
theorem rwS.congr {S:St} {L L':List (List UInt8)} {t:Ty} (h:rwS S L t) (e:∀ s,s∈L↔s∈L'):rwS S L' t where
 gt:=h.gt
 k5:=h.k5
 kids:=h.kids
 apart:=fun s hs hm=>h.apart s hs ((e s).2 hm)
 row:=fun hn=>by obtain ⟨x,h1,h2,h3⟩:=h.row hn;exact ⟨x,h1,h2,fun s=>by rw [h3,e]⟩
theorem vI {l:Fd} {t:Ty} {s:List UInt8} (hn:t.names.Nodup) (hl:t.names.length=t.kids.length):s∈(dz l t).map Prod.fst↔s∈l.map Prod.fst∨s∈t.names:=by
 rw [← cS,← cS,iz hn hl]
 have:=bZ (s:=s) hl
 cases hf:fg s t with
 | some x =>
  rw [hf] at this
  simp only [reduceCtorEq,false_iff,Classical.not_not] at this
  simp [this]
 | none =>
  have:=this.1 hf
  simp [this]
section
variable {S:St} (wf:Wf S)
include wf
theorem yD:∀ (f:Nat) (t u:Ty),hdV f S t=some u→tyS S t→tyS S u∧(u.kind=6→bdV S u.n=none)∧∀ σ,Sol S σ→sub σ u=sub σ t
 | 0,t,u,h,_=>by simp [hdV] at h
 | f+1,t,u,h,ht=>by
  rw [hdV] at h
  split at h
  · rename_i h6
    split at h
    · rename_i v hv
      split at h <;> try (cases h;done)
      obtain ⟨x,h1,h2,h3⟩:=jT hv
      subst h3
      have ho:(⟨t.n,false,[]⟩:Occ)∈aF t:=by rw [← Ty.eta t,h6];exact cU
      obtain ⟨x',k1,k2,_⟩:=ht.2 _ ho
      have k1:am t.n S=some x':=k1
      rw [h1] at k1;cases k1
      obtain ⟨q1,q2,q3⟩:=yD f x.val u h (wf.tv _ x h1 h2 k2)
      refine ⟨q1,q2,fun σ hs=>(q3 σ hs).trans ?_⟩
      rw [← hs.eqs _ x h1 h2,← Ty.eta t,h6,cQ];rfl
    · rename_i hn
      cases h
      exact ⟨ht,fun _=>hn,fun _ _=>rfl⟩
  · rename_i h6
    cases h
    exact ⟨ht,fun h=>absurd h h6,fun _ _=>rfl⟩
theorem CX:∀ (f:Nat) (l:Fd) (t r:Ty),hdR f S l t=some r→(l.map Prod.fst).Nodup→(∀ p∈l,tyS S p.2)→rwS S (l.map Prod.fst) t →
 tyS S r∧r.kind=5∧bdV S r.n=none∧∀ σ,Sol S σ→(sub σ r).n=(sub σ t).n∧∀ s,fg s (sub σ r)=(fg s (sub σ t)).orElse fun _=>(am s l).map (sub σ)
 | 0,l,t,r,h,_,_,_=>by simp [hdR] at h
 | f+1,l,t,r,h,hnd,hl,ht=>by
  rw [hdR] at h
  split at h <;> try (cases h;done)
  obtain ⟨s1,s2,s3,s4,s5⟩:=ht.gt.sorted ht.k5
  have hkey:∀ s,s∈(dz l t).map Prod.fst↔s∈l.map Prod.fst∨s∈t.names:=fun s=>vI (az s1) s2
  have hkids:∀ p∈dz l t,tyS S p.2:=fun p hp=>by
   rcases eJ hp with h|h
   · exact ht.kids _ h.2
   · exact hl p h
  split at h
  · rename_i v hv
    obtain ⟨x,h1,h2,h3⟩:=jT hv
    subst h3
    have hn:t.n≠0:=by intro e;rw [e,wf.zero] at h1;cases h1
    obtain ⟨y,k1,k2,k3⟩:=ht.row hn
    rw [h1] at k1;cases k1
    have hv:=(wf.rv _ x h1 h2 k2).congr (L':=(dz l t).map Prod.fst) (fun s=>by rw [k3,hkey])
    obtain ⟨q1,q2,q3,q4⟩:=CX f (dz l t) x.val r h (dp t hnd) hkids hv
    refine ⟨q1,q2,q3,fun σ hs=>?_⟩
    obtain ⟨r1,r2⟩:=q4 σ hs
    have e:=hs.eqs _ x h1 h2
    have e2:=dg (σ:=σ) ht.k5
    rw [if_neg hn] at e2
    refine ⟨by rw [r1,e2,e],fun s=>?_⟩
    have e3:=cA ht.gt ht.k5 (ht.okG hs) s
    rw [if_neg hn,e] at e3
    rw [r2 s,e3,iz (az s1) s2]
    cases fg s (sub σ x.val) <;> cases fg s t <;> simp
  · rename_i hn
    cases h
    have hg:Gt (recT (dz l t) t.n):=uC (dp t hnd) s4 fun p hp=>(hkids p hp).1
    have hnm:∀ s,s∈(recT (dz l t) t.n).names↔s∈l.map Prod.fst∨s∈t.names:=fun s=>by rw [ed,(bQ _).mem_iff];exact hkey s
    have hkd:∀ k∈(recT (dz l t) t.n).kids,tyS S k:=by
     intro k hk
     rw [dL] at hk
     obtain ⟨s,hs,rfl⟩:=List.mem_map.1 hk
     obtain ⟨x,hx⟩:=Option.isSome_iff_exists.1 (cS.2 ((bQ _).mem_iff.1 hs))
     rw [hx]
     exact hkids _ (hY hx)
    have hv:tyS S (recT (dz l t) t.n):=by
     refine ⟨hg,fun o ho=>?_⟩
     rcases d7 (t:=recT (dz l t) t.n) rfl ho with ⟨h0,rfl⟩|⟨k,hk,ho⟩
     · obtain ⟨x,h1,h2,h3⟩:=ht.row h0
       refine ⟨x,h1,h2,fun _=>?_⟩
       have p1:=wf.srt _ x h1
       have p2:=(hg.sorted rfl).1
       exact List.Perm.eq_of_pairwise (le:=fun a b=>a<b) (fun a b _ _ h1 h2=>absurd (List.lt_trans h1 h2) (List.lt_irrefl _)) p1 p2
        ((List.perm_ext_iff_of_nodup (az p1) (az p2)).2 fun s=>by rw [h3,hnm])
     · exact (hkd k hk).2 o ho
    refine ⟨hv,rfl,hn,fun σ hs=>?_⟩
    have e1:=dg (σ:=σ) (t:=recT (dz l t) t.n) rfl
    have e2:=dg (σ:=σ) ht.k5
    refine ⟨e1.trans e2.symm,fun s=>?_⟩
    have f1:=cA hg rfl (hv.okG hs) s
    have f2:=cA ht.gt ht.k5 (ht.okG hs) s
    rw [f1,f2,oV (dp t hnd),iz (az s1) s2]
    show (if t.n=0 then _ else (fg s (σ t.n)).orElse _)=_
    by_cases h0:t.n=0
    · rw [if_pos h0,if_pos h0];cases fg s t <;> simp
    · rw [if_neg h0,if_neg h0];cases fg s (σ t.n) <;> cases fg s t <;> simp
theorem dx {f:Nat} {t h:Ty} (hh:cm f S t=some h) (ht:tyS S t):tyS S h∧((h.kind=5∨h.kind=6)→bdV S h.n=none)∧∀ σ,Sol S σ→sub σ h=sub σ t:=by
 unfold cm at hh
 split at hh <;> try (cases hh;done)
 rename_i u hu
 obtain ⟨q1,q2,q3⟩:=yD wf f t u hu ht
 split at hh
 · rename_i h5
   split at hh
   · rename_i v hv
     obtain ⟨r1,r2,r3,r4⟩:=CX wf f [] u h hh .nil zq (q1.toR h5)
     refine ⟨r1,fun _=>r3,fun σ hs=>?_⟩
     obtain ⟨a1,a2⟩:=r4 σ hs
     rw [← q3 σ hs]
     have k1:(sub σ h).kind=5:=by rw [a8 (by rw [r2];decide)];exact r2
     have k2:(sub σ u).kind=5:=by rw [a8 (by rw [h5];decide)];exact h5
     refine dw (d6 r1.1 (r1.okG hs)) (d6 q1.1 (q1.okG hs)) k1 k2 a1 fun s=>?_
     rw [a2 s]
     cases fg s (sub σ u) <;> simp [am]
   · rename_i hn
     cases hh
     exact ⟨q1,fun _=>hn,q3⟩
 · rename_i h5
   cases hh
   exact ⟨q1,fun h=>q2 (h.resolve_left h5),q3⟩
end
def rX (g:Ty→Option Ty):List Ty→Option (List Ty)
 | []=>some []
 | t::l=>match g t with
  | some r=>(match rX g l with
   | some rs=>some (r::rs)
   | none=>none)
  | none=>none
def dl:Nat→St→Ty→Option Ty
 | 0,_,_=>none
 | f+1,S,t=>match cm f S t with
  | some h=>if h.sz<lim then (match rX (dl f S) h.kids with
   | some ks=>some (.mk h.kind h.name h.n h.names ks)
   | none=>none) else none
  | none=>none
theorem lZ {g:Ty→Option Ty}:∀ {l rs:List Ty},rX g l=some rs→rs.length=l.length∧∀ (i:Nat) t r,l[i]?=some t→rs[i]?=some r→g t=some r
 | [],rs,h=>by simp [rX] at h;subst h;simp
 | t::l,rs,h=>by
  rw [rX] at h
  split at h <;> try (cases h;done)
  rename_i r hr
  split at h <;> try (cases h;done)
  rename_i rs' hrs
  cases h
  obtain ⟨h1,h2⟩:=lZ hrs
  refine ⟨by simp [h1],fun i t' r' ht hr'=>?_⟩
  cases i with
  | zero=>simp at ht hr';subst ht hr';exact hr
  | succ i=>simp at ht hr';exact h2 i t' r' ht hr'
theorem wy {σ:Int→Ty} {k:Int} {x:List UInt8} {n:Int} {l:List (List UInt8)} {ks ks':List Ty} (h:ks.map (sub σ)=ks'.map (sub σ)):sub σ (.mk k x n l ks)=sub σ (.mk k x n l ks'):=by
 rw [sub,sub,jG,jG,h]
theorem jV {S:St} (wf:Wf S):∀ (f:Nat) (t r:Ty),dl f S t=some r→tyS S t→tyS S r∧(∀ o∈aF r,bdV S o.n=none)∧(∀ σ,Sol S σ→sub σ r=sub σ t)∧(∃ h,(∀ σ,Sol S σ→sub σ h=sub σ t)∧cm (f - 1) S t=some h∧r.kind=h.kind∧r.n=h.n∧r.names=h.names)
 | 0,t,r,h,_=>by simp [dl] at h
 | f+1,t,r,h,ht=>by
  rw [dl] at h
  split at h <;> try (cases h;done)
  rename_i h' hh
  split at h <;> try (cases h;done)
  split at h <;> try (cases h;done)
  rename_i ks hks
  cases h
  obtain ⟨q1,q2,q3⟩:=dx wf hh ht
  obtain ⟨m1,m2⟩:=lZ hks
  have key:∀ (i:Nat) t r,h'.kids[i]?=some t→ks[i]?=some r→tyS S r∧(∀ o∈aF r,bdV S o.n=none)∧(∀ σ,Sol S σ→sub σ r=sub σ t):=fun i t r h1 h2=>by
   obtain ⟨a,b,c,_⟩:=jV wf f t r (m2 i t r h1 h2) (q1.kid (List.mem_of_getElem? h1));exact ⟨a,b,c⟩
  have keym:∀ r∈ks,tyS S r∧(∀ o∈aF r,bdV S o.n=none):=fun r hr=>by
   obtain ⟨i,hi⟩:=List.mem_iff_getElem?.1 hr
   have hlt:i<h'.kids.length:=by rw [← m1];exact (List.getElem?_eq_some_iff.1 hi).1
   have:=key i _ r (List.getElem?_eq_getElem hlt) hi
   exact ⟨this.1,this.2.1⟩
  have hg:Gt (.mk h'.kind h'.name h'.n h'.names ks):=by
   have hgh:=q1.1
   clear hh q2 q3 key m2 hks
   cases hgh with
   | leaf k x h4 h5 h6=>simp at m1;subst m1;exact .leaf k x h4 h5 h6
   | list t h =>
    simp at m1
    obtain ⟨r,rfl⟩:=List.length_eq_one_iff.1 m1
    exact .list r (keym r zq).1.1
   | var n h=>simp at m1;subst m1;exact .var n h
   | rcd n ns ks' h0 hs hl hk=>exact .rcd n ns ks h0 hs (by rw [hl];exact m1.symm) fun k hk=>(keym k hk).1.1
  have hocc:∀ o∈aF (.mk h'.kind h'.name h'.n h'.names ks),(o∈aF h'∧o.n=h'.n∧(h'.kind=5∨h'.kind=6))∨∃ r∈ks,o∈aF r:=by
   intro o ho
   rcases bD ho with h|h|h
   · refine .inl ⟨?_,by rw [h.2],.inr h.1⟩
     rw [h.2];have:=cU (x:=h'.name) (n:=h'.n) (l:=h'.names) (ks:=h'.kids);rw [← h.1,Ty.eta] at this;exact this
   · refine .inl ⟨?_,by rw [h.2.2],.inl h.1⟩
     rw [h.2.2];exact dr h.1 h.2.1
   · exact .inr h
  refine ⟨⟨hg,fun o ho=>?_⟩,fun o ho=>?_,fun σ hs=>?_,h',q3,hh,rfl,rfl,rfl⟩
  · rcases hocc o ho with h|⟨r,hr,ho⟩
    · exact q1.2 o h.1
    · exact (keym r hr).1.2 o ho
  · rcases hocc o ho with h|⟨r,hr,ho⟩
    · rw [h.2.1];exact q2 h.2.2
    · exact (keym r hr).2 o ho
  · rw [← q3 σ hs]
    conv=>rhs;rw [← Ty.eta h']
    refine wy (List.ext_getElem? fun i=>?_)
    rw [List.getElem?_map,List.getElem?_map]
    cases h1:ks[i]? with
    | none =>
     have:h'.kids[i]?=none:=by rw [List.getElem?_eq_none_iff] at h1 ⊢;omega
     rw [this]
    | some r =>
     have hlt:i<h'.kids.length:=by rw [← m1];exact (List.getElem?_eq_some_iff.1 h1).1
     rw [List.getElem?_eq_getElem hlt]
     simp only [Option.map_some,Option.some.injEq]
     exact (key i _ r (List.getElem?_eq_getElem hlt) h1).2.2 σ hs
theorem pN {S:St} {f:Nat} {t:Ty} (h5:t.kind=5) (hn:bdV S t.n=none):cm (f+1) S t=some t:=by
 unfold cm
 rw [hdV,if_neg oq]
 simp only [if_pos h5,hn]
theorem EN {S:St} (wf:Wf S) {L:List (List UInt8)} {f:Nat} {t r:Ty} (h:dl f S t=some r) (ht:rwS S L t) (hn:bdV S t.n=none):rwS S L r∧(∀ o∈aF r,bdV S o.n=none)∧(∀ σ,Sol S σ→sub σ r=sub σ t)∧r.n=t.n∧r.names=t.names:=by
 cases f with
 | zero=>simp [dl] at h
 | succ f =>
 rw [dl] at h
 split at h <;> try (cases h;done)
 rename_i h' hh
 have e:h'=t:=by
  cases f with
  | zero=>simp [cm,hdV] at hh
  | succ f=>rw [pN ht.k5 hn] at hh;cases hh;rfl
 subst e
 split at h <;> try (cases h;done)
 split at h <;> try (cases h;done)
 rename_i ks hks
 cases h
 obtain ⟨m1,m2⟩:=lZ hks
 have key:∀ (i:Nat) t r,h'.kids[i]?=some t→ks[i]?=some r→tyS S r∧(∀ o∈aF r,bdV S o.n=none)∧(∀ σ,Sol S σ→sub σ r=sub σ t):=fun i t r h1 h2=>by
  obtain ⟨a,b,c,_⟩:=jV wf f t r (m2 i t r h1 h2) (ht.kids _ (List.mem_of_getElem? h1));exact ⟨a,b,c⟩
 have keym:∀ r∈ks,tyS S r∧(∀ o∈aF r,bdV S o.n=none):=fun r hr=>by
  obtain ⟨i,hi⟩:=List.mem_iff_getElem?.1 hr
  have hlt:i<h'.kids.length:=by rw [← m1];exact (List.getElem?_eq_some_iff.1 hi).1
  have:=key i _ r (List.getElem?_eq_getElem hlt) hi
  exact ⟨this.1,this.2.1⟩
 obtain ⟨s1,s2,s3,s4,s5⟩:=ht.gt.sorted ht.k5
 have h5:=ht.k5
 rw [h5,s3]
 refine ⟨⟨.rcd _ _ _ s4 s1 (by rw [s2];exact m1.symm) fun k hk=>(keym k hk).1.1,rfl,fun k hk=>(keym k hk).1,ht.apart,ht.row⟩,fun o ho=>?_,fun σ hs=>?_,rfl,rfl⟩
 · rcases d7 (t:=.mk 5 [] h'.n h'.names ks) rfl ho with ⟨_,rfl⟩|⟨k,hk,ho⟩
   · exact hn
   · exact (keym k hk).2 o ho
 · conv=>rhs;rw [← Ty.eta h',h5,s3]
   refine wy (List.ext_getElem? fun i=>?_)
   rw [List.getElem?_map,List.getElem?_map]
   cases h1:ks[i]? with
   | none =>
    have:h'.kids[i]?=none:=by rw [List.getElem?_eq_none_iff] at h1 ⊢;omega
    rw [this]
   | some r =>
    have hlt:i<h'.kids.length:=by rw [← m1];exact (List.getElem?_eq_some_iff.1 h1).1
    rw [List.getElem?_eq_getElem hlt]
    simp only [Option.map_some,Option.some.injEq]
    exact (key i _ r (List.getElem?_eq_getElem hlt) h1).2.2 σ hs
def vB (S:St) (x:Vr) (t:Ty):Prop:=vV S x t∧(x.row=true→bdV S t.n=none)
theorem DP {S:St} (wf:Wf S) {x:Vr} {f:Nat} {t r:Ty} (h:dl f S t=some r) (ht:vB S x t):vV S x r∧(∀ o∈aF r,bdV S o.n=none)∧(∀ σ,Sol S σ→sub σ r=sub σ t):=by
 cases hr:x.row with
 | true =>
  obtain ⟨a,b,c,_⟩:=EN wf h (ht.1.2 hr) (ht.2 hr)
  exact ⟨⟨fun h=>absurd (hr.symm.trans h) dq,fun _=>a⟩,b,c⟩
 | false =>
  obtain ⟨a,b,c,_⟩:=jV wf f t r h (ht.1.1 hr)
  exact ⟨⟨fun _=>a,fun h=>absurd (hr.symm.trans h) dq⟩,b,c⟩
theorem EZ {S:St} (wf:Wf S) {x:Vr} {ρ:Int→Ty} (hv:Rv S ρ) {f:Nat} {t r:Ty} (h:dl f S t=some r) (ht:vB S x t):r=sub ρ t:=by
 obtain ⟨h1,h2,h3⟩:=DP wf h ht
 rw [← h3 ρ hv.sol]
 refine (tP h1.in.1 fun o ho=>?_).symm
 obtain ⟨x,k1,k2⟩:=h1.in.2 o ho
 rw [hv.free _ x k1 (bO (h2 o ho) k1),k2]
theorem vi {S:St} (wf:Wf S) {ρ:Int→Ty} (hv:Rv S ρ) {f:Nat} {t r:Ty} (h:dl f S t=some r) (ht:tyS S t):r=sub ρ t:=by
 obtain ⟨h1,h2,h3,_⟩:=jV wf f t r h ht
 rw [← h3 ρ hv.sol]
 refine (tP h1.1 fun o ho=>?_).symm
 obtain ⟨x,k1,k2,_⟩:=h1.2 o ho
 rw [hv.free _ x k1 (bO (h2 o ho) k1),k2]
def Inv (S:St):Prop:=Wf S∧∃ ρ rk,Rv S ρ∧Rk S rk
structure gc (S S':St) (ok:Bool) (eqn:(Int→Ty)→Prop):Prop where
 inv:Inv S'
 ext:Ext S S'
 back:∀ σ,Sol S' σ→Sol S σ
 sound:ok=true→∀ σ,Sol S' σ→eqn σ
 compl:∀ σ,Sol S σ→eqn σ→ok=true∧∃ σ',Sol S' σ'∧∀ n x,am n S=some x→σ' n=σ n
def Hn (S:St) (t:Ty):Prop:=t.kind=5∨t.kind=6→bdV S t.n=none
theorem tI {S:St} {f:Nat} {t:Ty} (h:Hn S t):cm (f+1) S t=some t:=by
 by_cases h5:t.kind=5
 · exact pN h5 (h (.inl h5))
 · unfold cm
   rw [hdV]
   by_cases h6:t.kind=6
   · rw [if_pos h6]
     simp only [h (.inr h6),if_neg h5]
   · rw [if_neg h6]
     simp only [if_neg h5]
theorem Gt.k6 {t:Ty} (h:Gt t) (h6:t.kind=6):t.kids=[]∧t.names=[]∧t.name=[]∧0<t.n:=by
 cases h with
 | leaf k x h4 h5 h6'=>exact absurd h6 h6'
 | list t h=>exact absurd h6 zq
 | var n h=>exact ⟨rfl,rfl,rfl,h⟩
 | rcd n ns ks h0 hs hl hk=>exact absurd h6 zq
theorem Bq {S:St} {f:Nat} {t r:Ty} (h:dl f S t=some r) (hn:Hn S t):∃ ks,r=.mk t.kind t.name t.n t.names ks:=by
 cases f with
 | zero=>simp [dl] at h
 | succ f =>
 rw [dl] at h
 split at h <;> try (cases h;done)
 rename_i h' hh
 have e:h'=t:=by
  cases f with
  | zero=>simp [cm,hdV] at hh
  | succ f=>rw [tI hn] at hh;cases hh;rfl
 subst e
 split at h <;> try (cases h;done)
 split at h <;> try (cases h;done)
 cases h
 exact ⟨_,rfl⟩
def c8 (lv:Int):List Int→St→St
 | [],S=>S
 | k::ks,S=>c8 lv ks (match am k S with
  | some w=>aJ k { w with lv:=min w.lv lv } S
  | none=>S)
def cg (f:Nat) (S:St) (n:Int) (t:Ty):Option (Bool×St):=match am n S with
 | some v=>(match dl f S t with
  | some r=>if r.sz<lim∧(aD [] r).all (fun k=>(am k S).isSome)=true then
   (if (aD [] r).contains n=true then some (false,S) else some (true,aJ n { v with bd:=true,val:=t } (c8 v.lv (aD [] r) S))) else none
  | none=>none)
 | none=>none
theorem lW {κ α:Type} [DecidableEq κ] {k:κ} {v:α}:∀ {l:List (κ×α)},(am k l).isSome=true→(aJ k v l).length=l.length
 | [],h=>by simp [am] at h
 | p::l,h=>by
  rw [am] at h
  rw [aJ]
  split
  · rfl
  · rename_i e
    rw [if_neg e] at h
    simp [lW h]
theorem kC {κ α:Type} [DecidableEq κ] {k:κ} {v:α}:∀ {l:List (κ×α)},am k l=none→(aJ k v l).length=l.length+1
 | [],_=>rfl
 | p::l,h=>by
  rw [am] at h
  rw [aJ]
  split
  · rename_i e;rw [if_pos e] at h;cases h
  · rename_i e
    rw [if_neg e] at h
    simp [kC h]
theorem iC (lv:Int):∀ (ks:List Int) (S:St),(c8 lv ks S).length=S.length∧∀ m,(∀ x,am m S=some x→∃ l,am m (c8 lv ks S)=some { x with lv:=l })∧(∀ x,am m (c8 lv ks S)=some x→∃ y,am m S=some y)
 | [],S=>⟨rfl,fun m=>⟨fun x h=>⟨x.lv,h⟩,fun x h=>⟨x,h⟩⟩⟩
 | k::ks,S=>by
  rw [c8]
  cases hk:am k S with
  | none=>exact iC lv ks S
  | some w =>
   obtain ⟨h1,h2⟩:=iC lv ks (aJ k { w with lv:=min w.lv lv } S)
   refine ⟨h1.trans (lW (by rw [hk];rfl)),fun m=>⟨fun x hx=>?_,fun x hx=>?_⟩⟩
   · by_cases e:m=k
     · subst e
       rw [hk] at hx;cases hx
       obtain ⟨l,hl⟩:=(h2 m).1 { w with lv:=min w.lv lv } (by rw [bE,if_pos rfl])
       exact ⟨l,hl⟩
     · exact (h2 m).1 x (by rw [bE,if_neg e];exact hx)
   · obtain ⟨y,hy⟩:=(h2 m).2 x hx
     rw [bE] at hy
     split at hy
     · rename_i e;subst e;exact ⟨w,hk⟩
     · exact ⟨y,hy⟩
theorem jP {S:St} {n:Int} {t:Ty} {v:Vr} (hv:am n S=some v) (ks:List Int):Bnd S (aJ n { v with bd:=true,val:=t } (c8 v.lv ks S)) n t:=by
 obtain ⟨h1,h2⟩:=iC v.lv ks S
 refine ⟨?_,fun m x hx=>?_,fun m x hx=>?_⟩
 · obtain ⟨l,hl⟩:=(h2 n).1 v hv
   rw [lW (by rw [hl];rfl),h1]
 · rw [bE]
   by_cases e:m=n
   · subst e
     rw [hv] at hx;cases hx
     rw [if_pos rfl]
     exact ⟨_,rfl,rfl,rfl,fun _=>⟨rfl,rfl⟩,fun h=>absurd rfl h⟩
   · rw [if_neg e]
     obtain ⟨l,hl⟩:=(h2 m).1 x hx
     exact ⟨_,hl,rfl,rfl,fun h=>absurd h e,fun _=>⟨rfl,rfl⟩⟩
 · rw [bE] at hx
   split at hx
   · rename_i e;subst e;exact ⟨v,hv⟩
   · exact (h2 m).2 x hx
theorem eW {S S':St} {f:Nat} {n:Int} {t:Ty} {x:Vr} {ok:Bool} (h:cg f S n t=some (ok,S')) (hi:Inv S) (hx:am n S=some x) (hb:x.bd=false) (hv:vV S x t) (hn:Hn S t)
 (hne:t.kind=6→t.n≠n) (hnr:x.row=true→t.n≠n):gc S S' ok (fun σ=>σ n=sub σ t):=by
 obtain ⟨wf,ρ,rk,hρ,hrk⟩:=hi
 unfold cg at h
 rw [hx] at h
 simp only at h
 split at h <;> try (cases h;done)
 rename_i r hr
 have hvB:vB S x t:=⟨hv,fun h=>hn (.inl (hv.2 h).k5)⟩
 obtain ⟨q1,q2,q3⟩:=DP wf hr hvB
 have hrr:=EZ wf hρ hr hvB
 split at h <;> try (cases h;done)
 split at h
 · rename_i hc
   cases h
   have hm:n∈dA r:=pr.1 (List.contains_iff_mem.1 hc)
   refine ⟨⟨wf,ρ,rk,hρ,hrk⟩,Ext.refl _,fun _ h=>h,fun h=>absurd h dq,fun σ hs he=>?_⟩
   exfalso
   obtain ⟨ks,rfl⟩:=Bq hr hn
   obtain ⟨o,ho,e⟩:=cr.1 hm
   have hin:=q1.in.2 o ho
   rcases bD ho with h|h|⟨k,hk,ho'⟩
   · exact hne h.1 (by rw [h.2] at e;exact e)
   · by_cases hrow:x.row=true
     · exact hnr hrow (by rw [h.2.2] at e;exact e)
     · obtain ⟨y,y1,y2⟩:=hin
       rw [e,hx] at y1;cases y1
       rw [h.2.2] at y2
       exact hrow y2
   · have hg:=q1.in.1
     have hok:=hs.okG q1.in.2
     have hd:=q1.dj hs
     have hnk:∀ o∈aF k,o∈aF (Ty.mk t.kind t.name t.n t.names ks):=fun o ho=>ci hk ho
     obtain ⟨_,hd1,hd2⟩:=hd
     have h1:=FV (hg.kid_G (k:=k) hk) (fun o ho=>hok o (hnk o ho)) (hd2 k hk) o ho'
     have h6:t.kind≠6:=by
      intro h6
      have:=(hg.k6 h6).1
      rw [show ks=[] from this] at hk
      simp at hk
     have h2:=oN (lN hg hok hd1 h6 hk)
     rw [e] at h1
     have h3:=q3 σ hs
     have he:σ n=sub σ t:=he
     rw [h3,← he] at h2
     omega
 · rename_i hc
   cases h
   have hno:n∉dA (sub ρ t):=by rw [← hrr];intro hm;exact hc (List.contains_iff_mem.2 (pr.2 hm))
   have hB:=jP (t:=t) hx (aD [] r)
   obtain ⟨rk',hrk'⟩:=Fo wf hρ hrk hx hb hv hB hno
   exact ⟨⟨FN wf hx hv hB,_,rk',Gz wf hρ hx hb hv hB hno,hrk'⟩,hB.ext,fun σ h=>((kg wf hx hb hB σ).1 h).1,fun _ σ h=>((kg wf hx hb hB σ).1 h).2,
    fun σ hs he=>⟨rfl,σ,(kg wf hx hb hB σ).2 ⟨hs,he⟩,fun _ _ _=>rfl⟩⟩
theorem gc.then {S T U:St} {ok:Bool} {e1 e2:(Int→Ty)→Prop} (h:gc S T true e1) (k:gc T U ok e2) (hc:∀ σ,Sol T σ→∀ τ,(∀ n x,am n S=some x→σ n=τ n)→Sol S τ→e1 τ→e2 τ→e2 σ):gc S U ok (fun σ=>e1 σ∧e2 σ) where
 inv:=k.inv
 ext:=h.ext.trans k.ext
 back:=fun σ hs=>h.back σ (k.back σ hs)
 sound:=fun ho σ hs=>⟨h.sound rfl σ (k.back σ hs),k.sound ho σ hs⟩
 compl:=fun σ hs he=>by
  obtain ⟨_,σ1,h1,h2⟩:=h.compl σ hs he.1
  obtain ⟨k1,σ2,k2,k3⟩:=k.compl σ1 h1 (hc σ1 h1 σ h2 hs he.1 he.2)
  refine ⟨k1,σ2,k2,fun n x hx=>?_⟩
  obtain ⟨x',hx',_⟩:=h.ext n x hx
  rw [k3 n x' hx',h2 n x hx]
def onT (a b:Ty) (n:Int):Ty:=recT (onL a b a.names.length) n
theorem mJ {t u:Ty} {s:List UInt8} {x:Ty} (hnd:t.names.Nodup) (hl:t.names.length=t.kids.length):∀ k,k≤t.names.length→(am s (onL t u k)=some x↔s∉u.names∧∃ i,i<k∧t.names.getD i []=s∧t.kids.getD i Ty.zero=x)
 | 0,_=>by simp [onL,am]
 | k+1,hk=>by
  have ih:=mJ (s:=s) (x:=x) (u:=u) hnd hl k oq
  rw [onL]
  have hlast:∀ i,i<k+1→i<k∨i=k:=fun i hi=>by omega
  by_cases hc:u.names.contains (t.names.getD k [])=true
  · rw [if_pos hc,ih]
    have hc':=List.contains_iff_mem.1 hc
    constructor
    · rintro ⟨h1,i,hi,h2⟩;exact ⟨h1,i,by omega,h2⟩
    · rintro ⟨h1,i,hi,h2,h3⟩
      rcases hlast i hi with h|h
      · exact ⟨h1,i,h,h2,h3⟩
      · subst h;rw [h2] at hc';exact absurd hc' h1
  · rw [if_neg hc,bE]
    by_cases e:s=t.names.getD k []
    · rw [if_pos e]
      constructor
      · intro h;cases h
        exact ⟨fun hm=>hc (List.contains_iff_mem.2 (e▸hm)),k,by omega,e.symm,rfl⟩
      · rintro ⟨h1,i,hi,h2,h3⟩
        rcases hlast i hi with h|h
        · exfalso
          have hk':k<t.names.length:=by omega
          have hi':i<t.names.length:=by omega
          rw [e,List.getD_eq_getElem?_getD,List.getD_eq_getElem?_getD,List.getElem?_eq_getElem hk',List.getElem?_eq_getElem hi'] at h2
          have:=(List.getElem_inj hnd).1 (show t.names[i]=t.names[k] from h2)
          omega
        · subst h;rw [h3]
    · rw [if_neg e,ih]
      constructor
      · rintro ⟨h1,i,hi,h2⟩;exact ⟨h1,i,by omega,h2⟩
      · rintro ⟨h1,i,hi,h2,h3⟩
        rcases hlast i hi with h|h
        · exact ⟨h1,i,h,h2,h3⟩
        · subst h;exact absurd h2.symm e
theorem zJ {s:List UInt8} {t x:Ty} (hnd:t.names.Nodup) (hl:t.names.length=t.kids.length):fg s t=some x↔∃ i,i<t.names.length∧t.names.getD i []=s∧t.kids.getD i Ty.zero=x:=by
 constructor
 · intro h
   obtain ⟨i,hi,e⟩:=List.getElem_of_mem (hY h)
   rw [List.getElem_zip] at e
   rw [List.length_zip] at hi
   have e':=Prod.mk.inj e
   refine ⟨i,by omega,?_,?_⟩
   · rw [List.getD_eq_getElem?_getD,List.getElem?_eq_getElem oq];exact e'.1
   · rw [List.getD_eq_getElem?_getD,List.getElem?_eq_getElem oq];exact e'.2
 · rintro ⟨i,hi,rfl,rfl⟩
   have hz:i<(t.names.zip t.kids).length:=by rw [List.length_zip];omega
   have hm:=List.getElem_mem hz
   rw [List.getElem_zip] at hm
   rw [List.getD_eq_getElem?_getD,List.getD_eq_getElem?_getD,List.getElem?_eq_getElem hi,List.getElem?_eq_getElem (by omega:i<t.kids.length)]
   exact iv (by rw [cG hl];exact hnd) hm
theorem ql {a b:Ty} {n:Int} (hnd:a.names.Nodup) (hl:a.names.length=a.kids.length) (s:List UInt8):fg s (onT a b n)=if s∈b.names then none else fg s a:=by
 unfold onT
 rw [oV (fd a b _).1]
 have h:=fun x=>mJ (s:=s) (x:=x) (u:=b) hnd hl a.names.length (Nat.le_refl _)
 have h2:=fun x=>zJ (s:=s) (x:=x) hnd hl
 split
 · rename_i hm
   cases hg:am s (onL a b a.names.length) with
   | none=>rfl
   | some x=>exact absurd hm ((h x).1 hg).1
 · rename_i hm
   cases hf:fg s a with
   | some x=>exact (h x).2 ⟨hm,(h2 x).1 hf⟩
   | none =>
    cases hg:am s (onL a b a.names.length) with
    | none=>rfl
    | some x =>
     have:=(h2 x).2 ((h x).1 hg).2
     rw [hf] at this;cases this
theorem Fx {a b k:Ty} {n:Int} (hnd:a.names.Nodup) (hl:a.names.length=a.kids.length) (h:k∈(onT a b n).kids):k∈a.kids:=by
 unfold onT at h
 rw [dL] at h
 obtain ⟨s,hs,rfl⟩:=List.mem_map.1 h
 obtain ⟨x,hx⟩:=Option.isSome_iff_exists.1 (cS.2 ((bQ _).mem_iff.1 hs))
 rw [hx]
 obtain ⟨i,hi,_,e⟩:=((mJ hnd hl _ (Nat.le_refl _)).1 hx).2
 have hi':i<a.kids.length:=by omega
 rw [List.getD_eq_getElem?_getD,List.getElem?_eq_getElem hi'] at e
 rw [Option.getD_some,← e]
 exact List.getElem_mem hi'
theorem AY {a b:Ty} {n:Int} (hnd:a.names.Nodup) (hl:a.names.length=a.kids.length) (h0:0≤n) (hk:∀ k∈a.kids,Gt k):Gt (onT a b n):=by
 refine uC (fd a b _).1 h0 fun p hp=>?_
 have:=iv (fd a b a.names.length).1 (k:=p.1) (x:=p.2) hp
 obtain ⟨i,hi,_,e⟩:=((mJ hnd hl _ (Nat.le_refl _)).1 this).2
 have hi':i<a.kids.length:=by omega
 rw [List.getD_eq_getElem?_getD,List.getElem?_eq_getElem hi'] at e
 rw [← e]
 exact hk _ (List.getElem_mem hi')
theorem kG {a b:Ty} {n:Int} (hnd:a.names.Nodup) (hl:a.names.length=a.kids.length) (s:List UInt8):s∈(onT a b n).names↔s∈a.names∧s∉b.names:=by
 have hl':(onT a b n).names.length=(onT a b n).kids.length:=by unfold onT;rw [ed,dL,List.length_map]
 have h1:=bZ (s:=s) hl'
 have h2:=bZ (s:=s) hl
 rw [ql hnd hl] at h1
 by_cases hb:s∈b.names
 · rw [if_pos hb] at h1
   exact ⟨fun h=>absurd h (h1.1 rfl),fun h=>absurd hb h.2⟩
 · rw [if_neg hb] at h1
   rw [h1] at h2
   by_cases ha:s∈a.names
   · exact ⟨fun _=>⟨ha,hb⟩,fun _=>Classical.byContradiction fun h=>(h2.1 h) ha⟩
   · exact ⟨fun h=>absurd h (h2.2 ha),fun h=>absurd h.1 ha⟩
abbrev Dn:=List (List UInt8×Bool)
abbrev UF:=St→Ty→Ty→Option (Bool×St)
def isD (D:Dn) (s:List UInt8):Bool:=match am s D with
 | some b=>b
 | none=>false
def ck (U:UF) (b:Ty):List (List UInt8)→List Ty→St→Dn→Bool→Option (Bool×St×Dn×Bool)
 | s::ns,k::ks,S,D,ag=>if aQ b.names s<0∨isD D s=true then ck U b ns ks S D ag else (match U S k (b.kids.getD (aQ b.names s).toNat Ty.zero) with
  | some (true,S')=>ck U b ns ks S' (aJ s true D) true
  | some (false,S')=>some (false,S',aJ s true D,true)
  | none=>none)
 | _,_,S,D,ag=>some (true,S,D,ag)
def rok (t:Ty):Prop:=t.sz<lim∧t.names.length=t.kids.length
instance (t:Ty):Decidable (rok t):=inferInstanceAs (Decidable (_∧_))
def dR (f:Nat) (U:UF):Nat→St→Ty→Ty→Dn→Option (Bool×St×Ty×Ty)
 | 0,_,_,_,_=>none
 | g+1,S,a,b,D=>match cm f S a with
  | some a'=>(match cm f S b with
   | some b'=>if rok a'∧rok b' then (match ck U b' a'.names a'.kids S D false with
    | some (true,S',D',true)=>dR f U g S' a' b' D'
    | some (true,S',_,false)=>some (true,S',a',b')
    | some (false,S',_,_)=>some (false,S',a',b')
    | none=>none) else none
   | none=>none)
  | none=>none
def ez (l:List (List UInt8)):Dn:=l.foldl (fun m x=>aJ x true m) []
def iN (a b:Ty):List (List UInt8):=aC ((ez (a.names++b.names)).map Prod.fst)
def CF (S:St) (n:Int):Int:=match am n S with
 | some x=>x.lv
 | none=>0
def eF (S:St) (a b:Ty):St:=aJ ((S.length+1:Nat):Int) ⟨true,min (CF S a.n) (CF S b.n),false,Ty.zero,iN a b⟩ S
def fu (f:Nat) (S:St) (a b:Ty):Option (Bool×St) :=
 if (onT a b b.n).sz<lim∧(onT b a a.n).sz<lim then
 (if a.n=b.n then some (decide ((onT a b b.n).names.length+(onT b a a.n).names.length=0),S)
 else if (0<(onT a b b.n).names.length∧b.n=0)∨(0<(onT b a a.n).names.length∧a.n=0) then some (false,S)
 else if (onT a b b.n).names.length=0∧a.n≠0 then cg f S a.n (onT b a b.n)
 else if (onT b a a.n).names.length=0 then cg f S b.n (onT a b a.n)
 else if S.length<lim∧(am a.n S).isSome=true∧(am b.n S).isSome=true then (match cg f (eF S a b) a.n (onT b a ((S.length+1:Nat):Int)) with
  | some (true,S2)=>cg f S2 b.n (onT a b ((S.length+1:Nat):Int))
  | some (false,S2)=>some (false,S2)
  | none=>none) else none) else none
def gi (f:Nat) (U:UF) (S:St) (a b:Ty):Option (Bool×St):=match dR f U f S a b [] with
 | some (true,S',a',b')=>fu f S' a' b'
 | some (false,S',_,_)=>some (false,S')
 | none=>none
def bq:Nat→St→Ty→Ty→Option (Bool×St)
 | 0,_,_,_=>none
 | f+1,S,a,b=>match cm f S a with
  | some a'=>(match cm f S b with
   | some b'=>if a'.sz<lim∧b'.sz<lim then
    (if a'.kind=6∧b'.kind=6∧a'.n=b'.n then some (true,S)
    else if a'.kind=6 then cg f S a'.n b'
    else if b'.kind=6 then cg f S b'.n a'
    else if a'.kind≠b'.kind∨a'.name≠b'.name then some (false,S)
    else if a'.kind=5 then gi f (bq f) S a' b'
    else if a'.kind=4 then (if 0<a'.kids.length∧0<b'.kids.length then bq f S (a'.kids.getD 0 Ty.zero) (b'.kids.getD 0 Ty.zero) else none)
    else some (true,S)) else none
   | none=>none)
  | none=>none
theorem tyS.n0 {S:St} {a:Ty} (h:tyS S a) (h5:a.kind=5):0≤a.n:=(h.1.sorted h5).2.2.2.1
theorem tyS.var {S:St} {a:Ty} (h:tyS S a) (h5:a.kind=5) (hn:a.n≠0):∃ x,am a.n S=some x∧x.row=true∧x.names=a.names:=by
 obtain ⟨x,h1,h2,h3⟩:=h.2 _ (dr h5 hn)
 exact ⟨x,h1,h2,h3 rfl⟩
def aM (σ:Int→Ty) (a:Ty) (s:List UInt8):Option Ty:=if a.n=0 then none else fg s (σ a.n)
theorem ud {S:St} {σ:Int→Ty} {a:Ty} (h:tyS S a) (h5:a.kind=5) (hs:Sol S σ) {s:List UInt8} (hm:s∈a.names):aM σ a s=none:=by
 unfold aM
 split
 · rfl
 · rename_i hn
   obtain ⟨x,h1,h2,h3⟩:=h.var h5 hn
   exact (hs.row _ x h1 h2).2 s (by rw [h3];exact hm)
theorem tyS.field {S:St} {σ:Int→Ty} {a:Ty} (h:tyS S a) (h5:a.kind=5) (hs:Sol S σ) (s:List UInt8):fg s (sub σ a)=(aM σ a s).orElse fun _=>(fg s a).map (sub σ):=by
 rw [cA h.1 h5 (h.okG hs)]
 unfold aM
 split
 · rfl
 · rfl
theorem tyS.field1 {S:St} {σ:Int→Ty} {a k:Ty} (h:tyS S a) (h5:a.kind=5) (hs:Sol S σ) {s:List UInt8} (hf:fg s a=some k):fg s (sub σ a)=some (sub σ k):=by
 rw [h.field h5 hs,ud h h5 hs (gM hf),hf];rfl
theorem tyS.field0 {S:St} {σ:Int→Ty} {a:Ty} (h:tyS S a) (h5:a.kind=5) (hs:Sol S σ) {s:List UInt8} (hm:s∉a.names):fg s (sub σ a)=aM σ a s:=by
 rw [h.field h5 hs,(bZ (h.1.sorted h5).2.1).2 hm];cases aM σ a s <;> rfl
theorem tyS.tail {S:St} {σ:Int→Ty} {a:Ty} (_:tyS S a) (h5:a.kind=5):(sub σ a).n=if a.n=0 then 0 else (σ a.n).n:=dg h5
theorem jY {S:St} {a b:Ty} {n:Int} (ha:tyS S a) (h5:a.kind=5) (h0:0≤n) (hr:n≠0→∃ x,am n S=some x∧x.row=true∧∀ s,s∈x.names↔s∈b.names∨s∈a.names):rwS S b.names (onT a b n):=by
 obtain ⟨s1,s2,s3,s4,s5⟩:=ha.1.sorted h5
 refine ⟨AY (az s1) s2 h0 s5,rfl,fun k hk=>ha.kid (Fx (az s1) s2 hk),fun s hs=>((kG (az s1) s2 s).1 hs).2,fun hn=>?_⟩
 obtain ⟨x,h1,h2,h3⟩:=hr hn
 refine ⟨x,h1,h2,fun s=>?_⟩
 rw [h3,kG (az s1) s2]
 by_cases hb:s∈b.names <;> simp [hb]
theorem iq {S:St} {σ:Int→Ty} {a b:Ty} {n:Int} (ha:tyS S a) (h5:a.kind=5) (hs:Sol S σ) (hv:rwS S b.names (onT a b n)) (s:List UInt8) :
 fg s (sub σ (onT a b n))=if n=0 then (if s∈b.names then none else (fg s a).map (sub σ)) else (fg s (σ n)).orElse fun _=>if s∈b.names then none else (fg s a).map (sub σ):=by
 obtain ⟨s1,s2,_⟩:=ha.1.sorted h5
 rw [cA hv.gt rfl (hv.okG hs),ql (az s1) s2]
 show (if n=0 then _ else (fg s (σ n)).orElse _)=_
 by_cases hb:s∈b.names
 · rw [if_pos hb,if_pos hb];rfl
 · rw [if_neg hb,if_neg hb]
theorem Hs {S:St} {σ:Int→Ty} {a b:Ty} (ha:tyS S a) (hb:tyS S b) (ka:a.kind=5) (kb:b.kind=5) (hs:Sol S σ) (hn:(sub σ a).n=(sub σ b).n) (hf:∀ s,fg s (sub σ a)=fg s (sub σ b)):sub σ a=sub σ b :=
 dw (d6 ha.1 (ha.okG hs)) (d6 hb.1 (hb.okG hs)) (by rw [a8 (by rw [ka];decide)];exact ka) (by rw [a8 (by rw [kb];decide)];exact kb) hn hf
theorem Au {S:St} {a b:Ty} (ha:tyS S a) (hb:tyS S b) (ka:a.kind=5) (kb:b.kind=5) (hsub:∀ s∈a.names,s∈b.names) (hn:a.n≠0) (hv:rwS S a.names (onT b a b.n)) {σ:Int→Ty} (hs:Sol S σ)
 (hcom:∀ s x y,fg s a=some x→fg s b=some y→sub σ x=sub σ y):σ a.n=sub σ (onT b a b.n)↔sub σ a=sub σ b:=by
 obtain ⟨x,h1,h2,h3⟩:=ha.var ka hn
 obtain ⟨a1,a2,_⟩:=ha.1.sorted ka
 obtain ⟨b1,b2,_⟩:=hb.1.sorted kb
 have hr:=hs.row _ x h1 h2
 have hg:=hs.gt _ x h1
 have hGo:=d6 hv.gt (hv.okG hs)
 have hko:(sub σ (onT b a b.n)).kind=5:=by rw [a8 (by rw [hv.k5];decide)];rfl
 have hno:(sub σ (onT b a b.n)).n=(sub σ b).n:=by
  rw [hb.tail kb]
  exact dg (σ:=σ) (t:=onT b a b.n) rfl
 have hna:(sub σ a).n=(σ a.n).n:=by rw [ha.tail ka,if_neg hn]
 have ho:∀ s,s∉a.names→fg s (sub σ (onT b a b.n))=fg s (sub σ b):=by
  intro s hm
  rw [iq hb kb hs hv,if_neg hm,hb.field kb hs]
  unfold aM
  split
  · rfl
  · rfl
 constructor
 · intro e
   refine Hs ha hb ka kb hs (by rw [hna,e,hno]) fun s=>?_
   by_cases hm:s∈a.names
   · obtain ⟨k,hk⟩:=du a2 hm
     obtain ⟨k',hk'⟩:=du b2 (hsub s hm)
     rw [ha.field1 ka hs hk,hb.field1 kb hs hk',hcom s k k' hk hk']
   · rw [ha.field0 ka hs hm,← ho s hm,← e]
     unfold aM
     rw [if_neg hn]
 · intro e
   refine dw hg hGo hr.1 hko (by rw [← hna,e,hno]) fun s=>?_
   by_cases hm:s∈a.names
   · rw [hr.2 s (by rw [h3];exact hm),hv.nof hs hm]
   · rw [ho s hm,← e,ha.field0 ka hs hm]
     unfold aM
     rw [if_neg hn]
theorem lM {S:St} {t:Ty} (h5:t.kind=5) (hn:bdV S t.n=none):Hn S t:=fun _=>hn
theorem fQ {a b:Ty} {n:Int} (hnd:a.names.Nodup) (hl:a.names.length=a.kids.length) (h:(onT a b n).names.length=0):∀ s∈a.names,s∈b.names:=fun s hs =>
 Classical.byContradiction fun hb=>by
  have:=(kG (b:=b) (n:=n) hnd hl s).2 ⟨hs,hb⟩
  rw [List.eq_nil_of_length_eq_zero h] at this
  simp at this
theorem iD {a b:Ty} {n:Int} (hnd:a.names.Nodup) (hl:a.names.length=a.kids.length) (h:0<(onT a b n).names.length):∃ s,s∈a.names∧s∉b.names:=by
 obtain ⟨s,hs⟩:=List.exists_mem_of_length_pos h
 exact ⟨s,(kG hnd hl s).1 hs⟩
theorem mj:∀ (l:List (List UInt8)) (m:Dn),(m.map Prod.fst).Nodup→((l.foldl (fun m x=>aJ x true m) m).map Prod.fst).Nodup∧∀ s,s∈(l.foldl (fun m x=>aJ x true m) m).map Prod.fst↔s∈m.map Prod.fst∨s∈l
 | [],m,h=>⟨h,fun s=>by simp⟩
 | x::l,m,h=>by
  have hk:∀ m:Dn,(aJ x true m).map Prod.fst=if x∈m.map Prod.fst then m.map Prod.fst else m.map Prod.fst++[x]:=by
   intro m
   induction m with
   | nil=>simp [aJ]
   | cons p m ih =>
    rw [aJ]
    by_cases e:x=p.1
    · rw [if_pos e,if_pos (by rw [List.map_cons];exact List.mem_cons.2 (.inl e))];simp [e]
    · rw [if_neg e,List.map_cons,ih,List.map_cons]
      by_cases hm:x∈m.map Prod.fst
      · rw [if_pos hm,if_pos (List.mem_cons_of_mem _ hm)]
      · rw [if_neg hm,if_neg (by simp only [List.mem_cons,not_or];exact ⟨e,hm⟩)];rfl
  rw [List.foldl_cons]
  have hnd:((aJ x true m).map Prod.fst).Nodup:=by
   rw [hk]
   split
   · exact h
   · rename_i hm
     rw [List.nodup_append]
     exact ⟨h,by simp,fun a ha b hb=>by simp only [List.mem_singleton] at hb;subst hb;rintro rfl;exact hm ha⟩
  obtain ⟨h1,h2⟩:=mj l _ hnd
  refine ⟨h1,fun s=>?_⟩
  rw [h2,hk]
  split
  · rename_i hm
    simp only [List.mem_cons]
    constructor
    · rintro (h|h)
      · exact .inl h
      · exact .inr (.inr h)
    · rintro (h|rfl|h)
      · exact .inl h
      · exact .inl hm
      · exact .inr h
  · simp only [List.mem_append,List.mem_singleton,List.mem_cons,or_assoc,List.not_mem_nil,or_false]
theorem eE (a b:Ty) (s:List UInt8):s∈iN a b↔s∈a.names∨s∈b.names:=by
 unfold iN ez
 rw [(bQ _).mem_iff,(mj _ [] zq).2]
 simp
theorem AJ (a b:Ty):(iN a b).Pairwise (fun a b=>a<b):=lE (mj _ [] zq).1
theorem vF {S:St} (wf:Wf S) (a b:Ty):∃ v,New S (eF S a b) v∧v.row=true∧v.names=iN a b:=by
 refine ⟨⟨true,min (CF S a.n) (CF S b.n),false,Ty.zero,iN a b⟩,⟨kC wf.fresh,?_,fun m hm=>?_,rfl,AJ a b⟩,rfl,rfl⟩
 · unfold eF;rw [bE,if_pos rfl]
 · unfold eF;rw [bE,if_neg hm]
theorem Inv.new {S S':St} {v:Vr} (h:Inv S) (hn:New S S' v):Inv S':=by
 obtain ⟨wf,ρ,rk,h1,h2⟩:=h
 exact ⟨hn.wf wf,_,rk,hn.rv wf h1,hn.rk wf h2⟩
theorem gc.refl {S:St} (hi:Inv S) {e:(Int→Ty)→Prop} (h:∀ σ,Sol S σ→e σ):gc S S true e:=⟨hi,Ext.refl _,fun _ h=>h,fun _ σ hs=>h σ hs,fun σ hs _=>⟨rfl,σ,hs,fun _ _ _=>rfl⟩⟩
theorem gc.no {S:St} (hi:Inv S) {e:(Int→Ty)→Prop} (h:∀ σ,Sol S σ→¬ e σ):gc S S false e:=⟨hi,Ext.refl _,fun _ h=>h,fun h=>absurd h dq,fun σ hs he=>absurd he (h σ hs)⟩
theorem gc.congr {S S':St} {ok:Bool} {e e':(Int→Ty)→Prop} (h:gc S S' ok e) (he:∀ σ,Sol S σ→(e σ↔e' σ)):gc S S' ok e' :=
 ⟨h.inv,h.ext,h.back,fun ho σ hs=>(he σ (h.back σ hs)).1 (h.sound ho σ hs),fun σ hs hh=>h.compl σ hs ((he σ hs).2 hh)⟩
section
variable {S S':St} {a b:Ty} {f:Nat} {ok:Bool}
theorem Cd {p:Prop} (h:p:=by show ¬ (5:Int)=6;decide):p:=h
theorem C5 (h:fu f S a b=some (ok,S')) (hi:Inv S) (ha:tyS S a) (hb:tyS S b) (ka:a.kind=5) (kb:b.kind=5) (na:bdV S a.n=none) (nb:bdV S b.n=none)
 (hcom:∀ σ,Sol S σ→∀ s x y,fg s a=some x→fg s b=some y→sub σ x=sub σ y):gc S S' ok (fun σ=>sub σ a=sub σ b):=by
 have wf:=hi.1
 obtain ⟨a1,a2,_⟩:=ha.1.sorted ka
 obtain ⟨b1,b2,_⟩:=hb.1.sorted kb
 have a0:=ha.n0 ka
 have b0:=hb.n0 kb
 unfold fu at h
 split at h <;> try (cases h;done)
 split at h
 · rename_i e
   cases h
   by_cases hl:(onT a b b.n).names.length+(onT b a a.n).names.length=0
   · rw [decide_eq_true hl]
     have hsa:=fQ (b:=b) (n:=b.n) (az a1) a2 oq
     have hsb:=fQ (b:=a) (n:=a.n) (az b1) b2 oq
     refine gc.refl hi fun σ hs=>Hs ha hb ka kb hs (by rw [ha.tail ka,hb.tail kb,e]) fun s=>?_
     by_cases hm:s∈a.names
     · obtain ⟨k,hk⟩:=du a2 hm
       obtain ⟨k',hk'⟩:=du b2 (hsa s hm)
       rw [ha.field1 ka hs hk,hb.field1 kb hs hk',hcom σ hs s k k' hk hk']
     · rw [ha.field0 ka hs hm,hb.field0 kb hs fun h=>hm (hsb s h)]
       unfold aM
       rw [e]
   · rw [decide_eq_false hl]
     refine gc.no hi fun σ hs he=>?_
     by_cases hl1:0<(onT a b b.n).names.length
     · obtain ⟨s,h1,h2⟩:=iD (az a1) a2 hl1
       obtain ⟨k,hk⟩:=du a2 h1
       have:=ha.field1 ka hs hk
       rw [he,hb.field0 kb hs h2] at this
       have h0:=ud ha ka hs h1
       unfold aM at this h0
       rw [e] at h0
       rw [h0] at this
       cases this
     · obtain ⟨s,h1,h2⟩:=iD (a:=b) (b:=a) (n:=a.n) (az b1) b2 oq
       obtain ⟨k,hk⟩:=du b2 h1
       have:=hb.field1 kb hs hk
       rw [← he,ha.field0 ka hs h2] at this
       have h0:=ud hb kb hs h1
       unfold aM at this h0
       rw [e] at this
       rw [h0] at this
       cases this
 rename_i hne
 split at h
 · rename_i hc
   cases h
   refine gc.no hi fun σ hs he=>?_
   rcases hc with ⟨hl,e⟩|⟨hl,e⟩
   · obtain ⟨s,h1,h2⟩:=iD (az a1) a2 hl
     obtain ⟨k,hk⟩:=du a2 h1
     have:=ha.field1 ka hs hk
     rw [he,hb.field0 kb hs h2] at this
     unfold aM at this
     rw [if_pos e] at this
     cases this
   · obtain ⟨s,h1,h2⟩:=iD (az b1) b2 hl
     obtain ⟨k,hk⟩:=du b2 h1
     have:=hb.field1 kb hs hk
     rw [← he,ha.field0 ka hs h2] at this
     unfold aM at this
     rw [if_pos e] at this
     cases this
 rename_i hc
 split at h
 · rename_i hca
   obtain ⟨hl,hn⟩:=hca
   have hsub:=fQ (b:=b) (n:=b.n) (az a1) a2 hl
   obtain ⟨x,h1,h2,h3⟩:=ha.var ka hn
   have hv:rwS S a.names (onT b a b.n):=jY hb kb b0 fun hn'=>by
    obtain ⟨y,y1,y2,y3⟩:=hb.var kb hn'
    exact ⟨y,y1,y2,fun s=>by rw [y3];exact ⟨.inr,fun h=>h.elim (hsub s) id⟩⟩
   have hst:=eW h hi h1 (bO na h1) ⟨fun hf=>absurd (h2.symm.trans hf) dq,fun _=>by rw [h3];exact hv⟩ (lM rfl nb) (fun h6=>absurd h6 Cd) (fun _ e=>hne e.symm)
   exact hst.congr fun σ hs=>Au ha hb ka kb hsub hn hv hs (hcom σ hs)
 rename_i hca
 split at h
 · rename_i hl
   have hn:b.n≠0:=by
    intro e
    have hl1:¬ 0<(onT a b b.n).names.length:=fun hp=>hc (.inl ⟨hp,e⟩)
    have hna:a.n=0:=Classical.byContradiction fun h0=>hca ⟨by omega,h0⟩
    exact hne (hna.trans e.symm)
   have hsub:=fQ (b:=a) (n:=a.n) (az b1) b2 hl
   obtain ⟨x,h1,h2,h3⟩:=hb.var kb hn
   have hv:rwS S b.names (onT a b a.n):=jY ha ka a0 fun hn'=>by
    obtain ⟨y,y1,y2,y3⟩:=ha.var ka hn'
    exact ⟨y,y1,y2,fun s=>by rw [y3];exact ⟨.inr,fun h=>h.elim (hsub s) id⟩⟩
   have hst:=eW h hi h1 (bO nb h1) ⟨fun hf=>absurd (h2.symm.trans hf) dq,fun _=>by rw [h3];exact hv⟩ (lM rfl na) (fun h6=>absurd h6 Cd) (fun _ e=>hne e)
   refine hst.congr fun σ hs=>(Au hb ha kb ka hsub hn hv hs fun s x y hx hy=>(hcom σ hs s y x hy hx).symm).trans ⟨Eq.symm,Eq.symm⟩
 rename_i hlb
 have hla:¬ (onT a b b.n).names.length=0:=by
  intro e
  have hn:a.n=0:=Classical.byContradiction fun h0=>hca ⟨e,h0⟩
  exact hc (.inr ⟨by omega,hn⟩)
 have hna:a.n≠0:=fun e=>hc (.inr ⟨by omega,e⟩)
 have hnb:b.n≠0:=fun e=>hc (.inl ⟨by omega,e⟩)
 obtain ⟨v,hnew,hvr,hvn⟩:=vF wf a b
 have hi1:=hi.new hnew
 have he1:=hnew.ext wf
 have ha1:=ha.ext he1
 have hb1:=hb.ext he1
 obtain ⟨xa,xa1,xa2,xa3⟩:=ha.var ka hna
 obtain ⟨xb,xb1,xb2,xb3⟩:=hb.var kb hnb
 have hka:a.n≠((S.length+1:Nat):Int):=wf.ne xa1
 have hkb:b.n≠((S.length+1:Nat):Int):=wf.ne xb1
 have xa1':am a.n (eF S a b)=some xa:=by rw [hnew.oth _ hka];exact xa1
 have xb1':am b.n (eF S a b)=some xb:=by rw [hnew.oth _ hkb];exact xb1
 have hk0:bdV (eF S a b) ((S.length+1:Nat):Int)=none:=by rw [jS hnew.at_,hnew.bd];rfl
 have hR:rwS (eF S a b) a.names (onT b a ((S.length+1:Nat):Int)):=jY hb1 kb oq fun _=>⟨v,hnew.at_,hvr,fun s=>by rw [hvn,eE]⟩
 have hL:rwS (eF S a b) b.names (onT a b ((S.length+1:Nat):Int)):=jY ha1 ka oq fun _=>⟨v,hnew.at_,hvr,fun s=>by rw [hvn,eE];exact or_comm⟩
 have first:∀ ok S2,cg f (eF S a b) a.n (onT b a ((S.length+1:Nat):Int))=some (ok,S2)→gc (eF S a b) S2 ok (fun σ=>σ a.n=sub σ (onT b a ((S.length+1:Nat):Int))):=fun ok S2 hb =>
  eW hb hi1 xa1' (bO na xa1) ⟨fun hf=>absurd (xa2.symm.trans hf) dq,fun _=>by rw [xa3];exact hR⟩ (lM rfl hk0) (fun h6=>absurd h6 Cd) (fun _=>hka.symm)
 have two:∀ σ,Sol (eF S a b) σ→σ a.n=sub σ (onT b a ((S.length+1:Nat):Int))→σ b.n=sub σ (onT a b ((S.length+1:Nat):Int))→sub σ a=sub σ b:=by
  intro σ hs e1 e2
  have hsS:=hnew.back wf hs
  have hv0:=hs.row _ v hnew.at_ hvr
  have hk:¬ ((S.length+1:Nat):Int)=0:=by omega
  have ra:∀ s,aM σ a s=fg s (sub σ (onT b a ((S.length+1:Nat):Int))):=fun s=>by unfold aM;rw [if_neg hna,e1]
  have rb:∀ s,aM σ b s=fg s (sub σ (onT a b ((S.length+1:Nat):Int))):=fun s=>by unfold aM;rw [if_neg hnb,e2]
  refine Hs ha hb ka kb hsS ?_ fun s=>?_
  · rw [ha.tail ka,hb.tail kb,if_neg hna,if_neg hnb,e1,e2,dg (by rfl),dg (by rfl)];rfl
  · rw [ha.field ka hsS,hb.field kb hsS,ra,rb,iq hb1 kb hs hR,iq ha1 ka hs hL,if_neg hk,if_neg hk]
    by_cases hma:s∈a.names <;> by_cases hmb:s∈b.names
    · obtain ⟨k,hk⟩:=du a2 hma
      obtain ⟨k',hk'⟩:=du b2 hmb
      rw [hv0.2 s (by rw [hvn,eE];exact .inl hma),if_pos hma,if_pos hmb,hk,hk']
      simp only [Option.orElse_none,Option.map_some]
      rw [hcom σ hsS s k k' hk hk']
    · rw [hv0.2 s (by rw [hvn,eE];exact .inl hma),if_pos hma,if_neg hmb,(bZ b2).2 hmb]
      cases fg s a <;> simp
    · rw [hv0.2 s (by rw [hvn,eE];exact .inr hmb),if_neg hma,if_pos hmb,(bZ a2).2 hma]
      cases fg s b <;> simp
    · rw [if_neg hma,if_neg hmb,(bZ a2).2 hma,(bZ b2).2 hmb]
 have three:∀ σ,Sol S σ→sub σ a=sub σ b→∃ w,Gt w∧(v.row=true→w.kind=5∧∀ s∈v.names,fg s w=none)∧∀ τ,Sol (eF S a b) τ→(∀ n x,am n S=some x→τ n=σ n)→τ ((S.length+1:Nat):Int)=w →
  τ a.n=sub τ (onT b a ((S.length+1:Nat):Int))∧τ b.n=sub τ (onT a b ((S.length+1:Nat):Int)):=by
  intro σ hs e
  have hra:=hs.row _ xa xa1 xa2
  have hga:=hs.gt _ xa xa1
  have hrb:=hs.row _ xb xb1 xb2
  have hgb:=hs.gt _ xb xb1
  obtain ⟨r1,r2,r3,r4,r5⟩:=hga.sorted hra.1
  have hnn:(σ a.n).n=(σ b.n).n:=by
   have h1:=ha.tail (σ:=σ) ka
   have h2:=hb.tail (σ:=σ) kb
   rw [if_neg hna] at h1
   rw [if_neg hnb] at h2
   rw [← h1,← h2,e]
  have wfg:∀ s,fg s (onT (σ a.n) b (σ a.n).n)=if s∈b.names then none else fg s (σ a.n):=fun s=>ql (az r1) r2 s
  have hGw:Gt (onT (σ a.n) b (σ a.n).n):=AY (az r1) r2 r4 r5
  refine ⟨onT (σ a.n) b (σ a.n).n,hGw,fun _=>⟨rfl,fun s hm=>?_⟩,fun τ hτ hag hw=>?_⟩
  · rw [hvn,eE] at hm
    rw [wfg]
    split
    · rfl
    · rename_i hnb'
      exact hra.2 s (by rw [xa3];exact hm.resolve_right hnb')
  · have hτS:=hnew.back wf hτ
    have hk:¬ ((S.length+1:Nat):Int)=0:=by omega
    have hkid:∀ (t:Ty),tyS S t→sub τ t=sub σ t:=fun t ht=>dM t fun o ho=>by obtain ⟨y,y1,_⟩:=ht.2 o ho;exact hag _ y y1
    have fa:∀ s,(fg s a).map (sub τ)=(fg s a).map (sub σ):=fun s=>by
     cases hf:fg s a with
     | none=>rfl
     | some k=>simp only [Option.map_some];rw [hkid k (ha.kid (gF hf))]
    have fb:∀ s,(fg s b).map (sub τ)=(fg s b).map (sub σ):=fun s=>by
     cases hf:fg s b with
     | none=>rfl
     | some k=>simp only [Option.map_some];rw [hkid k (hb.kid (gF hf))]
    have ef:∀ s,fg s (sub σ a)=fg s (sub σ b):=fun s=>by rw [e]
    have e1:∀ s,s∉a.names→s∈b.names→fg s (σ a.n)=(fg s b).map (sub σ):=fun s h1 h2=>by
     obtain ⟨k,hk⟩:=du b2 h2
     have:=ef s
     rw [ha.field0 ka hs h1,hb.field1 kb hs hk] at this
     unfold aM at this
     rw [if_neg hna] at this
     rw [this,hk];rfl
    have e2:∀ s,s∈a.names→s∉b.names→fg s (σ b.n)=(fg s a).map (sub σ):=fun s h1 h2=>by
     obtain ⟨k,hk⟩:=du a2 h1
     have:=ef s
     rw [ha.field1 ka hs hk,hb.field0 kb hs h2] at this
     unfold aM at this
     rw [if_neg hnb] at this
     rw [← this,hk];rfl
    have e3:∀ s,s∉a.names→s∉b.names→fg s (σ a.n)=fg s (σ b.n):=fun s h1 h2=>by
     have:=ef s
     rw [ha.field0 ka hs h1,hb.field0 kb hs h2] at this
     unfold aM at this
     rwa [if_neg hna,if_neg hnb] at this
    have kR:(sub τ (onT b a ((S.length+1:Nat):Int))).kind=5:=by rw [a8 Cd];rfl
    have kL:(sub τ (onT a b ((S.length+1:Nat):Int))).kind=5:=by rw [a8 Cd];rfl
    have nR:(sub τ (onT b a ((S.length+1:Nat):Int))).n=(σ a.n).n:=by
     rw [dg (by rfl)]
     show (if ((S.length+1:Nat):Int)=0 then 0 else (τ ((S.length+1:Nat):Int)).n)=_
     rw [if_neg hk,hw];rfl
    have nL:(sub τ (onT a b ((S.length+1:Nat):Int))).n=(σ a.n).n:=by
     rw [dg (by rfl)]
     show (if ((S.length+1:Nat):Int)=0 then 0 else (τ ((S.length+1:Nat):Int)).n)=_
     rw [if_neg hk,hw];rfl
    rw [hag _ xa xa1,hag _ xb xb1]
    refine ⟨dw hga (d6 hR.gt (hR.okG hτ)) hra.1 kR nR.symm fun s=>?_,dw hgb (d6 hL.gt (hL.okG hτ)) hrb.1 kL (by rw [nL,hnn]) fun s=>?_⟩
    · rw [iq hb1 kb hτ hR,if_neg hk,hw,wfg,fb]
      by_cases hma:s∈a.names
      · rw [if_pos hma,hra.2 s (by rw [xa3];exact hma)];simp
      · rw [if_neg hma]
        by_cases hmb:s∈b.names
        · rw [if_pos hmb,e1 s hma hmb];simp
        · rw [if_neg hmb,(bZ b2).2 hmb];cases fg s (σ a.n) <;> simp
    · rw [iq ha1 ka hτ hL,if_neg hk,hw,wfg,fa]
      by_cases hmb:s∈b.names
      · rw [if_pos hmb,if_pos hmb,hrb.2 s (by rw [xb3];exact hmb)];simp
      · rw [if_neg hmb,if_neg hmb]
        by_cases hma:s∈a.names
        · rw [e2 s hma hmb,hra.2 s (by rw [xa3];exact hma)];simp
        · rw [← e3 s hma hmb,(bZ a2).2 hma];cases fg s (σ a.n) <;> simp
 split at h <;> try (cases h;done)
 split at h <;> try (cases h;done)
 · rename_i S2 hb1'
   have st1:=first true S2 hb1'
   obtain ⟨xb',yb1,yb2,yb3⟩:=st1.ext _ xb xb1'
   have hnb2:bdV S2 b.n=none:=by
    unfold cg at hb1'
    rw [xa1'] at hb1'
    simp only at hb1'
    split at hb1' <;> try (cases hb1';done)
    split at hb1' <;> try (cases hb1';done)
    split at hb1'
    · cases hb1'
    · cases hb1'
      have hB:=jP (t:=onT b a ((S.length+1:Nat):Int)) xa1' (aD [] ‹Ty›)
      obtain ⟨z,z1,z2,z3,_,z5⟩:=hB.fw _ xb xb1'
      rw [jS z1,(z5 (fun e=>hne e.symm)).1,bO nb xb1];rfl
   have hk2:bdV S2 ((S.length+1:Nat):Int)=none:=by
    unfold cg at hb1'
    rw [xa1'] at hb1'
    simp only at hb1'
    split at hb1' <;> try (cases hb1';done)
    split at hb1' <;> try (cases hb1';done)
    split at hb1'
    · cases hb1'
    · cases hb1'
      have hB:=jP (t:=onT b a ((S.length+1:Nat):Int)) xa1' (aD [] ‹Ty›)
      obtain ⟨z,z1,z2,z3,_,z5⟩:=hB.fw _ v hnew.at_
      rw [jS z1,(z5 (fun e=>hka e.symm)).1,hnew.bd];rfl
   have st2:=eW h st1.inv yb1 (bO hnb2 yb1) ⟨fun hf=>absurd (yb2.symm.trans (hf) |>.symm.trans xb2 |>.symm) dq,fun _=>by rw [yb3,xb3];exact hL.ext st1.ext⟩ (lM rfl hk2) (fun h6=>absurd h6 Cd) (fun _=>hkb.symm)
   refine ⟨st2.inv,he1.trans (st1.ext.trans st2.ext),fun σ hs=>hnew.back wf (st1.back σ (st2.back σ hs)),fun ho σ hs=>?_,fun σ hs e=>?_⟩
   · have h1:=st2.back σ hs
     exact two σ (st1.back σ h1) (st1.sound rfl σ h1) (st2.sound ho σ hs)
   · obtain ⟨w,w1,w2,w3⟩:=three σ hs e
     have hs1:=hnew.sol wf hs w1 w2
     have hag:∀ n x,am n S=some x→upd σ ((S.length+1:Nat):Int) w n=σ n:=fun n x hx=>eX (wf.ne hx)
     obtain ⟨g1,g2⟩:=w3 _ hs1 hag (fv _ _ _)
     obtain ⟨_,σ1,p1,p2⟩:=st1.compl _ hs1 g1
     have hag1:∀ n x,am n S=some x→σ1 n=σ n:=fun n x hx=>by
      rw [p2 n x (by rw [hnew.oth _ (wf.ne hx)];exact hx)];exact hag n x hx
     have hw1:σ1 ((S.length+1:Nat):Int)=w:=by rw [p2 _ v hnew.at_,fv]
     obtain ⟨_,g4⟩:=w3 σ1 (st1.back σ1 p1) hag1 hw1
     obtain ⟨q1,σ2,q2,q3⟩:=st2.compl σ1 p1 g4
     refine ⟨q1,σ2,q2,fun n x hx=>?_⟩
     have hx1:am n (eF S a b)=some x:=by rw [hnew.oth _ (wf.ne hx)];exact hx
     obtain ⟨x2,hx2,_⟩:=st1.ext n x hx1
     rw [q3 n x2 hx2,hag1 n x hx]
 · rename_i S2 hb1'
   cases h
   have st1:=first false S' hb1'
   refine ⟨st1.inv,he1.trans st1.ext,fun σ hs=>hnew.back wf (st1.back σ hs),fun h=>absurd h dq,fun σ hs e=>?_⟩
   obtain ⟨w,w1,w2,w3⟩:=three σ hs e
   have hs1:=hnew.sol wf hs w1 w2
   obtain ⟨g1,g2⟩:=w3 _ hs1 (fun n x hx=>eX (wf.ne hx)) (fv _ _ _)
   exact absurd (st1.compl _ hs1 g1).1 dq
end
def eqn (a b:Ty) (σ:Int→Ty):Prop:=sub σ a=sub σ b
def UOk (U:UF):Prop:=∀ S a b ok S',U S a b=some (ok,S')→Inv S→tyS S a→tyS S b→gc S S' ok (eqn a b)
theorem uT {b:Ty} {s:List UInt8} (hnd:b.names.Nodup) (hl:b.names.length=b.kids.length) (h:¬ aQ b.names s<0):fg s b=some (b.kids.getD (aQ b.names s).toNat Ty.zero):=by
 unfold aQ at h ⊢
 split at h
 · rename_i i hi
   rw [List.findIdx?_eq_some_iff_getElem] at hi
   obtain ⟨h1,h2,_⟩:=hi
   refine (zJ hnd hl).2 ⟨i,h1,?_,?_⟩
   · rw [List.getD_eq_getElem?_getD,List.getElem?_eq_getElem h1];exact beq_iff_eq.1 h2
   · rfl
 · omega
theorem Dy {b:Ty} {s:List UInt8} (h:aQ b.names s<0):s∉b.names:=by
 have:=hZ b.names s
 intro hm
 rw [List.contains_iff_mem.2 hm,decide_eq_true_eq] at this
 omega
theorem rz {D:Dn} {s t:List UInt8}:isD (aJ s true D) t=if t=s then true else isD D t:=by
 unfold isD
 rw [bE]
 by_cases e:t=s
 · rw [if_pos e,if_pos e]
 · rw [if_neg e,if_neg e]
theorem kw {U:UF} (hU:UOk U) {b:Ty} (kb:b.kind=5):∀ (ns:List (List UInt8)) (ks:List Ty) (S:St) (D:Dn) (ag ok:Bool) (S1:St) (D1:Dn) (ag1:Bool),ck U b ns ks S D ag=some (ok,S1,D1,ag1)→ns.length=ks.length→Inv S→tyS S b→(∀ k∈ks,tyS S k) →
 Inv S1∧Ext S S1∧(∀ σ,Sol S1 σ→Sol S σ) ∧
 (ok=true→(∀ s,isD D1 s=true→isD D s=true∨∃ x y,(s,x)∈ns.zip ks∧fg s b=some y∧∀ σ,Sol S1 σ→sub σ x=sub σ y)∧(ag1=false→S1=S∧∀ s∈ns,s∈b.names→isD D s=true)) ∧
 (∀ σ,Sol S σ→(∀ s x y,(s,x)∈ns.zip ks→fg s b=some y→sub σ x=sub σ y)→ok=true∧∃ σ',Sol S1 σ'∧∀ n x,am n S=some x→σ' n=σ n)
 | [],ks,S,D,ag,ok,S1,D1,ag1,h,hl,hi,hb,hk=>by
  simp only [ck,Option.some.injEq,Prod.mk.injEq] at h
  obtain ⟨rfl,rfl,rfl,rfl⟩:=h
  exact ⟨hi,Ext.refl _,fun _ h=>h,fun _=>⟨fun s h=>.inl h,fun _=>⟨rfl,by simp⟩⟩,fun σ hs _=>⟨rfl,σ,hs,fun _ _ _=>rfl⟩⟩
 | s::ns,[],S,D,ag,ok,S1,D1,ag1,h,hl,hi,hb,hk=>by simp at hl
 | s::ns,k::ks,S,D,ag,ok,S1,D1,ag1,h,hl,hi,hb,hk=>by
  obtain ⟨b1,b2,_⟩:=hb.1.sorted kb
  rw [ck] at h
  split at h
  · rename_i hc
    obtain ⟨q1,q2,q3,q4,q5⟩:=kw hU kb ns ks S D ag ok S1 D1 ag1 h (by simpa using hl) hi hb (fun k hk'=>hk k (List.mem_cons_of_mem _ hk'))
    refine ⟨q1,q2,q3,fun ho=>?_,fun σ hs he=>q5 σ hs fun t x y hm hf=>he t x y (by rw [List.zip_cons_cons];exact List.mem_cons_of_mem _ hm) hf⟩
    obtain ⟨r1,r2⟩:=q4 ho
    refine ⟨fun t ht=>?_,fun ha=>⟨(r2 ha).1,fun t ht htb=>?_⟩⟩
    · rcases r1 t ht with h|⟨x,y,h1,h2⟩
      · exact .inl h
      · exact .inr ⟨x,y,by rw [List.zip_cons_cons];exact List.mem_cons_of_mem _ h1,h2⟩
    · rcases List.mem_cons.1 ht with rfl|ht
      · rcases hc with hc|hc
        · exact absurd htb (Dy hc)
        · exact hc
      · exact (r2 ha).2 t ht htb
  · rename_i hc
    have hc':¬ aQ b.names s<0∧¬ isD D s=true:=⟨fun h=>hc (.inl h),fun h=>hc (.inr h)⟩
    have hf:=uT (az b1) b2 hc'.1
    have hvb:=hb.kid (gF hf)
    have hz:(s,k)∈(s::ns).zip (k::ks):=by rw [List.zip_cons_cons];exact List.mem_cons_self
    split at h <;> try (cases h;done)
    · rename_i S2 hU1
      have st:=hU _ _ _ _ _ hU1 hi (hk k List.mem_cons_self) hvb
      obtain ⟨q1,q2,q3,q4,q5⟩:=kw hU kb ns ks S2 (aJ s true D) true ok S1 D1 ag1 h (by simpa using hl) st.inv (hb.ext st.ext) (fun k hk'=>(hk k (List.mem_cons_of_mem _ hk')).ext st.ext)
      refine ⟨q1,st.ext.trans q2,fun σ hs=>st.back σ (q3 σ hs),fun ho=>?_,fun σ hs he=>?_⟩
      · obtain ⟨r1,r2⟩:=q4 ho
        refine ⟨fun t ht=>?_,fun ha=>?_⟩
        · rcases r1 t ht with h|⟨x,y,h1,h2⟩
          · rw [rz] at h
            split at h
            · rename_i e
              subst e
              exact .inr ⟨k,_,hz,hf,fun σ hs=>st.sound rfl σ (q3 σ hs)⟩
            · exact .inl h
          · exact .inr ⟨x,y,by rw [List.zip_cons_cons];exact List.mem_cons_of_mem _ h1,h2⟩
        · exfalso
          have:∀ (ns:List (List UInt8)) (ks:List Ty) (S:St) (D:Dn) (S1:St) (D1:Dn),ck U b ns ks S D true≠some (true,S1,D1,false):=by
           intro ns
           induction ns with
           | nil=>intro ks S D S1 D1 h;simp [ck] at h
           | cons s ns ih =>
            intro ks S D S1 D1 h
            cases ks with
            | nil=>simp [ck] at h
            | cons k ks =>
             rw [ck] at h
             split at h
             · exact ih _ _ _ _ _ h
             · split at h <;> try (cases h;done)
               exact ih _ _ _ _ _ h
          rw [ho,ha] at h
          exact this _ _ _ _ _ _ h
      · obtain ⟨_,σ1,p1,p2⟩:=st.compl σ hs (he s k _ hz hf)
        have hkid:∀ t,tyS S t→sub σ1 t=sub σ t:=fun t ht=>dM t fun o ho=>by obtain ⟨y,y1,_⟩:=ht.2 o ho;exact p2 _ y y1
        obtain ⟨p3,σ2,p4,p5⟩:=q5 σ1 p1 fun t x y hm hf'=>by
         rw [hkid x (hk x (List.mem_cons_of_mem _ (List.of_mem_zip hm).2)),hkid y (hb.kid (gF hf'))]
         exact he t x y (by rw [List.zip_cons_cons];exact List.mem_cons_of_mem _ hm) hf'
        refine ⟨p3,σ2,p4,fun n x hx=>?_⟩
        obtain ⟨x',hx',_⟩:=st.ext n x hx
        rw [p5 n x' hx',p2 n x hx]
    · rename_i S2 hU1
      simp only [Option.some.injEq,Prod.mk.injEq] at h
      obtain ⟨rfl,rfl,rfl,rfl⟩:=h
      have st:=hU _ _ _ _ _ hU1 hi (hk k List.mem_cons_self) hvb
      exact ⟨st.inv,st.ext,st.back,fun h=>absurd h dq,fun σ hs he=>absurd (st.compl σ hs (he s k _ hz hf)).1 dq⟩
def dOk (S:St) (a b:Ty) (D:Dn):Prop:=∀ s,isD D s=true→∀ σ,Sol S σ→fg s (sub σ a)=fg s (sub σ b)
theorem oY {f:Nat} {U:UF} (hU:UOk U):∀ (g:Nat) (S:St) (a b:Ty) (D:Dn) (ok:Bool) (S1:St) (a1 b1:Ty),dR f U g S a b D=some (ok,S1,a1,b1)→Inv S→tyS S a→tyS S b→a.kind=5→b.kind=5→dOk S a b D →
 Inv S1∧Ext S S1∧(∀ σ,Sol S1 σ→Sol S σ) ∧
 (ok=true→tyS S1 a1∧tyS S1 b1∧a1.kind=5∧b1.kind=5∧bdV S1 a1.n=none∧bdV S1 b1.n=none∧(∀ σ,Sol S1 σ→sub σ a1=sub σ a∧sub σ b1=sub σ b)∧∀ σ,Sol S1 σ→∀ s x y,fg s a1=some x→fg s b1=some y→sub σ x=sub σ y) ∧
 (∀ σ,Sol S σ→eqn a b σ→ok=true∧∃ σ',Sol S1 σ'∧∀ n x,am n S=some x→σ' n=σ n)
 | 0,S,a,b,D,ok,S1,a1,b1,h,_,_,_,_,_,_=>by simp [dR] at h
 | g+1,S,a,b,D,ok,S1,a1,b1,h,hi,ha,hb,ka,kb,hd=>by
  rw [dR] at h
  split at h <;> try (cases h;done)
  rename_i a' ha'
  split at h <;> try (cases h;done)
  rename_i b' hb'
  split at h <;> try (cases h;done)
  obtain ⟨va,na,ea⟩:=dx hi.1 ha' ha
  obtain ⟨vb,nb,eb⟩:=dx hi.1 hb' hb
  obtain ⟨ρ,rk,hρ,hrk⟩:=hi.2
  have kk:∀ t t':Ty,tyS S t'→t.kind=5→sub ρ t'=sub ρ t→(t'.kind=5∨t'.kind=6→bdV S t'.n=none)→t'.kind=5:=by
   intro t t' hv k5 e hn
   have h1:(sub ρ t').kind=5:=by rw [e,a8 (by rw [k5];decide)];exact k5
   by_cases h6:t'.kind=6
   · obtain ⟨x,h2,h3,_⟩:=hv.2 ⟨t'.n,false,[]⟩ (by rw [← Ty.eta t',h6];exact cU)
     have h2:am t'.n S=some x:=h2
     rw [← Ty.eta t',h6,cQ,hρ.free _ x h2 (bO (hn (.inr h6)) h2),h3] at h1
     exact absurd h1 (by simp [idv])
   · rw [a8 h6] at h1;exact h1
  have ka':=kk a a' va ka (ea ρ hρ.sol) na
  have kb':=kk b b' vb kb (eb ρ hρ.sol) nb
  have na:=na (.inl ka')
  have nb:=nb (.inl kb')
  obtain ⟨s1,s2,_⟩:=va.1.sorted ka'
  obtain ⟨t1,t2,_⟩:=vb.1.sorted kb'
  have hkids:∀ k∈a'.kids,tyS S k:=fun k hk=>va.kid hk
  have heq:∀ σ,Sol S σ→eqn a b σ→∀ s x y,(s,x)∈a'.names.zip a'.kids→fg s b'=some y→sub σ x=sub σ y:=by
   intro σ hs e s x y hm hf
   have hx:fg s a'=some x:=iv (by rw [cG s2];exact az s1) hm
   have h1:=va.field1 ka' hs hx
   have h2:=vb.field1 kb' hs hf
   have e:sub σ a=sub σ b:=e
   rw [ea σ hs,e,← eb σ hs,h2] at h1
   exact (Option.some.inj h1).symm
  split at h <;> try (cases h;done)
  · rename_i S2 D2 hp
    obtain ⟨q1,q2,q3,q4,q5⟩:=kw hU kb' _ _ _ _ _ _ _ _ _ hp s2 hi vb hkids
    obtain ⟨r1,_⟩:=q4 rfl
    obtain ⟨l1,l2,l3,l4,l5⟩:=oY hU g S2 a' b' D2 ok S1 a1 b1 h q1 (va.ext q2) (vb.ext q2) ka' kb' (fun s hs σ hσ=>by
     rcases r1 s hs with h|⟨x,y,h1,h2,h3⟩
     · rw [ea σ (q3 σ hσ),eb σ (q3 σ hσ)];exact hd s h σ (q3 σ hσ)
     · have hx:fg s a'=some x:=iv (by rw [cG s2];exact az s1) h1
       rw [va.field1 ka' (q3 σ hσ) hx,vb.field1 kb' (q3 σ hσ) h2,h3 σ hσ])
    refine ⟨l1,q2.trans l2,fun σ hs=>q3 σ (l3 σ hs),fun ho=>?_,fun σ hs e=>?_⟩
    · obtain ⟨u1,u2,u3,u4,u5,u6,u7,u8⟩:=l4 ho
      refine ⟨u1,u2,u3,u4,u5,u6,fun σ hs=>?_,u8⟩
      have hs0:=q3 σ (l3 σ hs)
      exact ⟨(u7 σ hs).1.trans (ea σ hs0),(u7 σ hs).2.trans (eb σ hs0)⟩
    · obtain ⟨_,σ1,p1,p2⟩:=q5 σ hs (heq σ hs e)
      have hkid:∀ t,tyS S t→sub σ1 t=sub σ t:=fun t ht=>dM t fun o ho=>by obtain ⟨y,y1,_⟩:=ht.2 o ho;exact p2 _ y y1
      obtain ⟨p3,σ2,p4,p5⟩:=l5 σ1 p1 (by
       show sub σ1 a'=sub σ1 b'
       rw [hkid a' va,hkid b' vb,ea σ hs,eb σ hs];exact e)
      refine ⟨p3,σ2,p4,fun n x hx=>?_⟩
      obtain ⟨x',hx',_⟩:=q2 n x hx
      rw [p5 n x' hx',p2 n x hx]
  · rename_i S2 D2 hp
    simp only [Option.some.injEq,Prod.mk.injEq] at h
    obtain ⟨rfl,rfl,rfl,rfl⟩:=h
    obtain ⟨q1,q2,q3,q4,q5⟩:=kw hU kb' _ _ _ _ _ _ _ _ _ hp s2 hi vb hkids
    obtain ⟨r1,r2⟩:=q4 rfl
    obtain ⟨rfl,r3⟩:=r2 rfl
    refine ⟨hi,Ext.refl _,fun _ h=>h,fun _=>⟨va,vb,ka',kb',na,nb,fun σ hs=>⟨ea σ hs,eb σ hs⟩,fun σ hs s x y hx hy=>?_⟩,fun σ hs _=>⟨rfl,σ,hs,fun _ _ _=>rfl⟩⟩
    have h1:=hd s (r3 s (gM hx) (gM hy)) σ hs
    rw [← ea σ hs,← eb σ hs,va.field1 ka' hs hx,vb.field1 kb' hs hy] at h1
    exact Option.some.inj h1
  · rename_i S2 D2 ag2 hp
    simp only [Option.some.injEq,Prod.mk.injEq] at h
    obtain ⟨rfl,rfl,rfl,rfl⟩:=h
    obtain ⟨q1,q2,q3,q4,q5⟩:=kw hU kb' _ _ _ _ _ _ _ _ _ hp s2 hi vb hkids
    exact ⟨q1,q2,q3,fun h=>absurd h dq,fun σ hs e=>absurd (q5 σ hs (heq σ hs e)).1 dq⟩
theorem Fw {f:Nat} {U:UF} (hU:UOk U) {S S':St} {a b:Ty} {ok:Bool} (h:gi f U S a b=some (ok,S')) (hi:Inv S) (ha:tyS S a) (hb:tyS S b) (ka:a.kind=5) (kb:b.kind=5):gc S S' ok (eqn a b):=by
 unfold gi at h
 split at h <;> try (cases h;done)
 · rename_i S1 a1 b1 hl
   obtain ⟨l1,l2,l3,l4,l5⟩:=oY hU f S a b [] _ _ _ _ hl hi ha hb ka kb (fun s h=>by simp [isD,am] at h)
   obtain ⟨u1,u2,u3,u4,u5,u6,u7,u8⟩:=l4 rfl
   have st:=C5 h l1 u1 u2 u3 u4 u5 u6 u8
   refine ⟨st.inv,l2.trans st.ext,fun σ hs=>l3 σ (st.back σ hs),fun ho σ hs=>?_,fun σ hs e=>?_⟩
   · have:=st.sound ho σ hs
     obtain ⟨e1,e2⟩:=u7 σ (st.back σ hs)
     show sub σ a=sub σ b
     rw [← e1,← e2];exact this
   · obtain ⟨_,σ1,p1,p2⟩:=l5 σ hs e
     have hkid:∀ t,tyS S t→sub σ1 t=sub σ t:=fun t ht=>dM t fun o ho=>by obtain ⟨y,y1,_⟩:=ht.2 o ho;exact p2 _ y y1
     obtain ⟨e1,e2⟩:=u7 σ1 p1
     obtain ⟨p3,σ2,p4,p5⟩:=st.compl σ1 p1 (by rw [e1,e2,hkid a ha,hkid b hb];exact e)
     refine ⟨p3,σ2,p4,fun n x hx=>?_⟩
     obtain ⟨x',hx',_⟩:=l2 n x hx
     rw [p5 n x' hx',p2 n x hx]
 · rename_i S1 a1 b1 hl
   cases h
   obtain ⟨l1,l2,l3,l4,l5⟩:=oY hU f S a b [] _ _ _ _ hl hi ha hb ka kb (fun s h=>by simp [isD,am] at h)
   exact ⟨l1,l2,l3,fun h=>absurd h dq,fun σ hs e=>absurd (l5 σ hs e).1 dq⟩
theorem Gt.name6 {t:Ty} (h:Gt t) {σ:Int→Ty} (h6:t.kind≠6):(sub σ t).name=t.name:=by
 cases h with
 | leaf k x h4 h5 h6'=>rw [bu σ x [] [] h6' (fun h=>absurd h h5)];rfl
 | list t h=>rw [bu σ _ _ _ dq dq];rfl
 | var n h=>exact absurd rfl h6
 | rcd n ns ks h0 hs hl hk =>
  by_cases hn:n=0
  · rw [bu σ _ _ _ dq (fun _=>hn)];rfl
  · rw [gN σ _ _ _ hn];rfl
theorem tyS.var6 {S:St} {t:Ty} (h:tyS S t) (h6:t.kind=6):∃ x,am t.n S=some x∧x.row=false:=by
 obtain ⟨x,h2,h3,_⟩:=h.2 ⟨t.n,false,[]⟩ (by rw [← Ty.eta t,h6];exact cU)
 exact ⟨x,h2,h3⟩
theorem ow {σ:Int→Ty} {t:Ty} (h6:t.kind=6):sub σ t=σ t.n:=by rw [← Ty.eta t,h6,cQ];rfl
theorem ip:∀ f,UOk (bq f)
 | 0=>fun S a b ok S' h=>by simp [bq] at h
 | f+1=>fun S a b ok S' h hi ha hb=>by
  have ih:=ip f
  rw [bq] at h
  split at h <;> try (cases h;done)
  rename_i a' ha'
  split at h <;> try (cases h;done)
  rename_i b' hb'
  split at h <;> try (cases h;done)
  obtain ⟨va,na,ea⟩:=dx hi.1 ha' ha
  obtain ⟨vb,nb,eb⟩:=dx hi.1 hb' hb
  have hh:∀ σ,Sol S σ→(sub σ a'=sub σ b'↔eqn a b σ):=fun σ hs=>by unfold eqn;rw [ea σ hs,eb σ hs]
  refine gc.congr ?_ hh
  split at h
  · rename_i hc
    cases h
    exact gc.refl hi fun σ _=>by rw [ow hc.1,ow hc.2.1,hc.2.2]
  rename_i hc
  split at h
  · rename_i h6
    obtain ⟨x,x1,x2⟩:=va.var6 h6
    have st:=eW h hi x1 (bO (na (.inr h6)) x1) ⟨fun _=>vb,fun hr=>absurd (x2.symm.trans hr) dq⟩ nb (fun k6 e=>hc ⟨h6,k6,e.symm⟩) (fun hr=>absurd (x2.symm.trans hr) dq)
    exact st.congr fun σ _=>by rw [ow h6]
  rename_i h6
  split at h
  · rename_i k6
    obtain ⟨x,x1,x2⟩:=vb.var6 k6
    have st:=eW h hi x1 (bO (nb (.inr k6)) x1) ⟨fun _=>va,fun hr=>absurd (x2.symm.trans hr) dq⟩ na (fun h6' _=>h6 h6') (fun hr=>absurd (x2.symm.trans hr) dq)
    exact st.congr fun σ _=>by rw [ow k6];exact ⟨Eq.symm,Eq.symm⟩
  rename_i k6
  split at h
  · rename_i hne
    cases h
    refine gc.no hi fun σ hs e=>?_
    have e1:=congrArg Ty.kind e
    have e2:=congrArg Ty.name e
    rw [a8 h6,a8 k6] at e1
    rw [va.1.name6 h6,vb.1.name6 k6] at e2
    exact hne.elim (fun h=>h e1) (fun h=>h e2)
  rename_i hne
  have hk:a'.kind=b'.kind:=Classical.byContradiction fun h=>hne (.inl h)
  have hx:a'.name=b'.name:=Classical.byContradiction fun h=>hne (.inr h)
  split at h
  · rename_i h5
    exact Fw ih h hi va vb h5 (hk▸h5)
  rename_i h5
  have list1:∀ t:Ty,Gt t→t.kind=4→t=.mk 4 [] 0 [] [t.kids.getD 0 Ty.zero]∧t.kids.getD 0 Ty.zero∈t.kids:=by
   intro t hg h4
   cases hg with
   | leaf k x a b c=>exact absurd h4 a
   | list t h=>exact ⟨rfl,by simp⟩
   | var n h=>exact absurd h4 zq
   | rcd n ns ks a b c d=>exact absurd h4 zq
  split at h
  · rename_i h4
    split at h <;> try (cases h;done)
    obtain ⟨a1,a2⟩:=list1 a' va.1 h4
    obtain ⟨b1,b2⟩:=list1 b' vb.1 (hk▸h4)
    have st:=ih _ _ _ _ _ h hi (va.kid a2) (vb.kid b2)
    refine st.congr fun σ _=>?_
    conv=>rhs;rw [a1,b1]
    rw [bu σ _ _ _ dq dq,bu σ _ _ _ dq dq]
    unfold eqn
    constructor
    · intro e;simp only [List.map_cons,List.map_nil];rw [e]
    · intro e
      have:=congrArg Ty.kids e
      simpa using this
  · rename_i h4
    cases h
    have leaf1:∀ t:Ty,Gt t→¬ t.kind=4→¬ t.kind=5→¬ t.kind=6→t=.mk t.kind t.name 0 [] []:=by
     intro t hg h4 h5 h6
     cases hg with
     | leaf k x a b c=>rfl
     | list t h=>exact absurd rfl h4
     | var n h=>exact absurd rfl h6
     | rcd n ns ks a b c d=>exact absurd rfl h5
    have:=leaf1 a' va.1 h4 h5 h6
    have:=leaf1 b' vb.1 (hk▸h4) (hk▸h5) k6
    refine gc.refl hi fun σ _=>?_
    rw [‹a'=_›,‹b'=_›,hk,hx]
def nm4:List (List UInt8):=[[97],[98],[99],[105,100]]
inductive Ft (h:Int→Nat):Nat→Ty→Prop
 | leaf (b:Nat) (k:Int) (x:List UInt8) (hx:x.length≤10∧fmd (.mk k x 0 [] [])=true) (h5:k≠5) (h6:k≠6):Ft h b (.mk k x 0 [] [])
 | list (b:Nat) (t:Ty) (ht:Ft h b t):Ft h (b+1) (.mk 4 [] 0 [] [t])
 | var (b:Nat) (n:Int) (hn:h n=b):Ft h b (.mk 6 [] n [] [])
 | rcd (b:Nat) (n:Int) (ns:List (List UInt8)) (ks:List Ty) (hn:n≠0→h n=b+1) (nd:ns.Nodup) (hm:∀ s∈ns,s∈nm4) (hl:ns.length=ks.length) (hk:∀ k∈ks,Ft h b k):Ft h (b+1) (.mk 5 [] n ns ks)
def szB:Nat→Nat
 | 0=>20
 | b+1=>4 * szB b+30
theorem tY:∀ {l m:List (List UInt8)},l.Nodup→(∀ s∈l,s∈m)→l.length≤m.length
 | [],m,_,_=>Nat.zero_le _
 | x::l,m,hn,hm=>by
  rw [List.nodup_cons] at hn
  have hx:=hm x List.mem_cons_self
  have:=tY (l:=l) (m:=m.erase x) hn.2 fun s hs=>(List.mem_erase_of_ne (by rintro rfl;exact hn.1 hs)).2 (hm s (List.mem_cons_of_mem _ hs))
  rw [List.length_erase_of_mem hx] at this
  have:=List.length_pos_of_mem hx
  rw [List.length_cons];omega
theorem HA {l:List (List UInt8)} (nd:l.Nodup) (hm:∀ s∈l,s∈nm4):l.length≤4:=tY nd hm
theorem Jj:∀ {l:List (List UInt8)},(∀ s∈l,s∈nm4)→szS l≤3 * l.length
 | [],_=>by simp [szS]
 | x::l,h=>by
  have h1:=Jj (l:=l) fun s hs=>h s (List.mem_cons_of_mem _ hs)
  have h2:x.length≤2:=by
   have:=h x List.mem_cons_self
   simp only [nm4,List.mem_cons,List.not_mem_nil,or_false] at this
   rcases this with rfl|rfl|rfl|rfl <;> decide
  rw [szS,List.length_cons];omega
theorem DW {c:Nat}:∀ {l:List Ty},(∀ k∈l,k.sz≤c)→Ty.szL l≤(c+1) * l.length
 | [],_=>by simp [Ty.szL]
 | t::l,h=>by
  have h1:=DW (l:=l) fun k hk=>h k (List.mem_cons_of_mem _ hk)
  have h2:=h t List.mem_cons_self
  rw [Ty.szL,List.length_cons,Nat.mul_succ];omega
theorem Ft.sz {h:Int→Nat} {b:Nat} {t:Ty} (ht:Ft h b t):t.sz≤szB b:=by
 have pos:∀ b,20≤szB b:=fun b=>by cases b <;> simp only [szB] <;> omega
 induction ht with
 | leaf b k x hx _ _=>have:=pos b;have:=hx.1;simp only [Ty.sz,szS,Ty.szL];omega
 | list b t ht ih=>simp only [Ty.sz,szS,Ty.szL,szB,List.length_nil];omega
 | var b n hn=>have:=pos b;simp only [Ty.sz,szS,Ty.szL,List.length_nil];omega
 | rcd b n ns ks hn nd hm hl hk ih =>
  have h1:=HA nd hm
  have h2:=Jj hm
  have h3:=DW ih
  have h4:(szB b+1) * ks.length≤(szB b+1) * 4:=Nat.mul_le_mul_left _ oq
  simp only [Ty.sz,szB,List.length_nil];omega
theorem Ft.ext {h h':Int→Nat} {b:Nat} {t:Ty} (ht:Ft h b t):(∀ o∈aF t,h' o.n=h o.n)→Ft h' b t:=by
 induction ht with
 | leaf b k x hx h5 h6=>intro _;exact .leaf b k x hx h5 h6
 | list b t ht ih=>intro ho;exact .list b t (ih fun o h=>ho o (ci List.mem_cons_self h))
 | var b n hn=>intro ho;exact .var b n ((ho _ cU).trans hn)
 | rcd b n ns ks hn nd hm hl hk ih =>
  intro ho
  exact .rcd b n ns ks (fun h0=>(ho _ (cc h0)).trans (hn h0)) nd hm hl fun k hk'=>ih k hk' fun o h=>ho o (ci hk' h)
theorem Ft.v6 {h:Int→Nat} {b:Nat} {t:Ty} (ht:Ft h b t) (h6:t.kind=6):h t.n=b:=by
 cases ht with
 | leaf _ k x hx h5 h6'=>exact absurd h6 h6'
 | list b t ht=>exact absurd h6 zq
 | var _ n hn=>exact hn
 | rcd b n ns ks hn nd hm hl hk=>exact absurd h6 zq
theorem Ft.r5 {h:Int→Nat} {b:Nat} {t:Ty} (ht:Ft h b t) (h5:t.kind=5):∃ c,b=c+1∧(t.n≠0→h t.n=b)∧t.names.Nodup∧(∀ s∈t.names,s∈nm4)∧t.names.length=t.kids.length∧∀ k∈t.kids,Ft h c k:=by
 cases ht with
 | leaf _ k x hx h5' h6=>exact absurd h5 h5'
 | list b t ht=>exact absurd h5 zq
 | var _ n hn=>exact absurd h5 zq
 | rcd c n ns ks hn nd hm hl hk=>exact ⟨c,rfl,hn,nd,hm,hl,hk⟩
theorem Ft.kids {h:Int→Nat} {b:Nat} {t:Ty} (ht:Ft h b t) {k:Ty} (hk:k∈t.kids):∃ c,b=c+1∧Ft h c k:=by
 cases ht with
 | leaf _ k x hx h5' h6=>simp at hk
 | list b t ht=>simp at hk;subst hk;exact ⟨b,rfl,ht⟩
 | var _ n hn=>simp at hk
 | rcd c n ns ks hn nd hm hl hk'=>exact ⟨c,rfl,hk' k hk⟩
theorem Ft.recT {h:Int→Nat} {b:Nat} {l:Fd} {n:Int} (hnd:(l.map Prod.fst).Nodup) (hm:∀ p∈l,p.1∈nm4∧Ft h b p.2) (hn:n≠0→h n=b+1):Ft h (b+1) (recT l n):=by
 have hk:=dL l n
 refine .rcd b n _ _ hn (az (lE hnd)) (fun s hs=>?_) (by show _=(_root_.Go.Proofs.YtdikgijfekfaoaaGreatDoor.recT l n).kids.length;rw [hk,List.length_map]) (fun k hm'=>?_)
 · obtain ⟨p,hp,rfl⟩:=List.mem_map.1 ((bQ _).mem_iff.1 hs)
   exact (hm p hp).1
 · have hm':k∈(_root_.Go.Proofs.YtdikgijfekfaoaaGreatDoor.recT l n).kids:=hm'
   rw [hk] at hm'
   obtain ⟨s,hs,rfl⟩:=List.mem_map.1 hm'
   obtain ⟨x,hx⟩:=Option.isSome_iff_exists.1 (cS.2 ((bQ _).mem_iff.1 hs))
   rw [hx]
   exact (hm _ (hY hx)).2
def StF (S:St) (h:Int→Nat):Prop:=∀ n x,am n S=some x→x.bd=true→Ft h (h n) x.val
def Ev (P:Nat→Prop):Prop:=∃ N,∀ f,N≤f→P f
theorem Ev.and {P Q:Nat→Prop}:Ev P→Ev Q→Ev fun f=>P f∧Q f:=fun ⟨N,hN⟩ ⟨M,hM⟩=>⟨max N M,fun f hf=>⟨hN f oq,hM f oq⟩⟩
theorem Ev.mono {P Q:Nat→Prop} (h:∀ f,P f→Q f):Ev P→Ev Q:=fun ⟨N,hN⟩=>⟨N,fun f hf=>h f (hN f hf)⟩
theorem Ev.succ {P:Nat→Prop} (h:Ev fun f=>P (f+1)):Ev P:=by
 obtain ⟨N,hN⟩:=h
 refine ⟨N+1,fun f hf=>?_⟩
 obtain ⟨g,rfl⟩:∃ g,f=g+1:=⟨f - 1,by omega⟩
 exact hN g oq
theorem Ev.some {P:Nat→Prop} (h:Ev P):∃ f,P f:=by obtain ⟨N,hN⟩:=h;exact ⟨N,hN N (Nat.le_refl _)⟩
theorem Ev.of {P:Nat→Prop} (h:∀ f,P f):Ev P:=⟨0,fun f _=>h f⟩
section
variable {S:St} {h:Int→Nat} {rk:Int→Nat} (wf:Wf S) (hF:StF S h) (hr:Rk S rk)
include wf hF hr
theorem Ba {b:Nat} (hb:szB b<lim):∀ (k:Nat) (t:Ty),Ft h b t→(t.kind=6→rk t.n<k)→∃ u,(∀ f,k+1≤f→hdV f S t=some u)∧Ft h b u
 | 0,t,ht,hk=>⟨t,fun f hf=>by
  obtain ⟨g,rfl⟩:∃ g,f=g+1:=⟨f - 1,by omega⟩
  rw [hdV,if_neg]
  intro h6;have:=hk h6;omega,ht⟩
 | k+1,t,ht,hk=>by
  by_cases h6:t.kind=6
  · cases hv:bdV S t.n with
    | none =>
     refine ⟨t,fun f hf=>?_,ht⟩
     obtain ⟨g,rfl⟩:∃ g,f=g+1:=⟨f - 1,by omega⟩
     rw [hdV,if_pos h6];simp only [hv]
    | some v =>
     obtain ⟨x,h1,h2,rfl⟩:=jT hv
     have hfv:=hF _ x h1 h2
     rw [ht.v6 h6] at hfv
     obtain ⟨u,hu,hfu⟩:=Ba hb k x.val hfv fun h6'=>by
      have ho:(⟨x.val.n,false,[]⟩:Occ)∈aF x.val:=by rw [← Ty.eta x.val,h6'];exact cU
      have:=hr _ x h1 h2 _ ho
      have:=hk h6
      simp only at *
      omega
     refine ⟨u,fun f hf=>?_,hfu⟩
     obtain ⟨g,rfl⟩:∃ g,f=g+1:=⟨f - 1,by omega⟩
     rw [hdV,if_pos h6]
     simp only [hv]
     rw [if_pos (Nat.lt_of_le_of_lt hfv.sz hb)]
     exact hu g oq
  · refine ⟨t,fun f hf=>?_,ht⟩
    obtain ⟨g,rfl⟩:∃ g,f=g+1:=⟨f - 1,by omega⟩
    rw [hdV,if_neg h6]
theorem zV {b:Nat} (hb:szB (b+1)<lim):∀ (k:Nat) (t:Ty) (l:Fd),Ft h (b+1) t→t.kind=5→(∀ x,bdV S t.n=some x→rk t.n<k)→(∀ x,bdV S t.n=some x→x.kind=5→True)→(l.map Prod.fst).Nodup→(∀ p∈l,p.1∈nm4∧Ft h b p.2)→rwS S (l.map Prod.fst) t →
 ∃ r,(∀ f,k+1≤f→hdR f S l t=some r)∧Ft h (b+1) r
 | k,t,l,ht,h5,hk,h9,hnd,hm,hv=>by
  obtain ⟨c,hc,hn,nd,hnm,hl,hkk⟩:=ht.r5 h5
  obtain rfl:b=c:=by omega
  have hnd':=dp t hnd
  have hm':∀ p∈dz l t,p.1∈nm4∧Ft h b p.2:=fun p hp=>by
   rcases eJ hp with h|h
   · exact ⟨hnm _ h.1,hkk _ h.2⟩
   · exact hm p h
  have hg:t.sz<lim∧(dz l t).length<lim∧t.names.length=t.kids.length:=by
   refine ⟨Nat.lt_of_le_of_lt ht.sz hb,?_,hl⟩
   have:=HA hnd' (fun s hs=>by obtain ⟨p,hp,rfl⟩:=List.mem_map.1 hs;exact (hm' p hp).1)
   rw [List.length_map] at this
   exact Nat.lt_of_le_of_lt this dq
  cases hbv:bdV S t.n with
  | none =>
   refine ⟨recT (dz l t) t.n,fun f hf=>?_,Ft.recT hnd' hm' hn⟩
   obtain ⟨g,rfl⟩:∃ g,f=g+1:=⟨f - 1,by omega⟩
   rw [hdR,if_pos hg];simp only [hbv]
  | some v =>
   obtain ⟨x,h1,h2,rfl⟩:=jT hbv
   have hlt:=hk _ hbv
   match k,hlt with
   | k+1,hlt =>
   have hn0:t.n≠0:=by intro e;rw [e,wf.zero] at h1;cases h1
   have hfv:=hF _ x h1 h2
   rw [hn hn0] at hfv
   obtain ⟨y,k1,k2,k3⟩:=hv.row hn0
   rw [h1] at k1;cases k1
   obtain ⟨s1,s2,_⟩:=hv.gt.sorted h5
   have hv':=(wf.rv _ x h1 h2 k2).congr (L':=(dz l t).map Prod.fst) (fun s=>by rw [k3,vI (az s1) s2])
   obtain ⟨r,hr',hfr⟩:=zV hb k x.val (dz l t) hfv hv'.k5 (fun z hz=>by
    obtain ⟨w,w1,w2,_⟩:=jT hz
    have hz0:x.val.n≠0:=by intro e;rw [e,wf.zero] at w1;cases w1
    have:=hr _ x h1 h2 _ (dr hv'.k5 hz0)
    simp only at *
    omega) (fun _ _ _=>trivial) hnd' hm' hv'
   refine ⟨r,fun f hf=>?_,hfr⟩
   obtain ⟨g,rfl⟩:∃ g,f=g+1:=⟨f - 1,by omega⟩
   rw [hdR,if_pos hg];simp only [hbv]
   exact hr' g oq
 termination_by k=>k
theorem j3 {b:Nat} (hb:szB b<lim) {t:Ty} (ht:Ft h b t) (hv:tyS S t):∃ r,Ev (fun f=>cm f S t=some r)∧Ft h b r:=by
 obtain ⟨u,hu,hfu⟩:=Ba wf hF hr hb (rk t.n+1) t ht (fun _=>Nat.lt_succ_self _)
 have hvu:=(yD wf _ t u (hu _ (Nat.le_refl _)) hv).1
 by_cases h5:u.kind=5
 · cases hbv:bdV S u.n with
   | none =>
    refine ⟨u,⟨rk t.n+2,fun f hf=>?_⟩,hfu⟩
    show cm f S t=_
    unfold cm
    rw [hu f hf]
    simp only [if_pos h5,hbv]
   | some v =>
    obtain ⟨c,rfl,_⟩:=hfu.r5 h5
    obtain ⟨r,hr',hfr⟩:=zV wf hF hr hb (rk u.n+1) u [] hfu h5 (fun _ _=>Nat.lt_succ_self _) (fun _ _ _=>trivial) .nil zq (hvu.toR h5)
    refine ⟨r,⟨rk t.n+rk u.n+2,fun f hf=>?_⟩,hfr⟩
    show cm f S t=_
    unfold cm
    rw [hu f oq]
    simp only [if_pos h5,hbv]
    exact hr' f oq
 · refine ⟨u,⟨rk t.n+2,fun f hf=>?_⟩,hfu⟩
   show cm f S t=_
   unfold cm
   rw [hu f hf]
   simp only [if_neg h5]
theorem xj {b:Nat} (hR:∀ t,Ft h b t→tyS S t→∃ r,Ev (fun f=>dl f S t=some r)∧Ft h b r):∀ (l:List Ty),(∀ k∈l,Ft h b k∧tyS S k)→∃ rs,Ev (fun f=>rX (dl f S) l=some rs)∧rs.length=l.length∧∀ k∈rs,Ft h b k
 | [],_=>⟨[],Ev.of fun f=>rfl,rfl,by simp⟩
 | t::l,hl=>by
  obtain ⟨r,h1,h2⟩:=hR t (hl t List.mem_cons_self).1 (hl t List.mem_cons_self).2
  obtain ⟨rs,k1,k2,k3⟩:=xj hR l fun k hk=>hl k (List.mem_cons_of_mem _ hk)
  refine ⟨r::rs,(h1.and k1).mono fun f hf=>?_,by simp [k2],fun k hk=>?_⟩
  · rw [rX,hf.1];simp only [hf.2]
  · rcases List.mem_cons.1 hk with rfl|hk
    · exact h2
    · exact k3 k hk
omit wf hF hr in
theorem Ft.same {b:Nat} {t:Ty} (ht:Ft h b t) {ks:List Ty} (hl:ks.length=t.kids.length) (hk:∀ c,b=c+1→∀ k∈ks,Ft h c k):Ft h b (.mk t.kind t.name t.n t.names ks):=by
 cases ht with
 | leaf _ k x hx h5 h6=>simp at hl;subst hl;exact .leaf b k x hx h5 h6
 | list c t ht=>simp at hl;obtain ⟨r,rfl⟩:=List.length_eq_one_iff.1 hl;exact .list c r (hk c rfl r zq)
 | var _ n hn=>simp at hl;subst hl;exact .var b n hn
 | rcd c n ns ks' hn nd hm hl' hk'=>exact .rcd c n ns ks hn nd hm (by rw [hl'];exact hl.symm) (hk c rfl)
theorem n8 {b:Nat} (hb:szB b<lim) (hR:∀ c,b=c+1→∀ t,Ft h c t→tyS S t→∃ r,Ev (fun f=>dl f S t=some r)∧Ft h c r) {t u:Ty} (hu:Ev fun f=>cm f S t=some u) (hfu:Ft h b u) (hk:∀ k∈u.kids,tyS S k) :
 ∃ r,Ev (fun f=>dl f S t=some r)∧Ft h b r:=by
 have:∃ rs,Ev (fun f=>rX (dl f S) u.kids=some rs)∧rs.length=u.kids.length∧∀ c,b=c+1→∀ k∈rs,Ft h c k:=by
  cases b with
  | zero =>
   have h0:u.kids=[]:=by
    cases hku:u.kids with
    | nil=>rfl
    | cons k l=>obtain ⟨c,hc,_⟩:=hfu.kids (k:=k) (by rw [hku];simp);omega
   rw [h0]
   exact ⟨[],Ev.of fun f=>rfl,rfl,by simp⟩
  | succ c =>
   obtain ⟨rs,h1,h2,h3⟩:=xj wf hF hr (hR c rfl) u.kids fun k hk'=>by
    obtain ⟨d,hd,hf⟩:=hfu.kids hk'
    obtain rfl:c=d:=by omega
    exact ⟨hf,hk k hk'⟩
   exact ⟨rs,h1,h2,fun d hd=>Nat.succ.inj hd▸h3⟩
 obtain ⟨rs,h1,h2,h3⟩:=this
 refine ⟨_,Ev.succ ((hu.and h1).mono fun f hf=>?_),hfu.same h2 h3⟩
 rw [dl,hf.1]
 simp only [hf.2]
 rw [if_pos (Nat.lt_of_le_of_lt hfu.sz hb)]
theorem gU:∀ (b:Nat) (_:szB b<lim) (t:Ty),Ft h b t→tyS S t→∃ r,Ev (fun f=>dl f S t=some r)∧Ft h b r
 | b,hb,t,ht,hv=>by
  obtain ⟨u,hu,hfu⟩:=j3 wf hF hr hb ht hv
  have hvu:=hu.some
  obtain ⟨f,hf⟩:=hvu
  have hk:=(dx wf hf hv).1
  refine n8 wf hF hr hb (fun c hc t' ht' hv'=>?_) hu hfu fun k hk'=>hk.kid hk'
  subst hc
  exact gU c (by simp only [szB] at hb;omega) t' ht' hv'
end
def oJ (S:St):Nat:=(S.filter fun p=>!p.2.bd).length
def phi (S:St):Nat:=S.length+oJ S
theorem un {k:Int} {v w:Vr}:∀ {S:St},am k S=some w→oJ (aJ k v S)+(if w.bd then 0 else 1)=oJ S+(if v.bd then 0 else 1)
 | [],h=>by simp [am] at h
 | p::S,h=>by
  rw [am] at h
  rw [aJ]
  split at h
  · rename_i e
    rw [if_pos e]
    cases h
    unfold oJ
    cases hb:p.2.bd <;> cases hv:v.bd <;> simp [hb,hv]
  · rename_i e
    rw [if_neg e]
    have ih:=un (v:=v) h
    unfold oJ at ih ⊢
    rw [List.filter_cons,List.filter_cons]
    cases hb:p.2.bd <;> simp <;> omega
theorem Ai {k:Int} {v:Vr}:∀ {S:St},am k S=none→oJ (aJ k v S)=oJ S+(if v.bd then 0 else 1)
 | [],_=>by unfold oJ;cases hv:v.bd <;> simp [aJ,hv]
 | p::S,h=>by
  rw [am] at h
  split at h
  · cases h
  · rename_i e
    rw [aJ,if_neg e]
    have ih:=Ai (v:=v) h
    unfold oJ at ih ⊢
    rw [List.filter_cons,List.filter_cons]
    cases hb:p.2.bd <;> simp <;> omega
theorem Ac (lv:Int):∀ (ks:List Int) (S:St),oJ (c8 lv ks S)=oJ S
 | [],S=>rfl
 | k::ks,S=>by
  rw [c8,Ac lv ks]
  cases hk:am k S with
  | none=>rfl
  | some w =>
   have:=un (k:=k) (v:={ w with lv:=min w.lv lv }) hk
   simp only at this ⊢
   omega
theorem Eu {S:St} {n:Int} {t:Ty} {x:Vr} (hx:am n S=some x) (hb:x.bd=false) (ks:List Int):phi (aJ n { x with bd:=true,val:=t } (c8 x.lv ks S))+1=phi S:=by
 obtain ⟨l,hl⟩:=((iC x.lv ks S).2 n).1 x hx
 have h1:=un (k:=n) (v:={ x with bd:=true,val:=t }) hl
 have h2:=Ac x.lv ks S
 have h3:=lW (k:=n) (v:={ x with bd:=true,val:=t }) (l:=c8 x.lv ks S) (by rw [hl];rfl)
 have h4:=(iC x.lv ks S).1
 simp only [hb] at h1
 unfold phi
 simp at h1
 omega
theorem Fk {S:St} (wf:Wf S) (a b:Ty):phi (eF S a b)=phi S+2:=by
 unfold phi eF
 rw [kC wf.fresh,Ai wf.fresh]
 simp
 omega
structure Br (S:St) (h:Int→Nat) (run:Nat→Option (Bool×St)) (ok:Bool) (S':St) (h':Int→Nat):Prop where
 ph:ok=true→phi S'≤phi S
 ev:Ev fun f=>run f=some (ok,S')
 stf:StF S' h'
 old:∀ n x,am n S=some x→h' n=h n
theorem Ft.in {S:St} {h h':Int→Nat} {b:Nat} {t:Ty} (ht:Ft h b t) (ho:∀ n x,am n S=some x→h' n=h n) (hi:∀ o∈aF t,∃ y,am o.n S=some y∧y.row=o.row):Ft h' b t :=
 ht.ext fun o hm=>by obtain ⟨y,h1,_⟩:=hi o hm;exact ho _ y h1
theorem tyS.in {S:St} {t:Ty} (h:tyS S t):∀ o∈aF t,∃ y,am o.n S=some y∧y.row=o.row:=fun o ho=>by
 obtain ⟨y,h1,h2,_⟩:=h.2 o ho;exact ⟨y,h1,h2⟩
theorem iP {S:St} {h:Int→Nat} {n:Int} {t:Ty} {x:Vr} {b:Nat} (hi:Inv S) (hF:StF S h) (hb:szB b<lim) (hx:am n S=some x) (hnb:x.bd=false) (hv:vV S x t) (hn:Hn S t) (hft:Ft h b t) (hnn:h n=b) :
 ∃ ok S',Br S h (fun f=>cg f S n t) ok S' h∧(ok=true→phi S'+1=phi S)∧(ok=false→S'=S):=by
 obtain ⟨wf,ρ,rk,hρ,hrk⟩:=hi
 have hkid:∀ k∈t.kids,tyS S k:=by
  cases hr:x.row with
  | true=>exact (hv.2 hr).kids
  | false=>exact fun k hk=>(hv.1 hr).kid hk
 obtain ⟨r,h1,h2⟩:=n8 wf hF hrk hb (fun c hc t' ht' hv'=>gU wf hF hrk c (by subst hc;simp only [szB] at hb;omega) t' ht' hv') (Ev.succ (Ev.of fun f=>tI hn)) hft hkid
 have hvB:vB S x t:=⟨hv,fun hr=>hn (.inl (hv.2 hr).k5)⟩
 obtain ⟨f0,hf0⟩:=h1.some
 obtain ⟨q1,q2,q3⟩:=DP wf hf0 hvB
 have hall:(aD [] r).all (fun k=>(am k S).isSome)=true:=by
  rw [List.all_eq_true]
  intro k hk
  obtain ⟨o,ho,e⟩:=cr.1 (pr.1 hk)
  obtain ⟨y,y1,_⟩:=q1.in.2 o ho
  rw [← e,y1];rfl
 by_cases hc:(aD [] r).contains n=true
 · refine ⟨false,S,⟨fun h=>absurd h dq,h1.mono fun f hf=>?_,hF,fun _ _ _=>rfl⟩,fun h=>absurd h dq,fun _=>rfl⟩
   unfold cg
   rw [hx,hf]
   simp only
   rw [if_pos ⟨Nat.lt_of_le_of_lt h2.sz hb,hall⟩,if_pos hc]
 · have hph:=Eu (t:=t) hx hnb (aD [] r)
   refine ⟨true,aJ n { x with bd:=true,val:=t } (c8 x.lv (aD [] r) S),⟨fun _=>by omega,h1.mono fun f hf=>?_,fun m y hy hyb=>?_,fun _ _ _=>rfl⟩,fun _=>hph,fun h=>absurd h dq⟩
   · unfold cg
     rw [hx,hf]
     simp only
     rw [if_pos ⟨Nat.lt_of_le_of_lt h2.sz hb,hall⟩,if_neg hc]
   · have hB:=jP (t:=t) hx (aD [] r)
     obtain ⟨z,z1,z2,z3,z4,z5⟩:=hB.at hy
     by_cases e:m=n
     · rw [(z4 e).2,e,hnn];exact hft
     · rw [(z5 e).2];exact hF m z z1 ((z5 e).1.symm.trans hyb)
def BG (b:Nat):Prop:=∀ S h x y,phi S<lim→Inv S→StF S h→tyS S x→tyS S y→Ft h b x→Ft h b y→∃ ok S' h',Br S h (fun f=>bq f S x y) ok S' h'
def und (D:Dn):Nat:=(nm4.filter fun s=>!isD D s).length
theorem Cu {p q:List UInt8→Bool} (l:List (List UInt8)) (h:∀ s,p s=true→q s=true):(l.filter p).length≤(l.filter q).length:=by
 rw [← List.countP_eq_length_filter,← List.countP_eq_length_filter]
 exact List.countP_mono_left fun x _=>h x
theorem Er {D D':Dn} (h:∀ s,isD D s=true→isD D' s=true) {s:List UInt8} (hs:s∈nm4) (h0:isD D s=false) (h1:isD D' s=true):und D'<und D:=by
 have:∀ l:List (List UInt8),s∈l→(l.filter fun s=>!isD D' s).length<(l.filter fun s=>!isD D s).length:=by
  intro l
  induction l with
  | nil=>simp
  | cons a l ih =>
   intro hm
   have hle:(l.filter fun s=>!isD D' s).length≤(l.filter fun s=>!isD D s).length:=by
    refine Cu l fun s hs=>?_
    cases hd:isD D s with
    | false=>rfl
    | true=>rw [h s hd] at hs;cases hs
   rw [List.filter_cons,List.filter_cons]
   by_cases e:a=s
   · subst e
     rw [h1,h0]
     simp only [Bool.not_true,Bool.not_false,if_true,List.length_cons]
     simp only [Bool.false_eq_true,if_false]
     omega
   · have hm':s∈l:=by rcases List.mem_cons.1 hm with h|h;exact absurd h.symm e;exact h
     have:=ih hm'
     cases hd:isD D a with
     | true=>rw [h a hd];simpa using this
     | false =>
      cases hd':isD D' a with
      | true=>simp;omega
      | false=>simpa using this
 exact this nm4 hs
theorem pt {b:Nat} (hU:BG b) {c:Ty} (kc:c.kind=5):∀ (ns:List (List UInt8)) (ks:List Ty) (S:St) (h:Int→Nat) (D:Dn) (ag:Bool),phi S<lim→ns.length=ks.length→Inv S→StF S h→tyS S c→Ft h (b+1) c→(∀ s∈ns,s∈nm4)→(∀ k∈ks,tyS S k∧Ft h b k) →
 ∃ ok S1 D1 ag1 h1,Ev (fun f=>ck (bq f) c ns ks S D ag=some (ok,S1,D1,ag1))∧StF S1 h1∧(∀ n x,am n S=some x→h1 n=h n)∧(∀ s,isD D s=true→isD D1 s=true)∧(ag=false→ag1=true→und D1<und D)∧(ok=true→phi S1≤phi S)
 | [],ks,S,h,D,ag,hp,hl,hi,hF,hv,hf,hm,hk=>⟨true,S,D,ag,h,Ev.of fun f=>by simp [ck],hF,fun _ _ _=>rfl,fun _ h=>h,fun h1 h2=>(by rw [h1] at h2;cases h2),fun _=>Nat.le_refl _⟩
 | s::ns,[],S,h,D,ag,hp,hl,hi,hF,hv,hf,hm,hk=>by simp at hl
 | s::ns,k::ks,S,h,D,ag,hp,hl,hi,hF,hv,hf,hm,hk=>by
  obtain ⟨b1,b2,_⟩:=hv.1.sorted kc
  by_cases hc:aQ c.names s<0∨isD D s=true
  · obtain ⟨ok,S1,D1,ag1,h1,q1,q2⟩:=pt hU kc ns ks S h D ag hp (by simpa using hl) hi hF hv hf (fun s hs=>hm s (List.mem_cons_of_mem _ hs)) (fun k hk'=>hk k (List.mem_cons_of_mem _ hk'))
    exact ⟨ok,S1,D1,ag1,h1,q1.mono fun f hf=>by rw [ck,if_pos hc];exact hf,q2⟩
  · have hc':¬ aQ c.names s<0∧¬ isD D s=true:=⟨fun h=>hc (.inl h),fun h=>hc (.inr h)⟩
    have hfg:=uT (az b1) b2 hc'.1
    have hvc:=hv.kid (gF hfg)
    obtain ⟨d,hd,hfc⟩:=hf.kids (gF hfg)
    obtain rfl:b=d:=by omega
    obtain ⟨hvk,hfk⟩:=hk k List.mem_cons_self
    obtain ⟨ok,S2,h2,rp,r1,r2,r3⟩:=hU S h _ _ hp hi hF hvk hvc hfk hfc
    obtain ⟨f0,hf0⟩:=r1.some
    have st:=ip f0 _ _ _ _ _ hf0 hi hvk hvc
    have hs4:=hm s List.mem_cons_self
    have hd0:isD D s=false:=Bool.eq_false_iff.2 hc'.2
    have hD':∀ t,isD D t=true→isD (aJ s true D) t=true:=fun t ht=>by rw [rz];split <;> simp [ht]
    have hD1:isD (aJ s true D) s=true:=by rw [rz,if_pos rfl]
    cases ok with
    | true =>
     have hp2:=rp rfl
     obtain ⟨ok,S1,D1,ag1,h1,q1,q2,q3,q4,q5,q6⟩:=pt hU kc ns ks S2 h2 (aJ s true D) true oq (by simpa using hl) st.inv r2 (hv.ext st.ext) (hf.in r3 hv.in) (fun s hs=>hm s (List.mem_cons_of_mem _ hs))
      (fun k hk'=>⟨(hk k (List.mem_cons_of_mem _ hk')).1.ext st.ext,(hk k (List.mem_cons_of_mem _ hk')).2.in r3 (hk k (List.mem_cons_of_mem _ hk')).1.in⟩)
     refine ⟨ok,S1,D1,ag1,h1,(r1.and q1).mono fun f hf=>?_,q2,fun n x hx=>?_,fun t ht=>q4 t (hD' t ht),fun _ _=>Er (fun t ht=>q4 t (hD' t ht)) hs4 hd0 (q4 s hD1),fun ho=>by have:=q6 ho;omega⟩
     · rw [ck,if_neg hc];simp only [hf.1];exact hf.2
     · obtain ⟨x',hx',_⟩:=st.ext n x hx
       rw [q3 n x' hx',r3 n x hx]
    | false =>
     refine ⟨false,S2,aJ s true D,true,h2,r1.mono fun f hf=>?_,r2,r3,hD',fun _ _=>Er hD' hs4 hd0 hD1,fun h=>absurd h dq⟩
     rw [ck,if_neg hc];simp only [hf]
theorem ws {b:Nat} (hb:szB (b+1)<lim) (hU:BG b):∀ (m:Nat) (S:St) (h:Int→Nat) (a c:Ty) (D:Dn),phi S<lim→und D≤m→Inv S→StF S h→tyS S a→tyS S c→a.kind=5→c.kind=5→Ft h (b+1) a→Ft h (b+1) c→dOk S a c D →
 ∃ ok S1 a1 c1 h1,(∃ N,∀ f,N≤f→∀ g,m+1≤g→dR f (bq f) g S a c D=some (ok,S1,a1,c1))∧StF S1 h1∧(∀ n x,am n S=some x→h1 n=h n)∧Ft h1 (b+1) a1∧Ft h1 (b+1) c1∧(ok=true→phi S1≤phi S)
 | m,S,h,a,c,D,hp,hm,hi,hF,ha,hc,ka,kc,fa,fc,hd=>by
  have hi':=hi
  obtain ⟨wf,ρ,rk,hρ,hrk⟩:=hi'
  obtain ⟨a',ea,fa'⟩:=j3 wf hF hrk hb fa ha
  obtain ⟨c',ec,fc'⟩:=j3 wf hF hrk hb fc hc
  obtain ⟨f1,hf1⟩:=ea.some
  obtain ⟨f2,hf2⟩:=ec.some
  obtain ⟨va,na,eqa⟩:=dx wf hf1 ha
  obtain ⟨vc,nc,eqc⟩:=dx wf hf2 hc
  have kk:∀ t t':Ty,tyS S t'→t.kind=5→sub ρ t'=sub ρ t→(t'.kind=5∨t'.kind=6→bdV S t'.n=none)→t'.kind=5:=by
   intro t t' hv k5 e hn
   have h1:(sub ρ t').kind=5:=by rw [e,a8 (by rw [k5];decide)];exact k5
   by_cases h6:t'.kind=6
   · obtain ⟨x,h2,h3⟩:=hv.var6 h6
     rw [ow h6,hρ.free _ x h2 (bO (hn (.inr h6)) h2),h3] at h1
     exact absurd h1 (by simp [idv])
   · rw [a8 h6] at h1;exact h1
  have ka':=kk a a' va ka (eqa ρ hρ.sol) na
  have kc':=kk c c' vc kc (eqc ρ hρ.sol) nc
  obtain ⟨d,hd1,_,nd,hnm,hl,hk⟩:=fa'.r5 ka'
  obtain rfl:b=d:=by omega
  obtain ⟨_,_,_,_,_,hlc,_⟩:=fc'.r5 kc'
  have hrok:rok a'∧rok c':=⟨⟨Nat.lt_of_le_of_lt fa'.sz hb,hl⟩,Nat.lt_of_le_of_lt fc'.sz hb,hlc⟩
  obtain ⟨ok,S1,D1,ag1,h1,q1,q2,q3,q4,q5,q6⟩:=pt hU kc' a'.names a'.kids S h D false hp hl hi hF vc fc' hnm (fun k hk'=>⟨va.kid hk',hk k hk'⟩)
  obtain ⟨f3,hf3⟩:=q1.some
  obtain ⟨p1,p2,p3,p4,p5⟩:=kw (ip f3) kc' _ _ _ _ _ _ _ _ _ hf3 hl hi vc (fun k hk'=>va.kid hk')
  have fa1:=fa'.in q3 va.in
  have fc1:=fc'.in q3 vc.in
  obtain ⟨N,hN⟩:=(ea.and ec).and q1
  cases ok with
  | false =>
   refine ⟨false,S1,a',c',h1,⟨N,fun f hf g hg=>?_⟩,q2,q3,fa1,fc1,q6⟩
   obtain ⟨g,rfl⟩:∃ g',g=g'+1:=⟨g - 1,by omega⟩
   obtain ⟨⟨e1,e2⟩,e3⟩:=hN f hf
   rw [dR,e1];simp only [e2];rw [if_pos hrok];simp only [e3]
  | true =>
   cases hag:ag1 with
   | false =>
    subst hag
    refine ⟨true,S1,a',c',h1,⟨N,fun f hf g hg=>?_⟩,q2,q3,fa1,fc1,q6⟩
    obtain ⟨g,rfl⟩:∃ g',g=g'+1:=⟨g - 1,by omega⟩
    obtain ⟨⟨e1,e2⟩,e3⟩:=hN f hf
    rw [dR,e1];simp only [e2];rw [if_pos hrok];simp only [e3]
   | true =>
    subst hag
    have hlt:=q5 rfl rfl
    match m,hm with
    | 0,hm=>omega
    | m+1,hm =>
    obtain ⟨s1,s2,_⟩:=va.1.sorted ka'
    obtain ⟨r1,_⟩:=p4 rfl
    have hp1:=q6 rfl
    obtain ⟨ok,S2,a2,c2,h2,⟨M,hM⟩,w2,w3,w4,w5,w6⟩:=ws hb hU m S1 h1 a' c' D1 oq oq p1 q2 (va.ext p2) (vc.ext p2) ka' kc' fa1 fc1 (fun s hs σ hσ=>by
     rcases r1 s hs with h|⟨x,y,g1,g2,g3⟩
     · rw [eqa σ (p3 σ hσ),eqc σ (p3 σ hσ)];exact hd s h σ (p3 σ hσ)
     · have hx:fg s a'=some x:=iv (by rw [cG s2];exact az s1) g1
       rw [va.field1 ka' (p3 σ hσ) hx,vc.field1 kc' (p3 σ hσ) g2,g3 σ hσ])
    refine ⟨ok,S2,a2,c2,h2,⟨max N M,fun f hf g hg=>?_⟩,w2,fun n x hx=>?_,w4,w5,fun ho=>by have:=w6 ho;omega⟩
    · obtain ⟨g,rfl⟩:∃ g',g=g'+1:=⟨g - 1,by omega⟩
      obtain ⟨⟨e1,e2⟩,e3⟩:=hN f oq
      rw [dR,e1];simp only [e2];rw [if_pos hrok];simp only [e3]
      exact hM f oq g oq
    · obtain ⟨x',hx',_⟩:=p2 n x hx
      rw [w3 n x' hx',q3 n x hx]
 termination_by m=>m
theorem nC {h:Int→Nat} {b:Nat} {a c:Ty} {n:Int} (fa:Ft h (b+1) a) (ka:a.kind=5) (hn:n≠0→h n=b+1):Ft h (b+1) (onT a c n):=by
 obtain ⟨d,hd,_,nd,hnm,hl,hk⟩:=fa.r5 ka
 obtain rfl:b=d:=by omega
 refine Ft.recT (fd a c _).1 (fun p hp=>?_) hn
 have hm:=iv (fd a c a.names.length).1 (k:=p.1) (x:=p.2) hp
 obtain ⟨i,hi,e1,e2⟩:=((mJ nd hl _ (Nat.le_refl _)).1 hm).2
 have hi':i<a.kids.length:=by omega
 rw [List.getD_eq_getElem?_getD,List.getElem?_eq_getElem hi] at e1
 rw [List.getD_eq_getElem?_getD,List.getElem?_eq_getElem hi'] at e2
 exact ⟨hnm _ (e1▸List.getElem_mem hi),e2▸hk _ (List.getElem_mem hi')⟩
theorem EI {b:Nat} {S:St} {h:Int→Nat} {a c:Ty} (hb:szB (b+1)<lim) (hp:phi S<lim) (hi:Inv S) (hF:StF S h) (ha:tyS S a) (hc:tyS S c) (ka:a.kind=5) (kc:c.kind=5) (na:bdV S a.n=none) (nc:bdV S c.n=none) (fa:Ft h (b+1) a) (fc:Ft h (b+1) c) :
 ∃ ok S' h',Br S h (fun f=>fu f S a c) ok S' h':=by
 have wf:=hi.1
 obtain ⟨a1,a2,_⟩:=ha.1.sorted ka
 obtain ⟨c1,c2,_⟩:=hc.1.sorted kc
 have a0:=ha.n0 ka
 have c0:=hc.n0 kc
 obtain ⟨d,hd,hna',_⟩:=fa.r5 ka
 obtain ⟨d',hd',hnc',_⟩:=fc.r5 kc
 have hg:(onT a c c.n).sz<lim∧(onT c a a.n).sz<lim:=⟨Nat.lt_of_le_of_lt (nC fa ka fun hn=>hnc' hn).sz hb,Nat.lt_of_le_of_lt (nC fc kc fun hn=>hna' hn).sz hb⟩
 by_cases e:a.n=c.n
 · refine ⟨decide ((onT a c c.n).names.length+(onT c a a.n).names.length=0),S,h,fun _=>Nat.le_refl _,Ev.of fun f=>?_,hF,fun _ _ _=>rfl⟩
   show fu f S a c=_
   unfold fu
   rw [if_pos hg,if_pos e]
 by_cases hz:(0<(onT a c c.n).names.length∧c.n=0)∨(0<(onT c a a.n).names.length∧a.n=0)
 · refine ⟨false,S,h,fun _=>Nat.le_refl _,Ev.of fun f=>?_,hF,fun _ _ _=>rfl⟩
   show fu f S a c=_
   unfold fu
   rw [if_pos hg,if_neg e,if_pos hz]
 by_cases hl:(onT a c c.n).names.length=0∧a.n≠0
 · have hsub:=fQ (b:=c) (n:=c.n) (az a1) a2 hl.1
   obtain ⟨x,h1,h2,h3⟩:=ha.var ka hl.2
   have hv:rwS S a.names (onT c a c.n):=jY hc kc c0 fun hn'=>by
    obtain ⟨y,y1,y2,y3⟩:=hc.var kc hn'
    exact ⟨y,y1,y2,fun s=>by rw [y3];exact ⟨.inr,fun h=>h.elim (hsub s) id⟩⟩
   obtain ⟨ok,S',r,_,_⟩:=iP (t:=onT c a c.n) hi hF hb h1 (bO na h1) ⟨fun hf=>absurd (h2.symm.trans hf) dq,fun _=>by rw [h3];exact hv⟩ (lM rfl nc) (nC fc kc (fun hn=>hnc' hn)) (hna' hl.2)
   refine ⟨ok,S',h,r.ph,r.ev.mono fun f hf=>?_,r.stf,r.old⟩
   show fu f S a c=_
   unfold fu
   rw [if_pos hg,if_neg e,if_neg hz,if_pos hl]
   exact hf
 by_cases hr:(onT c a a.n).names.length=0
 · have hn:c.n≠0:=by
    intro e0
    have hl1:¬ 0<(onT a c c.n).names.length:=fun hp=>hz (.inl ⟨hp,e0⟩)
    have hna:a.n=0:=Classical.byContradiction fun h0=>hl ⟨by omega,h0⟩
    exact e (hna.trans e0.symm)
   have hsub:=fQ (b:=a) (n:=a.n) (az c1) c2 hr
   obtain ⟨x,h1,h2,h3⟩:=hc.var kc hn
   have hv:rwS S c.names (onT a c a.n):=jY ha ka a0 fun hn'=>by
    obtain ⟨y,y1,y2,y3⟩:=ha.var ka hn'
    exact ⟨y,y1,y2,fun s=>by rw [y3];exact ⟨.inr,fun h=>h.elim (hsub s) id⟩⟩
   obtain ⟨ok,S',r,_,_⟩:=iP (t:=onT a c a.n) hi hF hb h1 (bO nc h1) ⟨fun hf=>absurd (h2.symm.trans hf) dq,fun _=>by rw [h3];exact hv⟩ (lM rfl na) (nC fa ka (fun hn=>hna' hn)) (hnc' hn)
   refine ⟨ok,S',h,r.ph,r.ev.mono fun f hf=>?_,r.stf,r.old⟩
   show fu f S a c=_
   unfold fu
   rw [if_pos hg,if_neg e,if_neg hz,if_neg hl,if_pos hr]
   exact hf
 have hla:¬ (onT a c c.n).names.length=0:=by
  intro e0
  have hn:a.n=0:=Classical.byContradiction fun h0=>hl ⟨e0,h0⟩
  exact hz (.inr ⟨by omega,hn⟩)
 have hna:a.n≠0:=fun e0=>hz (.inr ⟨by omega,e0⟩)
 have hnc:c.n≠0:=fun e0=>hz (.inl ⟨by omega,e0⟩)
 obtain ⟨v,hnew,hvr,hvn⟩:=vF wf a c
 have hi1:=hi.new hnew
 have he1:=hnew.ext wf
 have ha1:=ha.ext he1
 have hc1:=hc.ext he1
 obtain ⟨xa,xa1,xa2,xa3⟩:=ha.var ka hna
 obtain ⟨xc,xc1,xc2,xc3⟩:=hc.var kc hnc
 have hka:a.n≠((S.length+1:Nat):Int):=wf.ne xa1
 have hkc:c.n≠((S.length+1:Nat):Int):=wf.ne xc1
 have xa1':am a.n (eF S a c)=some xa:=by rw [hnew.oth _ hka];exact xa1
 have xc1':am c.n (eF S a c)=some xc:=by rw [hnew.oth _ hkc];exact xc1
 have hk0:bdV (eF S a c) ((S.length+1:Nat):Int)=none:=by rw [jS hnew.at_,hnew.bd];rfl
 have hR:rwS (eF S a c) a.names (onT c a ((S.length+1:Nat):Int)):=jY hc1 kc oq fun _=>⟨v,hnew.at_,hvr,fun s=>by rw [hvn,eE]⟩
 have hL:rwS (eF S a c) c.names (onT a c ((S.length+1:Nat):Int)):=jY ha1 ka oq fun _=>⟨v,hnew.at_,hvr,fun s=>by rw [hvn,eE];exact or_comm⟩
 have hold:∀ n x,am n S=some x→(fun m=>if m=((S.length+1:Nat):Int) then b+1 else h m) n=h n:=fun n x hx=>by simp only;rw [if_neg (wf.ne hx)]
 have hF1:StF (eF S a c) (fun m=>if m=((S.length+1:Nat):Int) then b+1 else h m):=fun m y hy hyb=>by
  by_cases e:m=((S.length+1:Nat):Int)
  · rw [e,hnew.at_] at hy;cases hy;rw [hnew.bd] at hyb;cases hyb
  · rw [hnew.oth m e] at hy
    simp only
    rw [if_neg e]
    exact (hF m y hy hyb).in hold (uL wf hy hyb).2
 have fa1:=fa.in hold ha.in
 have fc1:=fc.in hold hc.in
 have hkk:(fun m=>if m=((S.length+1:Nat):Int) then b+1 else h m) ((S.length+1:Nat):Int)=b+1:=by simp
 have hphn:=Fk wf a c
 have hpl:S.length<lim∧(am a.n S).isSome=true∧(am c.n S).isSome=true:=⟨by unfold phi at hp;omega,by rw [xa1];rfl,by rw [xc1];rfl⟩
 obtain ⟨ok1,S2,r1,r1p,_⟩:=iP (t:=onT c a ((S.length+1:Nat):Int)) hi1 hF1 hb xa1' (bO na xa1) ⟨fun hf=>absurd (xa2.symm.trans hf) dq,fun _=>by rw [xa3];exact hR⟩ (lM rfl hk0) (nC fc1 kc fun _=>hkk) ((hold _ xa xa1).trans (hna' hna))
 obtain ⟨f0,hf0⟩:=r1.ev.some
 have st1:=eW hf0 hi1 xa1' (bO na xa1) ⟨fun hf=>absurd (xa2.symm.trans hf) dq,fun _=>by rw [xa3];exact hR⟩ (lM rfl hk0) (fun h6=>absurd h6 (by show ¬ (5:Int)=6;decide)) (fun _=>hka.symm)
 cases ok1 with
 | false =>
  refine ⟨false,S2,_,fun h=>absurd h dq,r1.ev.mono fun f hf=>?_,r1.stf,fun n x hx=>?_⟩
  · show fu f S a c=_
    unfold fu
    rw [if_pos hg,if_neg e,if_neg hz,if_neg hl,if_neg hr,if_pos hpl,hf]
  · exact hold n x hx
 | true =>
  obtain ⟨xc',yc1,yc2,yc3⟩:=st1.ext _ xc xc1'
  have hun:∀ m y,am m (eF S a c)=some y→y.bd=false→m≠a.n→bdV S2 m=none:=by
   intro m y hy hyb hm
   unfold cg at hf0
   rw [xa1'] at hf0
   simp only at hf0
   split at hf0 <;> try (cases hf0;done)
   split at hf0 <;> try (cases hf0;done)
   split at hf0
   · cases hf0
   · cases hf0
     have hB:=jP (t:=onT c a ((S.length+1:Nat):Int)) xa1' (aD [] ‹Ty›)
     obtain ⟨z,z1,z2,z3,_,z5⟩:=hB.fw _ y hy
     rw [jS z1,(z5 hm).1,hyb];rfl
  have hnc2:=hun _ xc xc1' (bO nc xc1) (fun e0=>e e0.symm)
  have hk2:=hun _ v hnew.at_ hnew.bd (fun e0=>hka e0.symm)
  obtain ⟨ok2,S3,r2,r2p,_⟩:=iP (t:=onT a c ((S.length+1:Nat):Int)) st1.inv r1.stf hb yc1 (bO hnc2 yc1) ⟨fun hf=>absurd (xc2.symm.trans (yc2.symm.trans hf)) dq,fun _=>by rw [yc3,xc3];exact hL.ext st1.ext⟩ (lM rfl hk2) (nC fa1 ka fun _=>hkk) ((hold _ xc xc1).trans (hnc' hnc))
  refine ⟨ok2,S3,_,fun ho=>(by have:=r1p rfl;have:=r2p ho;omega),(r1.ev.and r2.ev).mono fun f hf=>?_,r2.stf,fun n x hx=>hold n x hx⟩
  show fu f S a c=_
  unfold fu
  rw [if_pos hg,if_neg e,if_neg hz,if_neg hl,if_neg hr,if_pos hpl,hf.1]
  exact hf.2
theorem DA {b:Nat} (hb:szB (b+1)<lim) (hU:BG b) {S:St} {h:Int→Nat} {a c:Ty} (hp:phi S<lim) (hi:Inv S) (hF:StF S h) (ha:tyS S a) (hc:tyS S c) (ka:a.kind=5) (kc:c.kind=5) (fa:Ft h (b+1) a) (fc:Ft h (b+1) c) :
 ∃ ok S' h',Br S h (fun f=>gi f (bq f) S a c) ok S' h':=by
 have hd0:dOk S a c []:=fun s h=>by simp [isD,am] at h
 obtain ⟨ok,S1,a1,c1,h1,⟨N,hN⟩,q2,q3,q4,q5,q6⟩:=ws hb hU (und []) S h a c [] hp (Nat.le_refl _) hi hF ha hc ka kc fa fc hd0
 have hl:Ev fun f=>dR f (bq f) f S a c []=some (ok,S1,a1,c1):=⟨N+und []+1,fun f hf=>hN f oq f oq⟩
 obtain ⟨f0,hf0⟩:=hl.some
 obtain ⟨l1,l2,l3,l4,l5⟩:=oY (ip f0) f0 S a c [] _ _ _ _ hf0 hi ha hc ka kc hd0
 cases ok with
 | false =>
  refine ⟨false,S1,h1,fun h=>absurd h dq,hl.mono fun f hf=>?_,q2,q3⟩
  show gi f (bq f) S a c=_
  unfold gi;rw [hf]
 | true =>
  obtain ⟨u1,u2,u3,u4,u5,u6,u7,u8⟩:=l4 rfl
  have hp1:=q6 rfl
  obtain ⟨ok,S2,h2,r⟩:=EI hb oq l1 q2 u1 u2 u3 u4 u5 u6 q4 q5
  refine ⟨ok,S2,h2,fun ho=>(by have:=r.ph ho;omega),(hl.and r.ev).mono fun f hf=>?_,r.stf,fun n x hx=>?_⟩
  · show gi f (bq f) S a c=_
    unfold gi;rw [hf.1];exact hf.2
  · obtain ⟨x',hx',_⟩:=l2 n x hx
    rw [r.old n x' hx',q3 n x hx]
theorem Ft.k4 {h:Int→Nat} {b:Nat} {t:Ty} (ht:Ft h b t) (hg:Gt t) (h4:t.kind=4):∃ c,b=c+1∧Ft h c (t.kids.getD 0 Ty.zero)∧t.kids.getD 0 Ty.zero∈t.kids:=by
 cases ht with
 | leaf _ k x hx h5 h6 =>
  exfalso
  simp only [Ty.kind_mk] at h4
  subst h4
  generalize he:Ty.mk 4 x 0 [] []=t at hg
  cases hg with
  | leaf k x a b c=>cases he;exact a rfl
  | list t h=>cases he
  | var n h=>cases he
  | rcd n ns ks a b c d=>cases he
 | list c t ht=>exact ⟨c,rfl,ht,by simp⟩
 | var _ n hn=>exact absurd h4 zq
 | rcd c n ns ks hn nd hm hl hk'=>exact absurd h4 zq
theorem js {b:Nat} (hb:szB b<lim) (hU:∀ c,b=c+1→BG c):BG b:=by
 intro S h a c hp hi hF ha hc fa fc
 obtain ⟨wf,ρ,rk,hρ,hrk⟩:=hi
 have hi:Inv S:=⟨wf,ρ,rk,hρ,hrk⟩
 obtain ⟨a',ea,fa'⟩:=j3 wf hF hrk hb fa ha
 obtain ⟨c',ec,fc'⟩:=j3 wf hF hrk hb fc hc
 obtain ⟨f1,hf1⟩:=ea.some
 obtain ⟨f2,hf2⟩:=ec.some
 obtain ⟨va,na,eqa⟩:=dx wf hf1 ha
 obtain ⟨vc,nc,eqc⟩:=dx wf hf2 hc
 have hsz:a'.sz<lim∧c'.sz<lim:=⟨Nat.lt_of_le_of_lt fa'.sz hb,Nat.lt_of_le_of_lt fc'.sz hb⟩
 have go:∀ {run:Nat→Option (Bool×St)},(∀ f,cm f S a=some a'→cm f S c=some c'→bq (f+1) S a c=run f)→(∃ ok S' h',Br S h run ok S' h')→∃ ok S' h',Br S h (fun f=>bq f S a c) ok S' h':=by
  rintro run hrun ⟨ok,S',h',r⟩
  exact ⟨ok,S',h',r.ph,Ev.succ (((ea.and ec).and r.ev).mono fun f hf=>(hrun f hf.1.1 hf.1.2).trans hf.2),r.stf,r.old⟩
 have start:∀ f,cm f S a=some a'→cm f S c=some c'→bq (f+1) S a c=(if a'.kind=6∧c'.kind=6∧a'.n=c'.n then some (true,S)
  else if a'.kind=6 then cg f S a'.n c'
  else if c'.kind=6 then cg f S c'.n a'
  else if a'.kind≠c'.kind∨a'.name≠c'.name then some (false,S)
  else if a'.kind=5 then gi f (bq f) S a' c'
  else if a'.kind=4 then (if 0<a'.kids.length∧0<c'.kids.length then bq f S (a'.kids.getD 0 Ty.zero) (c'.kids.getD 0 Ty.zero) else none)
  else some (true,S)):=fun f h1 h2=>by
  rw [bq,h1];simp only [h2];rw [if_pos hsz]
 by_cases hcc:a'.kind=6∧c'.kind=6∧a'.n=c'.n
 · exact go (run:=fun _=>some (true,S)) (fun f h1 h2=>by rw [start f h1 h2,if_pos hcc]) ⟨true,S,h,fun _=>Nat.le_refl _,Ev.of fun _=>rfl,hF,fun _ _ _=>rfl⟩
 by_cases h6:a'.kind=6
 · obtain ⟨x,x1,x2⟩:=va.var6 h6
   obtain ⟨ok,S',r,_,_⟩:=iP hi hF hb x1 (bO (na (.inr h6)) x1) ⟨fun _=>vc,fun hr=>absurd (x2.symm.trans hr) dq⟩ nc fc' (fa'.v6 h6)
   exact go (fun f h1 h2=>by rw [start f h1 h2,if_neg hcc,if_pos h6]) ⟨ok,S',h,r⟩
 by_cases k6:c'.kind=6
 · obtain ⟨x,x1,x2⟩:=vc.var6 k6
   obtain ⟨ok,S',r,_,_⟩:=iP hi hF hb x1 (bO (nc (.inr k6)) x1) ⟨fun _=>va,fun hr=>absurd (x2.symm.trans hr) dq⟩ na fa' (fc'.v6 k6)
   exact go (fun f h1 h2=>by rw [start f h1 h2,if_neg hcc,if_neg h6,if_pos k6]) ⟨ok,S',h,r⟩
 by_cases hne:a'.kind≠c'.kind∨a'.name≠c'.name
 · exact go (run:=fun _=>some (false,S)) (fun f h1 h2=>by rw [start f h1 h2,if_neg hcc,if_neg h6,if_neg k6,if_pos hne]) ⟨false,S,h,fun _=>Nat.le_refl _,Ev.of fun _=>rfl,hF,fun _ _ _=>rfl⟩
 have hk:a'.kind=c'.kind:=Classical.byContradiction fun h=>hne (.inl h)
 by_cases h5:a'.kind=5
 · obtain ⟨d,rfl,_⟩:=fa'.r5 h5
   exact go (fun f h1 h2=>by rw [start f h1 h2,if_neg hcc,if_neg h6,if_neg k6,if_neg hne,if_pos h5]) (DA hb (hU d rfl) hp hi hF va vc h5 (hk▸h5) fa' fc')
 by_cases h4:a'.kind=4
 · obtain ⟨d,rfl,g1,g2⟩:=fa'.k4 va.1 h4
   obtain ⟨d',hd',k1,k2⟩:=fc'.k4 vc.1 (hk▸h4)
   obtain rfl:d=d':=by omega
   exact go (fun f h1 h2=>by rw [start f h1 h2,if_neg hcc,if_neg h6,if_neg k6,if_neg hne,if_neg h5,if_pos h4,if_pos ⟨List.length_pos_of_mem g2,List.length_pos_of_mem k2⟩]) (hU d rfl S h _ _ hp hi hF (va.kid g2) (vc.kid k2) g1 k1)
 · exact go (run:=fun _=>some (true,S)) (fun f h1 h2=>by rw [start f h1 h2,if_neg hcc,if_neg h6,if_neg k6,if_neg hne,if_neg h5,if_neg h4]) ⟨true,S,h,fun _=>Nat.le_refl _,Ev.of fun _=>rfl,hF,fun _ _ _=>rfl⟩
theorem kj:∀ b,szB b<lim→BG b
 | 0,hb=>js hb fun c hc=>by omega
 | b+1,hb=>js hb fun c hc=>by
  obtain rfl:b=c:=by omega
  exact kj b (by simp only [szB] at hb;omega)
end Go.Proofs.YtdikgijfekfaoaaGreatDoor
