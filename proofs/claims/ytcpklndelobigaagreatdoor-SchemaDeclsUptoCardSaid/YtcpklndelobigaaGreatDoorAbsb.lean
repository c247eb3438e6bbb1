/- A logic of code over abstract values: sequences, loops, regions, calls, drawn orders, sound for the model. No condition. -/
import Derived.Test.YtcpklndelobigaaGreatDoorAbsa
import Derived.Orders
set_option linter.all false
namespace Go.Proofs.YtcpklndelobigaaGreatDoor.Abs
section
mutual
def aa.bel (k:Nat):aa->Bool
 | .agg cs=>aC k cs
 | .tup cs=>aC k cs
 | .ptr o _=>decide (o<k)
 | .pimm cs _=>aC k cs
 | .pown o _ _ _=>decide (o<k)
 | .imm l=>aC k l
 | .full l=>aC k l
 | .own o _ _=>decide (o<k)
 | .map o=>decide (o<k)
 | .fn _ xs ys=>aC k xs && aC k ys
 | .itr o=>decide (o<k)
 | .iface _ v=>v.bel k
 | _=>true
def aC (k:Nat):List aa->Bool
 | []=>true
 | x::xs=>x.bel k && aC k xs
end
theorem ch {k:Nat}:∀ {l:List aa} {i:Nat} {x:aa},aC k l=true->l[i]?=some x->x.bel k=true
 | [],i,x,_,hx=>by simp at hx
 | y::l,0,x,hb,hx=>by simp [aC] at hb hx;subst hx;exact hb.1
 | y::l,i+1,x,hb,hx=>by simp [aC] at hb hx;exact ch hb.2 hx
theorem iJ {k:Nat} {x y:aa} {j:Nat} (hb:x.bel k=true) (hy:x.cells[j]?=some y):y.bel k=true:=by
 cases x <;> simp only [aa.cells] at hy <;> first
  | (simp only [aa.bel] at hb;exact ch hb hy)
  | (cases j with
   | zero=>simp at hy;subst hy;exact hb
   | succ j=>simp at hy)
def am.belO (k:Nat):am->Bool
 | .hole=>true
 | .box cs=>aC k cs
 | .arr _ es _=>aC k es
 | .map es=>es.all fun e=>e.1.bel k && e.2.bel k
 | .iter m _=>decide (m<k)
section
variable {E:Ent} {ρ:Ren} {h:af} {w:World} {P:Program}
theorem i2 {α:Type} (l:List α) (k o:Nat) (ho:o<k):(l.take k)[o]?=l[o]?:=List.getElem?_take_of_lt ho
theorem VR.take {k:Nat} {x:aa} {v:Value} (hx:VR ρ h w x v) (hb:x.bel k=true):VR ρ (h.take k) w x v:=by
 induction hx with
 | any v=>exact .any v
 | bool b=>exact .bool b
 | int k n=>exact .int k n
 | str s=>exact .str s
 | agg cs vs hl _ ih=>exact .agg cs vs hl fun i x v a b=>ih i x v a b (ch (by simpa [aa.bel] using hb) a)
 | tup cs vs hl _ ih=>exact .tup cs vs hl fun i x v a b=>ih i x v a b (ch (by simpa [aa.bel] using hb) a)
 | nilp=>exact .nilp
 | ptr o off cs ho=>exact .ptr o off cs (by rw [i2 _ _ _ (by simpa [aa.bel] using hb)];exact ho)
 | pimm cs off b base val hc _ ih=>exact .pimm cs off b base val hc fun j y hy=>ih j y hy (ch (by simpa [aa.bel] using hb) hy)
 | pown o idx off n a sz es fr ho hv=>exact .pown o idx off n a sz es fr (by rw [i2 _ _ _ (by simpa [aa.bel] using hb)];exact ho) hv
 | imm l a cap sz b off val hcap ha hsz hc _ ih =>
  exact .imm l a cap sz b off val hcap ha hsz hc fun i x j y hx hy=>ih i x j y hx hy (iJ (ch (by simpa [aa.bel] using hb) hx) hy)
 | full l a sz b off val ha hsz hc _ ih =>
  exact .full l a sz b off val ha hsz hc fun i x j y hx hy=>ih i x j y hx hy (iJ (ch (by simpa [aa.bel] using hb) hx) hy)
 | own o off len a n cap sz es fr ho hv=>exact .own o off len a n cap sz es fr (by rw [i2 _ _ _ (by simpa [aa.bel] using hb)];exact ho) hv
 | nilm=>exact .nilm
 | map o es ho=>exact .map o es (by rw [i2 _ _ _ (by simpa [aa.bel] using hb)];exact ho)
 | fn f xs ys us vs hl hl' _ _ ih1 ih2 =>
  have hb':aC k xs=true/\aC k ys=true:=by simpa [aa.bel] using hb
  exact .fn f xs ys us vs hl hl' (fun i x v a b=>ih1 i x v a b (ch hb'.1 a)) (fun i x v a b=>ih2 i x v a b (ch hb'.2 a))
 | nilfn=>exact .nilfn
 | itr o m left ho=>exact .itr o m left (by rw [i2 _ _ _ (by simpa [aa.bel] using hb)];exact ho)
 | iface t x v _ ih=>exact .iface t x v (ih (by simpa [aa.bel] using hb))
 | nili=>exact .nili
theorem OR.take {k:Nat} {x:am} {l:Loc} (hx:OR ρ h w l x) (hb:x.belO k=true):OR ρ (h.take k) w l x:=by
 cases x with
 | hole=>trivial
 | box cs =>
  obtain ⟨c,t,h1,h2,h3⟩:=hx;exact ⟨c,t,h1,h2,fun i x v a b=>(h3 i x v a b).take (ch hb a)⟩
 | arr sz es fr =>
  obtain ⟨h1,h2,h3,h4,h5⟩:=hx;refine ⟨h1,h2,h3,h4,fun hc=>?_⟩;obtain ⟨c,t,h6,h7,h8⟩:=h5 hc;exact ⟨c,t,h6,h7,fun i x j y v a b d=>(h8 i x j y v a b d).take (iJ (ch hb a) b)⟩
 | map es =>
  obtain ⟨ms,clock,h1,h2,h3,h4⟩:=hx;refine ⟨ms,clock,h1,h2,fun i kv e a b=>?_,h4⟩;have hkv:=List.all_eq_true.1 hb kv (List.mem_of_getElem? a);simp at hkv;exact ⟨(h3 i kv e a b).1.take hkv.1,(h3 i kv e a b).2.1.take hkv.2,(h3 i kv e a b).2.2⟩
 | iter m left =>
  obtain ⟨since,seen,last,h1,es,ms,clock,h2,h3⟩:=hx;exact ⟨since,seen,last,h1,es,ms,clock,by rw [i2 _ _ _ (by simpa [am.belO] using hb)];exact h2,h3⟩
theorem ee {α:Type} {l:List α} {k o:Nat} {x:α} (hx:(l.take k)[o]?=some x):o<k/\l[o]?=some x:=by
 grind
theorem WF.take (wf:WF ρ h w) (k:Nat) (hb:(h.take k).all (am.belO k)=true):WF ρ (h.take k) w:=by
 refine ⟨?_,?_,?_,wf.immlt,?_⟩
 . intro o x hx;obtain ⟨h1,h2⟩:=ee hx;exact (wf.obj o x h2).take (List.all_eq_true.1 hb x (List.mem_of_getElem? hx))
 . intro o x o' x' hx hx';exact wf.inj o x o' x' (ee hx).2 (ee hx').2
 . intro o x hx;exact wf.lt o x (ee hx).2
 . intro o x j hx;exact wf.imm o x j (ee hx).2
theorem Fr.take (fr:Fr E ρ h w) (k:Nat):Fr E ρ (h.take k) w :=
 ⟨fr.os,fr.tape,fr.output,fr.size,fr.keep,fr.imm,fr.new,fun o x hx=>fr.own o x (ee hx).2⟩
theorem Le.take {ρ':Ren} {h':af} {w':World} (le:Le ρ h w ρ' h' w') (k:Nat) (hk:h.length<=k):Le ρ h w ρ' (h'.take k) w' :=
 ⟨fun o x hx=>by
  obtain ⟨x',h1,h2⟩:=le.obj o x hx;have hlt:=(List.getElem?_eq_some_iff.1 hx).1;exact ⟨x',by rw [i2 _ _ _ oq];exact h1,h2⟩,le.imm⟩
end
mutual
def aa.owns:aa->List Nat
 | .agg cs=>aF cs
 | .tup cs=>aF cs
 | .imm l=>aF l
 | .full l=>aF l
 | .own o _ _=>[o]
 | .fn _ xs ys=>aF xs++aF ys
 | .iface _ v=>v.owns
 | _=>[]
def aF:List aa->List Nat
 | []=>[]
 | x::xs=>x.owns++aF xs
end
mutual
def aa.frz (h:af):aa->aa
 | .agg cs=>.agg (aN h cs)
 | .tup cs=>.tup (aN h cs)
 | .imm l=>.imm (aN h l)
 | .full l=>.imm (aN h l)
 | .own o off len=>match h[o]? with
  | some (.arr _ es _)=>if off+len=es.length then .imm (es.drop off) else .own o off len
  | _=>.own o off len
 | .fn f xs ys=>.fn f (aN h xs) (aN h ys)
 | .iface t v=>.iface t (v.frz h)
 | x=>x
def aN (h:af):List aa->List aa
 | []=>[]
 | x::xs=>x.frz h::aN h xs
end
def db (h:af):List Nat->af
 | []=>h
 | o::os=>match h[o]? with
  | some (.arr sz es _)=>db (h.set o (.arr sz es es.length)) os
  | _=>db h os
theorem cm (h:af):∀ l:List aa,aN h l=l.map (aa.frz h)
 | []=>by simp [aN]
 | x::l=>by simp [aN,cm h l]
theorem dO:∀ {l:List aa} {i:Nat} {x:aa},l[i]?=some x->∀ o∈x.owns,o∈aF l
 | [],i,x,hx=>by simp at hx
 | y::l,0,x,hx=>by simp at hx;subst hx;intro o ho;simp [aF,ho]
 | y::l,i+1,x,hx=>by simp at hx;intro o ho;simp [aF,dO hx o ho]
theorem fj (h:af) (x:aa):(x.frz h).cells=x.cells.map (aa.frz h):=by
 cases x <;> try (simp only [aa.frz,aa.cells,cm,List.map_cons,List.map_nil];done)
 rename_i o off len;have:∀ y:aa,(∀ cs,y≠.agg cs)->y.cells=[y]:=by intro y hy;cases y <;> first|rfl|exact (hy _ rfl).elim
 rw [this _ ?_]
 . rfl
 . intro cs;simp only [aa.frz]
   grind
theorem nB {x y:aa} {j:Nat} (hy:x.cells[j]?=some y):∀ o∈y.owns,o∈x.owns:=by
 intro o ho
 cases x <;> simp only [aa.cells] at hy <;> first
  | (simp only [aa.owns];exact dO hy o ho)
  | (cases j with
   | zero=>simp at hy;subst hy;exact ho
   | succ j=>simp at hy)
section
variable {E:Ent} {ρ:Ren} {h:af} {w:World}
theorem fe:∀ (ids:List Nat) {ρ:Ren} {h:af},WF ρ h w->Fr E ρ h w ->
 ∃ ρ',WF ρ' (db h ids) w/\Le ρ h w ρ' (db h ids) w/\Fr E ρ' (db h ids) w /\
  ∀ o∈ids,∀ sz es fr0,h[o]?=some (.arr sz es fr0)->∀ off len v,off+len=es.length->VR ρ h w (.own o off len) v->VR ρ' (db h ids) w (.imm (es.drop off)) v
 | [],ρ,h,wf,fr=>⟨ρ,wf,Le.refl _ _ _,fr,by simp⟩
 | o::ids,ρ,h,wf,fr=>by
  simp only [db];split
  . rename_i sz es fr0 ho;obtain ⟨ρ1,g1,g2,g3,g4⟩:=i9 wf fr ho;obtain ⟨ρ2,q1,q2,q3,q4⟩:=fe ids g1 g3;refine ⟨ρ2,q1,g2.trans q2,q3,?_⟩;intro o' ho' sz' es' fr' hh off len v htip hv;simp at ho';by_cases e:o'=o
    . subst e;rw [ho] at hh;cases hh;exact (g4 off len v htip hv).mono q2
    . have hm:o'∈ids:=by simpa [e] using ho'
      exact q4 o' hm sz' es' fr' (by rw [aY _ _ _ _ e];exact hh) off len v htip (hv.mono g2)
  . rename_i hne;obtain ⟨ρ2,q1,q2,q3,q4⟩:=fe ids wf fr
    grind
theorem VR.frz {ρ':Ren} {h':af} {ids:List Nat} (le:Le ρ h w ρ' h' w)
 (hf:∀ o∈ids,∀ sz es fr0,h[o]?=some (.arr sz es fr0)->∀ off len v,off+len=es.length->VR ρ h w (.own o off len) v->VR ρ' h' w (.imm (es.drop off)) v)
 {x:aa} {v:Value} (hx:VR ρ h w x v) (hi:∀ o∈x.owns,o∈ids):VR ρ' h' w (x.frz h) v:=by
 induction hx with
 | any v=>exact .any v
 | bool b=>exact .bool b
 | int k n=>exact .int k n
 | str s=>exact .str s
 | agg cs vs hl _ ih =>
  simp only [aa.frz,cm];refine .agg _ vs (by simpa using hl) fun i x v a b=>?_
  simp at a;obtain ⟨y,h1,rfl⟩:=a;exact ih i y v h1 b (fun o ho=>hi o (by simp only [aa.owns];exact dO h1 o ho))
 | tup cs vs hl _ ih =>
  simp only [aa.frz,cm];refine .tup _ vs (by simpa using hl) fun i x v a b=>?_
  simp at a;obtain ⟨y,h1,rfl⟩:=a;exact ih i y v h1 b (fun o ho=>hi o (by simp only [aa.owns];exact dO h1 o ho))
 | nilp=>exact .nilp
 | ptr o off cs ho=>exact (VR.ptr o off cs ho).mono le
 | pimm cs off b base val hc hv _=>exact (VR.pimm cs off b base val hc hv).mono le
 | pown o idx off n a sz es fr ho hv=>exact (VR.pown o idx off n a sz es fr ho hv).mono le
 | imm l a cap sz b off val hcap ha hsz hc hv ih =>
  simp only [aa.frz,cm]
  have:VR ρ' h' w (.imm (l.map (aa.frz h))) (.slice a (l.map (aa.frz h)).length cap):=by
   refine .imm _ a cap sz b off val (by simpa using hcap) (by simpa using ha) ?_ ?_ ?_
   . intro i x hx;simp at hx;obtain ⟨y,h1,rfl⟩:=hx;rw [fj];simpa using hsz i y h1
   . intro i x j y hx hy;simp at hx;obtain ⟨x0,h1,rfl⟩:=hx;rw [fj] at hy;simp at hy;obtain ⟨y0,h2,rfl⟩:=hy;have:=hc i x0 j y0 h1 h2;exact ⟨(le.imm _ _ this.1).1,((le.imm _ _ this.1).2).trans this.2⟩
   . intro i x j y hx hy;simp at hx;obtain ⟨x0,h1,rfl⟩:=hx;rw [fj] at hy;simp at hy;obtain ⟨y0,h2,rfl⟩:=hy;exact ih i x0 j y0 h1 h2 (fun o ho=>hi o (by simp only [aa.owns];exact dO h1 o (nB h2 o ho)))
  simpa using this
 | full l a sz b off val ha hsz hc hv ih =>
  simp only [aa.frz,cm]
  have:VR ρ' h' w (.imm (l.map (aa.frz h))) (.slice a (l.map (aa.frz h)).length l.length):=by
   refine .imm _ a _ sz b off val zq (by simpa using ha) ?_ ?_ ?_
   . intro i x hx;simp at hx;obtain ⟨y,h1,rfl⟩:=hx;rw [fj];simpa using hsz i y h1
   . intro i x j y hx hy;simp at hx;obtain ⟨x0,h1,rfl⟩:=hx;rw [fj] at hy;simp at hy;obtain ⟨y0,h2,rfl⟩:=hy;have:=hc i x0 j y0 h1 h2;exact ⟨(le.imm _ _ this.1).1,((le.imm _ _ this.1).2).trans this.2⟩
   . intro i x j y hx hy;simp at hx;obtain ⟨x0,h1,rfl⟩:=hx;rw [fj] at hy;simp at hy;obtain ⟨y0,h2,rfl⟩:=hy;exact ih i x0 j y0 h1 h2 (fun o ho=>hi o (by simp only [aa.owns];exact dO h1 o (nB h2 o ho)))
  simpa using this
 | own o off len a n cap sz es fr ho hv =>
  simp only [aa.frz,ho];split
  . rename_i htip;exact hf o (hi o (by simp [aa.owns])) sz es fr ho off len _ htip (.own o off len a n cap sz es fr ho hv)
  . exact (VR.own o off len a n cap sz es fr ho hv).mono le
 | nilm=>exact .nilm
 | map o es ho=>exact (VR.map o es ho).mono le
 | fn f xs ys us vs hl hl' _ _ ih1 ih2 =>
  simp only [aa.frz,cm];refine .fn f _ _ us vs (by simpa using hl) (by simpa using hl') ?_ ?_
  . intro i x v a b;simp at a;obtain ⟨y,h1,rfl⟩:=a;exact ih1 i y v h1 b (fun o ho=>hi o (by simp only [aa.owns];simp [dO h1 o ho]))
  . intro i x v a b;simp at a;obtain ⟨y,h1,rfl⟩:=a;exact ih2 i y v h1 b (fun o ho=>hi o (by simp only [aa.owns];simp [dO h1 o ho]))
 | nilfn=>exact .nilfn
 | itr o m left ho=>exact (VR.itr o m left ho).mono le
 | iface t x v _ ih=>exact .iface t _ v (ih (fun o ho=>hi o (by simpa [aa.owns] using ho)))
 | nili=>exact .nili
end
end
section
theorem VR.of_nil {ρ ρ':Ren} {w:World} {x:aa} {v:Value} (hx:VR ρ [] w x v) (hI:∀ b j,ρ.I b j->ρ'.I b j) (h:af):VR ρ' h w x v:=by
 induction hx with
 | any v=>exact .any v
 | bool b=>exact .bool b
 | int k n=>exact .int k n
 | str s=>exact .str s
 | agg cs vs hl _ ih=>exact .agg cs vs hl ih
 | tup cs vs hl _ ih=>exact .tup cs vs hl ih
 | nilp=>exact .nilp
 | ptr o off cs ho=>simp at ho
 | pimm cs off b base val hc _ ih=>exact .pimm cs off b base val (fun j y hy=>⟨hI _ _ (hc j y hy).1,(hc j y hy).2⟩) ih
 | pown o idx off n a sz es fr ho hv=>simp at ho
 | imm l a cap sz b off val hcap ha hsz hc _ ih=>exact .imm l a cap sz b off val hcap ha hsz (fun i x j y hx hy=>⟨hI _ _ (hc i x j y hx hy).1,(hc i x j y hx hy).2⟩) ih
 | full l a sz b off val ha hsz hc _ ih=>exact .full l a sz b off val ha hsz (fun i x j y hx hy=>⟨hI _ _ (hc i x j y hx hy).1,(hc i x j y hx hy).2⟩) ih
 | own o off len a n cap sz es fr ho hv=>simp at ho
 | nilm=>exact .nilm
 | map o es ho=>simp at ho
 | fn f xs ys us vs hl hl' _ _ ih1 ih2=>exact .fn f xs ys us vs hl hl' ih1 ih2
 | nilfn=>exact .nilfn
 | itr o m left ho=>simp at ho
 | iface t x v _ ih=>exact .iface t x v ih
 | nili=>exact .nili
theorem VR.nil_mono {ρ ρ':Ren} {h h':af} {w w':World} (le:Le ρ h w ρ' h' w') {x:aa} {v:Value} (hx:VR ρ [] w x v):VR ρ' [] w' x v :=
 VR.mono ⟨by simp,le.imm⟩ hx
structure p7 where
 ρ:Ren
 h:af
 w:World
structure Rel (cx:Cx) (E:Ent) (B:p7) (n:Nat) (ρ:Ren) (T:Tm) (h:af) (a:Act) (w:World):Prop where
 tm:∀ t,VR ρ h w (Tm.get T t) (a.tmps.getD t undef)
 size:a.tmps.size=n
 defers:a.defers=[]
 glob:∀ g cs,cx.G g=some cs->VR ρ [] w (.pimm cs 0) (.pointer (some ⟨g,0,none⟩))
 wf:WF ρ h w
 fr:Fr E ρ h w
 le:Le B.ρ B.h B.w ρ h w
theorem Rel.eval {cx:Cx} {E:Ent} {B:p7} {n:Nat} {ρ:Ren} {T:Tm} {h:af} {a:Act} {w:World} (hr:Rel cx E B n ρ T h a w) (c:Operand):VR ρ h w (aev cx.G T c) (a.eval c):=by
 cases c with
 | tmp t=>exact hr.tm t
 | const v =>
  simp only [aev];split
  . rename_i x hx;exact kH hx _ _ _
  . exact .any _
 | global g =>
  simp only [aev];split
  . rename_i cs hg;exact (hr.glob g cs hg).of_nil (fun _ _ h=>h) h
  . exact .any _
 | func f=>exact .fn _ [] [] #[] #[] rfl rfl zq zq
theorem Rel.step {cx:Cx} {E:Ent} {B:p7} {n:Nat} {ρ ρ':Ren} {T:Tm} {h h':af} {a:Act} {w w':World} (hr:Rel cx E B n ρ T h a w) (wf:WF ρ' h' w') (le:Le ρ h w ρ' h' w') (fr:Fr E ρ' h' w') :
 Rel cx E B n ρ' T h' a w' :=
 ⟨fun t=>(hr.tm t).mono le,hr.size,hr.defers,fun g cs hg=>(hr.glob g cs hg).nil_mono le,wf,fr,hr.le.trans le⟩
def ci (T:Tm) (d:Option Tmp) (v:aa):Tm :=
 match d with
 | some d=>(d,v)::T
 | none=>T
def iP (n:Nat):Option Tmp->Bool
 | some d=>decide (d<n)
 | none=>true
theorem Rel.put {cx:Cx} {E:Ent} {B:p7} {n:Nat} {ρ:Ren} {T:Tm} {h:af} {a:Act} {w:World} (hr:Rel cx E B n ρ T h a w) {d:Option Tmp} (hd:iP n d=true) {v:aa} {cv:Value} (hv:VR ρ h w v cv) :
 Rel cx E B n ρ (ci T d v) h (a.put d cv) w:=by
 cases d with
 | none=>exact hr
 | some d =>
  have hdn:d<a.tmps.size:=by rw [hr.size];simpa [iP] using hd
  refine ⟨?_,by simp [Act.put,hr.size],by simp [Act.put,hr.defers],hr.glob,hr.wf,hr.fr,hr.le⟩;intro t;simp only [ci,Tm.get,Act.put];by_cases e:d=t
  . subst e;simp [hdn];exact hv
  . rw [if_neg e];have:=hr.tm t
    have e2:(a.tmps.setIfInBounds d cv).getD t undef=a.tmps.getD t undef:=by
     simp [Array.getD_eq_getD_getElem?,Array.getElem?_setIfInBounds_ne e]
    rw [e2];exact this
abbrev cP:=Exit->Tm->af->Prop
def wpA (cx:Cx) (n m:Nat) (c:Code) (Q:cP) (T:Tm) (h:af):Prop :=
 ∀ (E:Ent) (B:p7) (ρ:Ren) (a:Act) (w:World),B.h.length=m->Rel cx E B n ρ T h a w ->
  c.wp cx.P (fun e a' w'=>∃ ρ' T' h',Rel cx E B n ρ' T' h' a' w'/\Q e T' h') a w
def cM (next:Tm->af->Prop) (Q:cP):cP
 | .normal,T,h=>next T h
 | e,T,h=>Q e T h
def AIn (id:Nat) (Q:cP):cP
 | .exit id',T,h=>if id'=id then Q .normal T h else Q (.exit id') T h
 | e,T,h=>Q e T h
section
variable {cx:Cx} {n m:Nat} {Q:cP} {T:Tm} {h:af}
theorem lU {c:Code} {Q':cP} (hc:wpA cx n m c Q T h) (hq:∀ e T h,Q e T h->Q' e T h):wpA cx n m c Q' T h :=
 fun E B ρ a w hm hr=>wp_mono (hc E B ρ a w hm hr) fun _ _ _ ⟨ρ',T',h',r,q⟩=>⟨ρ',T',h',r,hq _ _ _ q⟩
theorem Ar (hq:Q .normal T h):wpA cx n m .skip Q T h:=fun _ _ ρ _ _ _ hr=>wp_skip ⟨ρ,T,h,hr,hq⟩
theorem EX (hq:Q .ret T h):wpA cx n m .ret Q T h:=fun _ _ ρ _ _ _ hr=>wp_ret ⟨ρ,T,h,hr,hq⟩
theorem vW {l:Nat} (hq:Q .normal T h):wpA cx n m (.label l) Q T h:=fun _ _ ρ _ _ _ hr=>wp_label ⟨ρ,T,h,hr,hq⟩
def xW (Q:cP):cP
 | .goto _,_,_=>False
 | e,T,h=>Q e T h
theorem vr {c:Code} (hc:wpA cx n m c (xW Q) T h):wpA cx n m (.scope c) Q T h:=by
 intro E B ρ a w hm hr;refine wp_scope_straight (wp_mono (hc E B ρ a w hm hr) ?_);rintro e a' w' ⟨ρ',T',h',r,q⟩;cases e with
 | goto l=>exact q.elim
 | _=>exact ⟨ρ',T',h',r,q⟩
theorem yU {id:Nat} (hq:Q (.exit id) T h):wpA cx n m (.exit id) Q T h:=fun _ _ ρ _ _ _ hr=>wp_exit ⟨ρ,T,h,hr,hq⟩
theorem Em {x y:Code} (hx:wpA cx n m x (cM (wpA cx n m y Q) Q) T h):wpA cx n m (.seq x y) Q T h:=by
 intro E B ρ a w hm hr;refine wp_seq (wp_mono (hx E B ρ a w hm hr) ?_);rintro e a' w' ⟨ρ',T',h',r,q⟩;cases e with
 | normal=>exact q E B ρ' a' w' hm r
 | _=>exact ⟨ρ',T',h',r,q⟩
theorem oJ {c:Operand} {x y:Code} {t:Bool} (hc:aev cx.G T c=.bool t) (hx:wpA cx n m (if t then x else y) Q T h):wpA cx n m (.cond c x y) Q T h:=by
 intro E B ρ a w hm hr;have hv:=hr.eval c;rw [hc] at hv;have he:a.eval c=.bool t:=by cases hce:a.eval c <;> rw [hce] at hv <;> cases hv;rfl
 exact wp_cond he (hx E B ρ a w hm hr)
theorem wn {id:Nat} {c:Code} (hc:wpA cx n m c (AIn id Q) T h):wpA cx n m (.block id c) Q T h:=by
 intro E B ρ a w hm hr;refine wp_block (wp_mono (hc E B ρ a w hm hr) ?_);rintro e a' w' ⟨ρ',T',h',r,q⟩;cases e with
 | exit id' =>
  simp only [AIn] at q;simp only [Exit.inBlock]
  grind
 | _=>exact ⟨ρ',T',h',r,q⟩
theorem oU (p:Nat->Prop):∀ k,p k->∃ j,p j/\∀ i,p i->j<=i:=by
 intro k
 induction k using Nat.strongRecOn with
 | _ k ih =>
  grind
theorem uf {c:Code} (I:Nat->Tm->af->Prop) (k0:Nat) (h0:I k0 T h)
 (round:∀ k T h,I k T h->wpA cx n m c (cM (fun T' h'=>∃ k',k'<k/\I k' T' h') Q) T h):wpA cx n m (.loop c) Q T h:=by
 intro E B ρ a w hm hr
 let J:Act->World->Nat->Prop:=fun a w k=>∃ ρ T h,Rel cx E B n ρ T h a w/\I k T h
 have hex:∀ a w,(∃ k,J a w k)->∃ j,J a w j/\∀ i,J a w i->j<=i:=fun a w ⟨k,hk⟩=>oU (J a w) k hk
 let μ:Act->World->Nat:=fun a w=>open Classical in if hx:∃ k,J a w k then Classical.choose (hex a w hx) else 0
 have hμ:∀ a w,(hx:∃ k,J a w k)->J a w (μ a w)/\∀ i,J a w i->μ a w<=i:=by
  intro a w hx
  grind
 refine wp_loop (fun a w=>∃ k,J a w k) μ ⟨k0,ρ,T,h,hr,h0⟩ ?_;intro a w hx;obtain ⟨⟨ρ1,T1,h1,r1,i1⟩,hle⟩:=hμ a w hx;refine wp_mono (round _ T1 h1 i1 E B ρ1 a w hm r1) ?_;rintro e a' w' ⟨ρ',T',h',r,q⟩;cases e with
 | normal =>
  obtain ⟨k',hk',hi'⟩:=q;have hJ:J a' w' k':=⟨ρ',T',h',r,hi'⟩;refine ⟨⟨k',hJ⟩,?_⟩;exact Nat.lt_of_le_of_lt ((hμ a' w' ⟨k',hJ⟩).2 k' hJ) hk'
 | _=>exact ⟨ρ',T',h',r,q⟩
def Tm.le (T T':Tm):Prop:=∀ t,Tm.get T' t=.any\/Tm.get T' t=Tm.get T t
theorem CQ {c:Code} (T':Tm) (k:Nat) (hT:Tm.le T T') (hk:m<=k) (hb:∀ t,(Tm.get T' t).bel k=true) (ho:(h.take k).all (am.belO k)=true)
 (hc:wpA cx n m c Q T' (h.take k)):wpA cx n m c Q T h:=by
 intro E B ρ a w hm hr;refine hc E B ρ a w hm ⟨?_,hr.size,hr.defers,?_,hr.wf.take k ho,hr.fr.take k,hr.le.take k oq⟩
 . intro t;rcases hT t with e|e
   . rw [e];exact .any _
   . have:=hb t;rw [e] at this ⊢;exact (hr.tm t).take this
 . exact hr.glob
end
end
section
def gV (ρ:Ren) (h:af) (b:Nat):Prop:=∃ (o:Nat) (x:am),h[o]?=some x/\x.hasBlk (ρ.loc o)=true/\(ρ.loc o).blk=b
def uq (P : Program) (f : FuncId) : Prop := ∃ fn, P.funcs[f]? = some fn ∧ fn.body.isSome = true ∧ (fn.name == "runtime.NumGoroutine") = false
def vC (cx:Cx) (ρ:Ren) (w:World):Prop:=∀ g cs,cx.G g=some cs->VR ρ [] w (.pimm cs 0) (.pointer (some ⟨g,0,none⟩))
def VRs (ρ:Ren) (h:af) (w:World) (xs:List aa) (vs:Array Value):Prop :=
 vs.size=xs.length/\∀ (i:Nat) x v,xs[i]?=some x->vs[i]?=some v->VR ρ h w x v
theorem VRs.append {ρ:Ren} {h:af} {w:World} {xs ys:List aa} {us vs:Array Value} (hx:VRs ρ h w xs us) (hy:VRs ρ h w ys vs):VRs ρ h w (xs++ys) (us++vs):=by
 obtain ⟨h1,h2⟩:=hx;obtain ⟨h3,h4⟩:=hy;refine ⟨by simp [h1,h3],fun i x v hx hv=>?_⟩
 grind
theorem VRs.map {ρ:Ren} {h:af} {w:World} {ev:Operand->aa} {cev:Operand->Value} (hev:∀ x,VR ρ h w (ev x) (cev x)) (args:Array Operand):VRs ρ h w (ju ev args.toList) (args.map cev):=by
 refine ⟨by simp [ji],fun i x v hx hv=>?_⟩;rw [ji] at hx
 grind
def av (cx:Cx) (f:FuncId) (args:List aa) (h:af) (Q:aa->af->Prop):Prop :=
 uq cx.P f/\∀ (ρ:Ren) (w:World) (cargs:Array Value),WF ρ h w->vC cx ρ w->VRs ρ h w args cargs ->
  Calls cx.P f cargs w fun e w'=>∃ ρ' cv v h',e=.returned cv/\Q v h'/\VR ρ' h' w' v cv/\WF ρ' h' w'/\Le ρ h w ρ' h' w'/\Fr ⟨w,ρ.I,gV ρ h⟩ ρ' h' w'
theorem Fr.comp {E:Ent} {ρ ρ':Ren} {h h':af} {w w':World} (fr:Fr E ρ h w) (fr':Fr ⟨w,ρ.I,gV ρ h⟩ ρ' h' w'):Fr E ρ' h' w':=by
 have lent:∀ b,b<E.w.heap.size->gV ρ h b->E.lent b:=by
  rintro b hb ⟨o,x,h1,h2,rfl⟩;exact fr.own o x h1 h2 hb
 refine ⟨fr'.os.trans fr.os,fr'.tape.trans fr.tape,fr'.output.trans fr.output,Nat.le_trans fr.size fr'.size,?_,?_,?_,?_⟩
 . intro b hb hnl;have:w'.heap[b]?=w.heap[b]?:=fr'.keep b (Nat.lt_of_lt_of_le hb fr.size) (fun hl=>hnl (lent b hb hl));exact this.trans (fr.keep b hb hnl)
 . intro b j hE;obtain ⟨h1,h2⟩:=fr.imm b j hE;obtain ⟨h3,h4⟩:=fr'.imm b j h1;exact ⟨h3,h4.trans h2⟩
 . intro b j hI hb;rcases fr'.new b j hI (Nat.lt_of_lt_of_le hb fr.size) with g|g
   . exact fr.new b j g hb
   . exact .inr (lent b hb g)
 . intro o x hx hxb hb;exact lent _ hb (fr'.own o x hx hxb (Nat.lt_of_lt_of_le hb fr.size))
theorem av.mono {cx:Cx} {f:FuncId} {args:List aa} {h:af} {Q Q':aa->af->Prop} (hc:av cx f args h Q) (hq:∀ v h,Q v h->Q' v h):av cx f args h Q' :=
 ⟨hc.1,fun ρ w cargs wf g hv=>(hc.2 ρ w cargs wf g hv).mono fun _ _ ⟨ρ',cv,v,h',e,q,r⟩=>⟨ρ',cv,v,h',e,hq _ _ q,r⟩⟩
def nF (p:Prop):Prop:=p
theorem BT (p:Prop):nF p=nF p:=rfl
attribute [congr] BT
def dr (ops:Array Oper) (T:Tm):Option (Nat×Bool)->Option Bool
 | none=>some true
 | some (j,want)=>match (ops[j]?).bind (·.dst) with
  | some d=>match Tm.get T d with
   | .bool b=>some (b==want)
   | .tup _=>some false
   | _=>none
  | none=>none
def aI (ev:Operand->aa):Op->Option (FuncId×List aa)
 | .call { callee:=.value f,args,argTypes:=_ }=>match ev f with
  | .fn (.func g) xs ys=>some (g,xs++ju ev args.toList++ys)
  | _=>none
 | _=>none
def td (cx:Cx) (n:Nat) (ops:Array Oper):List Oper->Tm->af->(Tm->af->Prop)->Prop
 | [],T,h,K=>K T h
 | o::os,T,h,K=>iP n o.dst=true /\
  match dr ops T o.guard with
  | some true=>match aop cx.P h (aev cx.G T) o.op with
   | some r=>td cx n ops os (ci T o.dst r.1) r.2 K\/(match bso cx.P h (aev cx.G T) o.op with
    | some q=>nF (td cx n ops os (ci T o.dst q.1) q.2 K)
    | none=>False)
   | none=>match aI (aev cx.G T) o.op with
    | some c=>av cx c.1 c.2 h fun v h'=>nF (td cx n ops os (ci T o.dst v) h' K)
    | none=>match anx cx.P h (aev cx.G T) o.op with
     | some l=>∀ r,r∈l->nF (td cx n ops os (ci T o.dst r.1) r.2 K)
     | none=>False
  | some false=>td cx n ops os (ci T o.dst (.tup [])) h K
  | none=>False
section
variable {cx:Cx} {E:Ent} {B:p7} {n:Nat} {ρ:Ren} {T:Tm} {h:af} {a:Act} {w:World}
theorem eQ (hr:Rel cx E B n ρ T h a w) {ops:Array Oper} {o:Oper} {b:Bool} (hg:dr ops T o.guard=some b):Region.wanted o (yielded ops a.tmps)=b:=by
 unfold dr at hg;unfold Region.wanted;split at hg
 . grind
 . rename_i j want e;rw [e];split at hg <;> try (simp at hg;done)
   rename_i d hd;split at hg <;> simp at hg
   rotate_left
   . rename_i cs hc;subst hg;have hv:=hr.tm d;rw [hc] at hv
     obtain ⟨vs,hvs⟩:∃ vs,a.tmps.getD d undef=.tuple vs:=by
      cases hce:a.tmps.getD d undef <;> rw [hce] at hv <;> cases hv
      exact ⟨_,rfl⟩
     have hy:yielded ops a.tmps j=none:=by
      simp only [yielded,hd,Option.bind_some];cases he:a.tmps[d]? with
      | none=>rfl
      | some u =>
       have:a.tmps.getD d undef=u:=by simp [Array.getD_eq_getD_getElem?,he]
       grind
     simp [hy]
   rename_i c hc;have hv:=hr.tm d;rw [hc] at hv
   have hlt:d<a.tmps.size:=by
    rcases Nat.lt_or_ge d a.tmps.size with h1|h1
    . exact h1
    . exfalso;have:a.tmps.getD d undef=undef:=by simp [Array.getD_eq_getD_getElem?,Array.getElem?_eq_none h1]
      rw [this] at hv;cases hv
   have he:a.tmps[d]?=some (.bool c):=by
    rw [Array.getElem?_eq_getElem hlt];have:a.tmps.getD d undef=a.tmps[d]:=by simp [Array.getD_eq_getD_getElem?,hlt]
    rw [this] at hv;cases hce:a.tmps[d] <;> rw [hce] at hv <;> cases hv
    rfl
   simp only [yielded,hd,Option.bind_some,he];subst hg;simp
theorem I9 {P:Program} {cev:Operand->Value} {o:Oper} {f:Operand} {args:Array Operand} {ats:Array TypeId} {g:FuncId} {us vs:Array Value} (ho:o.op=.call { callee:=.value f,args,argTypes:=ats })
 (hf:cev f=.func (.func g) us vs) (hb:uq P g) (w:World):(execOp cev o).run P w=.ok (.enter g (us++args.map cev++vs)) w:=by
 obtain ⟨fn,h1,h2,h3⟩:=hb;have h2':fn.body≠none:=by intro e;simp [e] at h2
 have h3' : fn.name ≠ "runtime.NumGoroutine" := by simpa using h3
 simp [execOp,ho,resolve,hf,Deferred.ofValue,invoke,callFunc,h1,h3',h2']
theorem tW (hr:Rel cx E B n ρ T h a w) {o:Oper} (hd:iP n o.dst=true) {c:FuncId×List aa} (hc:aI (aev cx.G T) o.op=some c) {K:aa->af->Prop} (hC:av cx c.1 c.2 h K)
 {next:Act->World->Prop} {Q:Exit->Act->World->Prop} (hn:∀ ρ' v h' a' w',Rel cx E B n ρ' (ci T o.dst v) h' a' w'->K v h'->next a' w'):o.wp cx.P a w next Q:=by
 unfold aI at hc;split at hc <;> try (simp at hc;done)
 rename_i f args ats ho;split at hc <;> try (simp at hc;done)
 rename_i g xs ys hf;simp only [Option.some.injEq] at hc;subst hc;have hv:=hr.eval f;rw [hf] at hv
 obtain ⟨us,vs,hce,hu,hvv⟩:∃ us vs,a.eval f=.func (.func g) us vs/\VRs ρ h w xs us/\VRs ρ h w ys vs:=by
  cases hce:a.eval f <;> rw [hce] at hv <;> cases hv
  exact ⟨_,_,rfl,⟨by assumption,by assumption⟩,⟨by assumption,by assumption⟩⟩
 unfold Oper.wp;rw [I9 ho hce hC.1];rw [Oper.upon_enter];refine (hC.2 ρ w _ hr.wf hr.glob ((hu.append (VRs.map (fun x=>hr.eval x) args)).append hvv)).mono ?_;rintro e w' ⟨ρ',cv,v,h',rfl,q,q1,q2,q3,q4⟩;exact hn ρ' v h' _ w' ((hr.step q2 q3 (hr.fr.comp q4)).put hd q1) q
theorem d8 {ops:Array Oper} {K:Tm->af->Prop}:∀ (os:List Oper) (k:Nat) (T:Tm) (h:af) (ρ:Ren) (a:Act) (w:World),ops.toList.drop k=os->Rel cx E B n ρ T h a w->td cx n ops os T h K ->
 wpOps cx.P ops (fun e a' w'=>e=.normal/\∃ ρ' T' h',Rel cx E B n ρ' T' h' a' w'/\K T' h') (List.range' k os.length) a w
 | [],k,T,h,ρ,a,w,_,hr,hk=>⟨rfl,ρ,T,h,hr,hk⟩
 | o::os,k,T,h,ρ,a,w,hd,hr,hk=>by
  have hk0:k<ops.toList.length:=by
   rcases Nat.lt_or_ge k ops.toList.length with h1|h1
   . exact h1
   . rw [List.drop_eq_nil_of_le h1] at hd;simp at hd
  have ho:ops[k]?=some o:=by
   rw [<- Array.getElem?_toList];rw [List.drop_eq_getElem_cons hk0] at hd
   grind
  have hdrop:ops.toList.drop (k+1)=os:=by
   rw [List.drop_eq_getElem_cons hk0] at hd;simp at hd;exact hd.2
  simp only [td] at hk;obtain ⟨hdst,hk⟩:=hk;rw [List.length_cons,List.range'_succ];simp only [wpOps,ho];split at hk
  . rename_i hg;rw [if_pos (eQ hr hg)];left;split at hk
    . rename_i r hop;rcases hk with hk|hk
      . obtain ⟨v,h'⟩:=r;obtain ⟨ρ',w',cv,hrun,q1,q2,q3,q4⟩:=vw (o:=o) (cev:=a.eval) hop hr.wf hr.fr (fun x=>hr.eval x);unfold Oper.wp;rcases hrun with e|⟨e,rfl⟩
        . rw [e,Oper.upon_value];exact d8 os (k+1) _ _ ρ' _ _ hdrop ((hr.step q2 q3 q4).put hdst q1) hk
        . rw [e,Oper.upon_skip];exact d8 os (k+1) _ _ ρ' _ _ hdrop ((hr.step q2 q3 q4).put hdst q1) hk
      . split at hk
        . rename_i q hbq;obtain ⟨ρ',w',cv,hrun,q1,q2,q3,q4⟩:=FD (o:=o) (cev:=a.eval) hbq hr.wf hr.fr (fun x=>hr.eval x);unfold Oper.wp;rcases hrun with e|⟨e,rfl⟩
          . rw [e,Oper.upon_value];exact d8 os (k+1) _ _ ρ' _ _ hdrop ((hr.step q2 q3 q4).put hdst q1) hk
          . rw [e,Oper.upon_skip];exact d8 os (k+1) _ _ ρ' _ _ hdrop ((hr.step q2 q3 q4).put hdst q1) hk
        . exact hk.elim
    . split at hk
      . rename_i c hc;exact tW hr hdst hc hk (fun ρ' v h' a' w' hr' q=>d8 os (k+1) _ _ ρ' _ _ hdrop hr' q)
      . split at hk
        . rename_i l hl;obtain ⟨r,hr1,ρ',w',cv,hrun,q1,q2,q3,q4⟩:=FT (o:=o) (cev:=a.eval) hl hr.wf hr.fr (fun x=>hr.eval x) (fun _=>rfl);have hk:=hk r hr1;unfold Oper.wp;rcases hrun with e|⟨e,rfl⟩
          . rw [e,Oper.upon_value];exact d8 os (k+1) _ _ ρ' _ _ hdrop ((hr.step q2 q3 q4).put hdst q1) hk
          . rw [e,Oper.upon_skip];exact d8 os (k+1) _ _ ρ' _ _ hdrop ((hr.step q2 q3 q4).put hdst q1) hk
        . exact hk.elim
  . rename_i hg;rw [if_neg (by rw [eQ hr hg];simp)];exact d8 os (k+1) _ _ ρ _ _ hdrop (hr.put hdst (.tup [] #[] rfl zq)) hk
  . exact hk.elim
theorem Gh {P:Program} {o:Oper} {a:Act} {next next':Act->World->Prop} {Q Q':Exit->Act->World->Prop} {r:Result Next} (hr:o.upon P a next Q r)
 (hn:∀ a w,next a w->next' a w) (hq:∀ e a w,Q e a w->Q' e a w):o.upon P a next' Q' r:=by
 unfold Oper.upon at hr ⊢;split at hr
 . exact hn _ _ hr
 . exact hn _ _ hr
 . exact hn _ _ hr
 . refine Calls.mono hr ?_;intro e w' h;cases e with
   | returned v=>exact hn _ _ h
   | panicked c=>exact hq _ _ _ h
   | outgrown=>obtain ⟨a',w',h⟩:=h;exact ⟨a',w',hq _ _ _ h⟩
 . exact Rows.mono hr fun v w' h=>hn _ _ h
 . exact hq _ _ _ hr
 . exact hr.elim
theorem kW {P:Program} {ops:Array Oper} {Q Q':Exit->Act->World->Prop} (hq:∀ e a w,Q e a w->Q' e a w):∀ (l:List Nat) (a:Act) (w:World),wpOps P ops Q l a w->wpOps P ops Q' l a w
 | [],a,w,h=>hq _ _ _ h
 | i::l,a,w,h=>by
  simp only [wpOps] at h ⊢;split at h
  . exact kW hq l a w h
  . split at h
    . rename_i hw;rw [if_pos hw];rcases h with h|⟨h,a',w',h'⟩
      . exact .inl (Gh h (fun a w=>kW hq l a w) hq)
      . exact .inr ⟨h,a',w',hq _ _ _ h'⟩
    . rename_i hw;rw [if_neg hw];exact kW hq l _ w h
theorem te {m:Nat} {Q:cP} {id:Nat} {ops:Array Oper} (hk:td cx n ops ops.toList T h (fun T' h'=>Q .normal T' h')):wpA cx n m (.region id ops false) Q T h:=by
 intro E B ρ a w hm hr;refine wp_region ?_;have:=d8 (E:=E) (B:=B) ops.toList 0 T h ρ a w zq hr hk;rw [List.range_eq_range'];simp only [Array.length_toList] at this;refine kW ?_ _ _ _ this
 grind
end
end
section
def gu (P:Program) (T:Tm) (h:af):List ResultVar->Option (List aa)
 | []=>some []
 | .tmp t::rs=>match gu P T h rs with
  | some l=>some (Tm.get T t::l)
  | none=>none
 | .cell a t::rs=>match nV h (Tm.get T a) with
  | some r=>match lh P t r.1 r.2 with
   | some x=>match gu P T h rs with
    | some l=>some (x::l)
    | none=>none
   | none=>none
  | none=>none
def p9 (tmps:Array Value):ResultVar->Sem Value
 | .tmp t=>pure (tmps.getD t undef)
 | .cell p t=>do loadVar t (<- asAddr (tmps.getD p undef))
def aZ:List aa->aa
 | [x]=>x
 | l=>.tup l
def lm:Nat->List aa->Tm
 | _,[]=>[]
 | k,x::xs=>(k,x)::lm (k+1) xs
section
variable {cx:Cx} {E:Ent} {B:p7} {n:Nat} {ρ:Ren} {T:Tm} {h:af} {a:Act} {w:World}
theorem nA (hr:Rel cx E B n ρ T h a w):∀ (rs:List ResultVar) (l:List aa),gu cx.P T h rs=some l ->
 ∃ vs:List Value,(rs.mapM (p9 a.tmps)).run cx.P w=.ok vs w /\
  vs.length=l.length/\∀ (i:Nat) x v,l[i]?=some x->vs[i]?=some v->VR ρ h w x v
 | [],l,hl=>by simp [gu] at hl;subst hl;exact ⟨[],by simp,rfl,by simp⟩
 | .tmp t::rs,l,hl=>by
  simp only [gu] at hl;split at hl <;> simp at hl;rename_i l' hl';subst hl;obtain ⟨vs,h1,h2,h3⟩:=nA hr rs l' hl';refine ⟨a.tmps.getD t undef::vs,?_,by simp [h2],?_⟩
  . rw [List.mapM_cons];simp only [Sem.run_bind,p9,Sem.run_pure,Result.andThen_ok];rw [h1];rfl
  . intro i x v hx hv;cases i with
    | zero=>simp only [List.getElem?_cons_zero,Option.some.injEq] at hx hv;subst hx hv;exact hr.tm t
    | succ i=>simp at hx hv;exact h3 i x v hx hv
 | .cell p t::rs,l,hl=>by
  simp only [gu] at hl;split at hl <;> try (simp at hl;done)
  rename_i r hv;split at hl <;> try (simp at hl;done)
  rename_i x hx;split at hl <;> simp at hl;rename_i l' hl';subst hl;obtain ⟨vs,h1,h2,h3⟩:=nA hr rs l' hl';obtain ⟨cs,off⟩:=r;obtain ⟨b,base,hb,hc⟩:=qw hr.wf (hr.tm p) hv;obtain ⟨u,g1,g2⟩:=rl (P:=cx.P) hx hc;have g1':(loadVar t ⟨b,base+off,none⟩).run cx.P w=.ok u w:=by simpa [Instr.loadAt,Instr.sureAddr] using g1
  refine ⟨u::vs,?_,by simp [h2],?_⟩
  . rw [List.mapM_cons];have hrv:(p9 a.tmps (.cell p t)).run cx.P w=.ok u w:=by simp only [p9,Sem.run_bind,hb,asAddr,Sem.run_pure,Result.andThen_ok,g1']
    simp only [Sem.run_bind,hrv,Sem.run_pure,Result.andThen_ok,h1]
  . grind
theorem nd (hr:Rel cx E B n ρ T h a w) {fn:Func} {l:List aa} (hl:gu cx.P T h fn.results.toList=some l) :
 ∃ v,(results fn a.tmps).run cx.P w=.ok v w/\VR ρ h w (aZ l) v:=by
 obtain ⟨vs,h1,h2,h3⟩:=nA hr _ l hl
 have hm:(fn.results.mapM (p9 a.tmps)).run cx.P w=.ok vs.toArray w:=by
  rw [Array.mapM_eq_mapM_toList,Sem.run_map,h1];simp
 have hres:(results fn a.tmps).run cx.P w=.ok (if hh:vs.toArray.size=1 then vs.toArray[0] else .tuple vs.toArray) w:=by
  have e:results fn a.tmps=(do let vs <- fn.results.mapM (p9 a.tmps);pure (if h:vs.size=1 then vs[0] else .tuple vs):Sem Value):=by
   unfold results;congr 2
  rw [e,Sem.run_bind,hm];rfl
 refine ⟨_,hres,?_⟩
 match l,vs,h2,h3 with
 | [],[],_,_=>exact .tup _ _ rfl zq
 | [x],[v],_,h3=>simpa [aZ] using h3 0 x v rfl rfl
 | x::y::l,u::v::vs,h2,h3 =>
  have:¬ ((u::v::vs).toArray.size=1):=by simp
  rw [dif_neg this];exact .tup _ _ (by simpa using h2) (fun i a b ha hb=>h3 i a b ha (by simpa using hb))
theorem mL:∀ (xs:List aa) (k t:Nat),Tm.get (lm k xs) t=if k<=t then (xs[t - k]?).getD .any else .any
 | [],k,t=>by simp [lm,Tm.get]
 | x::xs,k,t=>by
  simp only [lm,Tm.get,mL xs (k+1) t]
  grind
theorem Fr.refl (ρ:Ren) (h:af) (w:World):Fr ⟨w,ρ.I,gV ρ h⟩ ρ h w :=
 ⟨rfl,rfl,rfl,Nat.le_refl _,fun _ _ _=>rfl,fun _ _ h=>⟨h,rfl⟩,fun _ _ h _=>.inl h,fun o x h1 h2 _=>⟨o,x,h1,h2,rfl⟩⟩
theorem iW {f:FuncId} {fn:Func} {c:Code} {args:List aa} {Q:aa->af->Prop} (hf:cx.P.funcs[f]?=some fn) (hb:fn.body=some c)
 (hn : (fn.name == "runtime.NumGoroutine") = false) (hsz : args.length ≤ fn.ntmps)
 (hw:wpA cx fn.ntmps h.length c (fun e T' h'=>(e=.normal\/e=.ret)/\∃ l,gu cx.P T' h' fn.results.toList=some l /\
  ∃ j,h.length<=j/\(aZ l).bel j=true/\(h'.take j).all (am.belO j)=true/\Q (aZ l) (h'.take j)) (lm 0 args) h):av cx f args h Q:=by
 refine ⟨⟨fn,hf,by simp [hb],hn⟩,fun ρ w cargs wf hg hv=>?_⟩;refine calls_of_wp hf hb ?_
 have hrel:Rel cx ⟨w,ρ.I,gV ρ h⟩ ⟨ρ,h,w⟩ fn.ntmps ρ (lm 0 args) h { tmps:=cargs++Array.replicate (fn.ntmps - cargs.size) undef,defers:=[] } w:=by
  refine ⟨fun t=>?_,by simp [hv.1];omega,rfl,hg,wf,Fr.refl ρ h w,Le.refl _ _ _⟩;rw [mL,if_pos (Nat.zero_le _),Nat.sub_zero];by_cases ht:t<args.length
  . have hx:=List.getElem?_eq_getElem ht;rw [hx];have ht':t<cargs.size:=by rw [hv.1];exact ht
    have e:(cargs++Array.replicate (fn.ntmps - cargs.size) undef).getD t undef=cargs[t]:=by
     simp [Array.getD_eq_getD_getElem?,Array.getElem?_append_left ht',ht']
    rw [e];exact hv.2 t _ _ hx (by simp [ht'])
  . rw [List.getElem?_eq_none oq];exact .any _
 refine wp_mono (hw _ _ ρ _ w rfl hrel) ?_;rintro e a' w' ⟨ρ',T',h',r,he,l,hl,j,hj,hbv,hbo,hq⟩;obtain ⟨v,g1,g2⟩:=nd r hl
 have post:a'.defers=[]/\∃ v,(results fn a'.tmps).run cx.P w'=.ok v w' /\
  ∃ ρ' cv v' h',Ending.returned v=.returned cv/\Q v' h'/\VR ρ' h' w' v' cv/\WF ρ' h' w'/\Le ρ h w ρ' h' w'/\Fr ⟨w,ρ.I,gV ρ h⟩ ρ' h' w' :=
  ⟨r.defers,v,g1,ρ',v,_,_,rfl,hq,g2.take hbv,r.wf.take j hbo,r.le.take j hj,r.fr.take j⟩
 rcases he with rfl|rfl
 . exact post
 . exact post
theorem lR {f:FuncId} {fn:Func} {c:Code} {args:List aa} {Q:aa->af->Prop} (hf:cx.P.funcs[f]?=some fn) (hb:fn.body=some c)
 (hn : (fn.name == "runtime.NumGoroutine") = false) (hsz : args.length ≤ fn.ntmps)
 (hw:wpA cx fn.ntmps h.length c (fun e T' h'=>(e=.normal\/e=.ret)/\∃ l,gu cx.P T' h' fn.results.toList=some l /\
  ∃ j,h.length<=j/\((aZ l).frz h').bel j=true/\((db h' (aZ l).owns).take j).all (am.belO j)=true/\Q ((aZ l).frz h') ((db h' (aZ l).owns).take j)) (lm 0 args) h):av cx f args h Q:=by
 refine ⟨⟨fn,hf,by simp [hb],hn⟩,fun ρ w cargs wf hg hv=>?_⟩;refine calls_of_wp hf hb ?_
 have hrel:Rel cx ⟨w,ρ.I,gV ρ h⟩ ⟨ρ,h,w⟩ fn.ntmps ρ (lm 0 args) h { tmps:=cargs++Array.replicate (fn.ntmps - cargs.size) undef,defers:=[] } w:=by
  refine ⟨fun t=>?_,by simp [hv.1];omega,rfl,hg,wf,Fr.refl ρ h w,Le.refl _ _ _⟩;rw [mL,if_pos (Nat.zero_le _),Nat.sub_zero];by_cases ht:t<args.length
  . have hx:=List.getElem?_eq_getElem ht;rw [hx];have ht':t<cargs.size:=by rw [hv.1];exact ht
    have e:(cargs++Array.replicate (fn.ntmps - cargs.size) undef).getD t undef=cargs[t]:=by
     simp [Array.getD_eq_getD_getElem?,Array.getElem?_append_left ht',ht']
    rw [e];exact hv.2 t _ _ hx (by simp [ht'])
  . rw [List.getElem?_eq_none oq];exact .any _
 refine wp_mono (hw _ _ ρ _ w rfl hrel) ?_;rintro e a' w' ⟨ρ',T',h',r,he,l,hl,j,hj,hbv,hbo,hq⟩;obtain ⟨v,g1,g2⟩:=nd r hl;obtain ⟨ρ2,q1,q2,q3,q4⟩:=fe (aZ l).owns r.wf r.fr;have g3:=g2.frz q2 q4 (fun o ho=>ho)
 have post:a'.defers=[]/\∃ v,(results fn a'.tmps).run cx.P w'=.ok v w' /\
  ∃ ρ' cv v' h',Ending.returned v=.returned cv/\Q v' h'/\VR ρ' h' w' v' cv/\WF ρ' h' w'/\Le ρ h w ρ' h' w'/\Fr ⟨w,ρ.I,gV ρ h⟩ ρ' h' w' :=
  ⟨r.defers,v,g1,ρ2,v,_,_,rfl,hq,g3.take hbv,q1.take j hbo,(r.le.trans q2).take j hj,q3.take j⟩
 rcases he with rfl|rfl
 . exact post
 . exact post
def ae (cx:Cx) (f:FuncId) (args:List aa) (v:aa):Prop:=av cx f args [] fun v' h'=>v'=v/\h'=[]
theorem VRs.get {xs:List aa} {vs:Array Value} (hx:VRs ρ h w xs vs):∀ (i:Nat) x v,xs[i]?=some x->vs[i]?=some v->VR ρ h w x v:=hx.2
theorem jy {f:FuncId} {args:List aa} {v:aa} {K:aa->af->Prop} (hc:ae cx f (aN h args) v) (hb:aC 0 (aN h args)=true) (hk:K v (db h (aF args))) :
 av cx f args h K:=by
 refine ⟨hc.1,fun ρ w cargs wf hg hv=>?_⟩;obtain ⟨ρ1,q1,q2,q3,q4⟩:=fe (aF args) wf (Fr.refl ρ h w)
 have hv1:VRs ρ1 [] w (aN h args) cargs:=by
  refine ⟨by rw [hv.1,cm];simp,fun i x u hx hu=>?_⟩;have hbx:=ch hb hx;rw [cm] at hx;simp at hx;obtain ⟨y,hy,rfl⟩:=hx;have:=(hv.2 i y u hy hu).frz q2 q4 (fun o ho=>dO hy o ho);simpa using this.take hbx
 have wf0:WF ρ1 [] w:=by
  have:=q1.take 0 zq;simpa using this
 refine (hc.2 ρ1 w cargs wf0 (fun g cs hg'=>(hg g cs hg').nil_mono q2) hv1).mono ?_;rintro e w' ⟨ρ2,cv,v',h',rfl,⟨rfl,rfl⟩,r1,r2,r3,r4⟩
 have hst:=l6 (w':=w') q1 q3 ρ2.I r4.os r4.tape r4.output r4.size (fun b hb=>r4.keep b hb (by rintro ⟨o,x,hx,_⟩;simp at hx)) (fun b j hI=>(r3.imm b j hI).1)
  (fun b j hI=>by
   by_cases hb:b<w.heap.size
   . rcases r4.new b j hI hb with g|⟨o,x,hx,_⟩
     . exact .inl g
     . simp at hx
   . exact .inr ⟨by omega,r2.immlt b j hI⟩)
 exact ⟨⟨ρ1.loc,ρ2.I⟩,cv,v',_,rfl,hk,r1.of_nil (ρ':=⟨ρ1.loc,ρ2.I⟩) (fun _ _ h=>h) _,hst.1,q2.trans hst.2.1,hst.2.2⟩
end
end
section
def aa.top:aa->List Nat
 | .ptr o _=>[o]
 | .pown o _ _ _=>[o]
 | .own o _ _=>[o]
 | .map o=>[o]
 | .itr o=>[o]
 | _=>[]
def Q9:List aa->List Nat
 | []=>[]
 | x::xs=>x.top++Q9 xs
def ard (ev:Operand->aa):Op->List Nat
 | .load _ a=>(ev a).top
 | .store _ a _=>(ev a).top
 | .slice _ x _ _ _=>(ev x).top
 | .fieldAddr _ x _=>(ev x).top
 | .indexAddr _ x _=>(ev x).top
 | .lookup _ m _ _=>(ev m).top
 | .mapUpdate _ m _ _=>(ev m).top
 | .insert _ m _ _=>(ev m).top
 | .call { callee:=.builtin _,args,argTypes:=_ }=>Q9 (ju ev args.toList)
 | _=>[]
def awr (h:af) (ev:Operand->aa):Op->List Nat
 | .store _ a _=>(ev a).top
 | .mapUpdate _ m _ _=>(ev m).top
 | .insert _ m _ _=>(ev m).top
 | .alloc _=>[h.length]
 | .box _ _=>[h.length]
 | .makeMap _ _=>[h.length]
 | .call { callee:=.builtin .append,args,argTypes:=_ }=>match ju ev args.toList with
  | .own o _ _::_=>[o]
  | _=>[h.length]
 | _=>[]
section
variable {P:Program}
theorem kX {ev ev':Operand->aa}:∀ {l:List Operand},(∀ x∈l,ev x=ev' x)->ju ev l=ju ev' l
 | [],_=>rfl
 | x::l,h=>by simp [ju,h x zq,kX (l:=l) (fun y hy=>h y (by simp [hy]))]
theorem kI {ev ev':Operand->aa}:∀ {l:List (Nat×Operand)},(∀ p∈l,ev p.2=ev' p.2)->eG ev l=eG ev' l
 | [],_=>rfl
 | p::l,h=>by simp [eG,h p zq,kI (l:=l) (fun y hy=>h y (by simp [hy]))]
theorem Gp {h:af} {ev ev':Operand->aa} {op:Op} (he:∀ x∈op.operands,ev x=ev' x):aop P h ev op=aop P h ev' op/\ard ev op=ard ev' op/\awr h ev op=awr h ev' op/\aI ev op=aI ev' op:=by
 cases op <;> simp only [Op.operands] at he <;> try (simp [aop,ard,awr,aI];done)
 case move x=>simp [aop,ard,awr,aI,he x zq]
 case assign x=>simp [aop,ard,awr,aI,he x zq]
 case pick c a b=>simp [aop,ard,awr,aI,he c zq,he a zq,he b zq]
 case box t x=>simp [aop,ard,awr,aI,he x zq]
 case build t ps =>
  have:eG ev ps.toList=eG ev' ps.toList:=kI fun p hp=>he p.2 (by simp;exact ⟨p.1,by simpa using hp⟩)
  simp [aop,ard,awr,aI,this]
 case buildSlice t n ps =>
  have:eG ev ps.toList=eG ev' ps.toList:=kI fun p hp=>he p.2 (by simp;exact ⟨p.1,by simpa using hp⟩)
  simp [aop,ard,awr,aI,this]
 case load t a=>simp [aop,ard,awr,aI,he a zq]
 case store t a x=>simp [aop,ard,awr,aI,he a zq,he x zq]
 case nilCheck x=>simp [aop,ard,awr,aI,he x zq]
 case binOp op t x y t'=>simp [aop,ard,awr,aI,he x zq,he y zq]
 case unOp op t x=>simp [aop,ard,awr,aI,he x zq]
 case convert s d x=>simp [aop,ard,awr,aI,he x zq]
 case makeFunc f xs ys =>
  have h1:ju ev xs.toList=ju ev' xs.toList:=kX fun x hx=>he x (by simp;exact .inl (by simpa using hx))
  have h2:ju ev ys.toList=ju ev' ys.toList:=kX fun x hx=>he x (by simp;exact .inr (by simpa using hx))
  simp [aop,ard,awr,aI,h1,h2]
 case makeMap t r=>cases r <;> simp [aop,ard,awr,aI]
 case slice t x lo hi mx =>
  have hx:=he x zq;have hlo:o4 ev lo=o4 ev' lo:=by cases lo <;> simp [o4];exact he _ zq
  have hhi:o4 ev hi=o4 ev' hi:=by cases hi <;> simp [o4];exact he _ zq
  cases mx <;> simp [aop,ard,awr,aI,hx,hlo,hhi]
 case fieldAddr s x f=>simp [aop,ard,awr,aI,he x zq]
 case field s x f=>simp [aop,ard,awr,aI,he x zq]
 case indexAddr t x i=>simp [aop,ard,awr,aI,he x zq,he i zq]
 case index t x i=>simp [aop,ard,awr,aI,he x zq,he i zq]
 case lookup t x i ok=>simp [aop,ard,awr,aI,he x zq,he i zq]
 case mapUpdate t x i v=>simp [aop,ard,awr,aI,he x zq,he i zq,he v zq]
 case insert t x i v=>simp [aop,ard,awr,aI,he x zq,he i zq,he v zq]
 case extract t i=>simp [aop,ard,awr,aI,he t zq]
 case call c =>
  obtain ⟨callee,args,ats⟩:=c;have h1:ju ev args.toList=ju ev' args.toList:=kX fun x hx=>he x (by simp [Call.operands];exact .inr (by simpa using hx))
  cases callee with
  | value f=>simp [aop,ard,awr,aI,h1,he f (by simp [Call.operands])]
  | invoke r s=>simp [aop,ard,awr,aI]
  | builtin b=>cases b <;> simp [aop,ard,awr,aI,h1]
theorem s9 {α:Type} (l:List α) (x:α) (o o':Nat) (h:o'∉[o]):(l.set o x)[o']?=l[o']?:=aY _ _ _ _ (by simpa using h)
theorem lL {α:Type} (l:List α) (x:α) (o':Nat) (h:o'∉[l.length]):(l++[x])[o']?=l[o']?:=bE _ _ _ (by simpa using h)
theorem zk {h h':af} {t:TypeId} {p x:aa} (hs:fc P h t p x=some h'):∀ o,o∉p.top->h'[o]?=h[o]?:=by
 unfold fc at hs;split at hs <;> try (simp at hs;done)
 split at hs <;> try (simp at hs;done)
 split at hs <;> try (simp at hs;done)
 . split at hs <;> try (simp at hs;done)
   split at hs <;> simp at hs;subst hs;intro o ho;exact s9 _ _ _ _ (by simpa [aa.top] using ho)
 . split at hs <;> try (simp at hs;done)
   split at hs <;> try (simp at hs;done)
   split at hs <;> try (simp at hs;done)
   split at hs <;> try (simp at hs;done)
   split at hs <;> simp at hs;subst hs;intro o ho;exact s9 _ _ _ _ (by simpa [aa.top] using ho)
theorem k9 {h h':af} {t:TypeId} {m k v:aa} (hs:cW P h t m k v=some h'):∀ o,o∉m.top->h'[o]?=h[o]?:=by
 unfold cW at hs;split at hs <;> try (simp at hs;done)
 split at hs <;> try (simp at hs;done)
 split at hs <;> try (simp at hs;done)
 split at hs <;> try (simp at hs;done)
 split at hs <;> try (simp at hs;done)
 split at hs <;> try (simp at hs;done)
 split at hs <;> simp at hs <;> subst hs <;> (intro o ho;exact s9 _ _ _ _ (by simpa [aa.top] using ho))
theorem P4 {h h':af} {ev:Operand->aa} {op:Op} {v:aa} (hq:aop P h ev op=some (v,h')):(∀ o,o∉awr h ev op->h'[o]?=h[o]?)/\(awr h ev op=[]->h'=h):=by
 have same:h'=h->(∀ o,o∉awr h ev op->h'[o]?=h[o]?)/\(awr h ev op=[]->h'=h):=fun e=>⟨fun _ _=>by rw [e],fun _=>e⟩
 cases op <;> simp only [aop] at hq <;> try (simp at hq;done)
 case move x=>simp at hq;exact same hq.2.symm
 case assign x=>simp at hq;exact same hq.2.symm
 case pick c a b=>split at hq <;> simp at hq;exact same hq.2.symm
 case alloc t=>split at hq <;> simp at hq;refine ⟨fun o ho=>?_,by simp [awr]⟩;rw [<- hq.2];exact lL _ _ _ (by simpa [awr] using ho)
 case box t x=>split at hq <;> simp at hq;refine ⟨fun o ho=>?_,by simp [awr]⟩;rw [<- hq.2];exact lL _ _ _ (by simpa [awr] using ho)
 case build t ps=>exact same (a8 hq).2
 case buildSlice t n ps=>exact same (a8 hq).2
 case load t a => split at hq <;> try (simp at hq;done)
                  exact same (a8 hq).2
 case store t a x =>
  have hs:=(eR hq).1;refine ⟨fun o ho=>zk hs o (by simpa [awr] using ho),fun hw=>?_⟩;exfalso;simp only [awr] at hw;unfold fc at hs;split at hs <;> try (simp at hs;done)
  split at hs <;> try (simp at hs;done)
  split at hs <;> try (simp at hs;done)
  . rename_i e;rw [e] at hw;simp [aa.top] at hw
  . rename_i e;rw [e] at hw;simp [aa.top] at hw
 case nilCheck x=>split at hq <;> simp at hq <;> exact same hq.2.symm
 case binOp op t x y t2=>exact same (a8 hq).2
 case unOp op t x=>exact same (a8 hq).2
 case convert s d x=>exact same (a8 hq).2
 case makeFunc f xs ys=>simp at hq;exact same hq.2.symm
 case makeMap t r=>cases r <;> simp at hq;refine ⟨fun o ho=>?_,by simp [awr]⟩;rw [<- hq.2];exact lL _ _ _ (by simpa [awr] using ho)
 case slice t x lo hi mx=>cases mx <;> simp at hq;exact same (a8 hq).2
 case fieldAddr s x f=>exact same (a8 hq).2
 case field s x f=>exact same (a8 hq).2
 case indexAddr t x i => split at hq <;> try (simp at hq;done)
                         exact same (a8 hq).2
 case index t x i => split at hq <;> try (simp at hq;done)
                     exact same (a8 hq).2
 case lookup t m k ok=>exact same (a8 hq).2
 case mapUpdate t m k x =>
  have hs:=(eR hq).1;refine ⟨fun o ho=>k9 hs o (by simpa [awr] using ho),fun hw=>?_⟩;exfalso;simp only [awr] at hw;unfold cW at hs;split at hs <;> try (simp at hs;done)
  split at hs <;> try (simp at hs;done)
  split at hs <;> try (simp at hs;done)
  split at hs <;> try (simp at hs;done)
  rename_i e;rw [e] at hw;simp [aa.top] at hw
 case insert t m k x =>
  have hs:=(eR hq).1;refine ⟨fun o ho=>k9 hs o (by simpa [awr] using ho),fun hw=>?_⟩;exfalso;simp only [awr] at hw;unfold cW at hs;split at hs <;> try (simp at hs;done)
  split at hs <;> try (simp at hs;done)
  split at hs <;> try (simp at hs;done)
  split at hs <;> try (simp at hs;done)
  rename_i e;rw [e] at hw;simp [aa.top] at hw
 case extract t i=>exact same (a8 hq).2
 case call c =>
  obtain ⟨callee,args,ats⟩:=c;cases callee <;> simp only at hq <;> try (simp at hq;done)
  rename_i b;unfold dT at hq;split at hq <;> try (simp at hq;done)
  . grind
  . rename_i t t' s x e1 e2;unfold kE at hq;split at hq <;> try (simp at hq;done)
    split at hq <;> try (simp at hq;done)
    split at hq <;> try (simp at hq;done)
    split at hq <;> try (simp at hq;done)
    split at hq <;> try (simp at hq;done)
    split at hq <;> try (simp at hq;done)
    split at hq <;> try (simp at hq;done)
    . split at hq <;> simp at hq;have hw:awr h ev (.call { callee:=.builtin .append,args,argTypes:=ats })=[h.length]:=by simp [awr,e2]
      grind
    . split at hq <;> try (simp at hq;done)
      split at hq <;> simp at hq;rename_i o' _ _ _ _ _ _ _;have hw:awr h ev (.call { callee:=.builtin .append,args,argTypes:=ats })=[o']:=by simp [awr,e2]
      grind
  . exact same (a8 hq).2
  . exact same (a8 hq).2
theorem d7 {o o':Option aa} {h g:af} {v:aa} {h':af} (hq:dI h o=some (v,h')) (e:o=o'):dI g o'=some (v,g):=by
 subst e;obtain ⟨q,_⟩:=a8 hq;rw [q];rfl
theorem Gw {h g:af} {p:aa} (he:∀ o∈p.top,g[o]?=h[o]?):nV g p=nV h p:=by
 cases p <;> simp [nV,aa.top] at he ⊢ <;> simp [he]
theorem tR {h g:af} {p:aa} {d:Nat} (he:∀ o∈p.top,g[o]?=h[o]?):k4 g p d=k4 h p d:=by
 cases p <;> simp [k4,aa.top] at he ⊢ <;> simp [he]
theorem HZ {h g:af} {p:aa} (he:∀ o∈p.top,g[o]?=h[o]?):xN g p=xN h p:=by
 cases p <;> simp [xN,aa.top] at he ⊢ <;> simp [he]
theorem Ca {h g:af} {t:TypeId} {x:aa} {lo hi:Option aa} (he:∀ o∈x.top,g[o]?=h[o]?):iS P g t x lo hi=iS P h t x lo hi:=by
 unfold iS;cases aP P t with
 | none=>rfl
 | some i =>
  simp only;cases i.k <;> cases x <;> first|rfl|(simp only [aa.top,List.mem_singleton,forall_eq] at he;simp only [he])
theorem sA {h g:af} {t:TypeId} {x:aa} {n:Int} (he:∀ o∈x.top,g[o]?=h[o]?):dD P g t x n=dD P h t x n:=by
 unfold dD;cases aP P t with
 | none=>rfl
 | some i =>
  simp only;cases i.k with
  | slice e=>cases x <;> first|rfl|(simp only [aa.top,List.mem_singleton,forall_eq] at he;simp only [he])
  | array m e=>simp only [fun d=>tR (d:=d) he]
  | _=>rfl
theorem AD {h g:af} {t:TypeId} {m k:aa} {ok:Bool} (he:∀ o∈m.top,g[o]?=h[o]?):ir P g t m k ok=ir P h t m k ok:=by
 unfold ir;cases m <;> first|rfl|(simp only [aa.top,List.mem_singleton,forall_eq] at he;simp only [he])
theorem Ok {h g h':af} {ev:Operand->aa} {op:Op} {v:aa} (hq:aop P h ev op=some (v,h')) (hw:awr h ev op=[]) (he:∀ o∈ard ev op,g[o]?=h[o]?):aop P g ev op=some (v,g):=by
 cases op <;> simp only [aop] at hq ⊢ <;> try (simp at hq;done)
 case move x=>simp at hq ⊢;exact hq.1
 case assign x=>simp at hq ⊢;exact hq.1
 case pick c a b=>split at hq <;> simp at hq ⊢;exact hq.1
 case alloc t=>simp [awr] at hw
 case box t x=>simp [awr] at hw
 case build t ps=>exact d7 hq rfl
 case buildSlice t n ps=>exact d7 hq rfl
 case load t a =>
  simp only [ard] at he;rw [Gw he];split at hq <;> try (simp at hq;done)
  exact d7 hq rfl
 case store t a x =>
  have hs:=(eR hq).1;exfalso;simp only [awr] at hw;unfold fc at hs;split at hs <;> try (simp at hs;done)
  split at hs <;> try (simp at hs;done)
  split at hs <;> try (simp at hs;done)
  . rename_i e;rw [e] at hw;simp [aa.top] at hw
  . rename_i e;rw [e] at hw;simp [aa.top] at hw
 case nilCheck x=>split at hq <;> simp at hq ⊢ <;> exact hq.1
 case binOp op t x y t2=>exact d7 hq rfl
 case unOp op t x=>exact d7 hq rfl
 case convert s d x=>exact d7 hq rfl
 case makeFunc f xs ys=>simp at hq ⊢;exact hq.1
 case makeMap t r=>cases r <;> simp [awr] at hw
 case slice t x lo hi mx =>
  cases mx <;> simp at hq ⊢
  simp only [ard] at he;exact d7 hq (Ca he).symm
 case fieldAddr s x f =>
  simp only [ard] at he;refine d7 hq ?_;unfold gm;simp only [fun d=>tR (d:=d) he]
 case field s x f=>exact d7 hq rfl
 case indexAddr t x i =>
  simp only [ard] at he;split at hq <;> try (simp at hq;done)
  exact d7 hq (sA he).symm
 case index t x i =>
  split at hq <;> try (simp at hq;done)
  exact d7 hq rfl
 case lookup t m k ok =>
  simp only [ard] at he;exact d7 hq (AD he).symm
 case mapUpdate t m k x =>
  have hs:=(eR hq).1;exfalso;simp only [awr] at hw;unfold cW at hs;split at hs <;> try (simp at hs;done)
  split at hs <;> try (simp at hs;done)
  split at hs <;> try (simp at hs;done)
  split at hs <;> try (simp at hs;done)
  rename_i e;rw [e] at hw;simp [aa.top] at hw
 case insert t m k x =>
  have hs:=(eR hq).1;exfalso;simp only [awr] at hw;unfold cW at hs;split at hs <;> try (simp at hs;done)
  split at hs <;> try (simp at hs;done)
  split at hs <;> try (simp at hs;done)
  split at hs <;> try (simp at hs;done)
  rename_i e;rw [e] at hw;simp [aa.top] at hw
 case extract t i=>exact d7 hq rfl
 case call c =>
  obtain ⟨callee,args,ats⟩:=c;cases callee <;> simp only at hq ⊢ <;> try (simp at hq;done)
  rename_i b;simp only [ard] at he;unfold dT at hq ⊢;split at hq <;> try (simp at hq;done)
  . rename_i t x e1 e2;rw [e2] at he;simp only [Q9,List.append_nil] at he;rw [HZ he];split at hq <;> try (simp at hq;done)
    grind
  . rename_i t t' s x e1 e2;exfalso;simp only [awr,e2] at hw
    grind
  . exact d7 hq rfl
  . exact d7 hq rfl
end
end
section
def fv:Op->Bool
 | .alloc _=>true
 | .box _ _=>true
 | _=>false
def apl (P:Program) (ev:Operand->aa):Op->Option (List aa)
 | .alloc t=>match aP P t with
  | some i=>some i.zero.cells
  | none=>none
 | .box _ x=>if (ev x).isAny=true then none else some (ev x).cells
 | _=>none
def nAl:List Oper->Nat
 | []=>0
 | o::os=>bif fv o.op then nAl os+1 else nAl os
def hP:Nat->af
 | 0=>[]
 | n+1=>.hole::hP n
def lQ (h:af) (k:Nat):Bool:=match h[k]? with
 | some .hole=>true
 | _=>false
theorem yW {h:af} {k:Nat} (hk:lQ h k=true):h[k]?=some .hole:=by
 unfold lQ at hk
 grind
theorem wb:∀ (n i:Nat) (x:am),(hP n)[i]?=some x->x=.hole
 | 0,i,x,h=>by simp [hP] at h
 | n+1,0,x,h=>by simp [hP] at h;exact h.symm
 | n+1,i+1,x,h=>by simp [hP] at h;exact wb n i x h
section
variable {E:Ent} {ρ:Ren} {h:af} {w:World} {P:Program}
theorem Fp {ev ev':Operand->aa} {op:Op} (he:∀ x∈op.operands,ev x=ev' x):apl P ev op=apl P ev' op:=by
 cases op <;> simp only [Op.operands] at he <;> try rfl
 case box t x=>simp [apl,he x zq]
theorem mw {n o:Nat} {x:am} (hx:(h++hP n)[o]?=some x) (hb:x≠.hole):h[o]?=some x:=by
 by_cases hlt:o<h.length
 . grind
 . rw [List.getElem?_append_right oq] at hx;exact absurd (wb _ _ _ hx) hb
theorem KE {n o:Nat} {x:am} (hx:h[o]?=some x):(h++hP n)[o]?=some x:=by
 grind
theorem Bo (n:Nat):Le ρ h w ρ (h++hP n) w :=
 ⟨fun o x hx=>⟨x,KE hx,x.grows_refl _⟩,fun _ _ h=>⟨h,rfl⟩⟩
theorem Hx (wf:WF ρ h w) (n:Nat):WF ρ (h++hP n) w:=by
 have nb:∀ (x:am) l,x.hasBlk l=true->x≠.hole:=by rintro x l hb rfl;simp [am.hasBlk] at hb
 refine ⟨?_,?_,?_,wf.immlt,?_⟩
 . intro o x hx;by_cases e:x=.hole
   . subst e;trivial
   . have h0:=mw hx e;refine (wf.obj o x h0).mono (Bo n) (fun _=>rfl) ?_;intro m left e2;subst e2;obtain ⟨_,_,_,_,es,ms,clock,g1,g2,_⟩:=wf.obj o _ h0
     grind
 . intro o x o' x' h1 h2 b1 b2 e;exact wf.inj o x o' x' (mw h1 (nb _ _ b1)) (mw h2 (nb _ _ b2)) b1 b2 e
 . intro o x h1 b1;exact wf.lt o x (mw h1 (nb _ _ b1)) b1
 . intro o x j h1 b1 hI;exact wf.imm o x j (mw h1 (nb _ _ b1)) b1 hI
theorem I3 (fr:Fr E ρ h w) (n:Nat):Fr E ρ (h++hP n) w:=by
 have nb:∀ (x:am) l,x.hasBlk l=true->x≠.hole:=by rintro x l hb rfl;simp [am.hasBlk] at hb
 exact ⟨fr.os,fr.tape,fr.output,fr.size,fr.keep,fr.imm,fr.new,fun o x hx hb=>fr.own o x (mw hx (nb _ _ hb)) hb⟩
theorem FO {cx:Cx} {B:p7} {n:Nat} {T:Tm} {a:Act} (hr:Rel cx E B n ρ T h a w) (k:Nat):Rel cx E B n ρ T (h++hP k) a w :=
 hr.step (Hx hr.wf k) (Bo k) (I3 hr.fr k)
theorem rJ (wf:WF ρ h w) {o:Nat} (hb:h[o]?=some .hole):∀ (o' m:Nat) left,o'≠o->h[o']?=some (.iter m left)->m≠o:=by
 intro o' m left _ ho e;obtain ⟨_,_,_,_,es,_,_,g,_⟩:=wf.obj o' _ ho
 grind
theorem Dw (wf:WF ρ h w) (fr:Fr E ρ h w) {k:Nat} (hk:h[k]?=some .hole) (cs:List aa) (c:Array Value) (t:TypeId) (hl:c.size=cs.length)
 (hc:∀ (i:Nat) x v,cs[i]?=some x->c[i]?=some v->VR ρ h w x v) :
 ∃ ρ',WF ρ' (h.set k (.box cs)) (w.alloc (.cells c t))/\Le ρ h w ρ' (h.set k (.box cs)) (w.alloc (.cells c t))/\Fr E ρ' (h.set k (.box cs)) (w.alloc (.cells c t)) /\
  (ρ'.loc k).blk=w.heap.size:=by
 have hlt:k<h.length:=(List.getElem?_eq_some_iff.1 hk).1;refine ⟨ρ.put k ⟨w.heap.size,0,0⟩ ρ.I,?_⟩
 have:=ce (h':=h.set k (.box cs)) (w':=w.alloc (.cells c t)) wf fr k (.box cs) ⟨w.heap.size,0,0⟩ ρ.I (by simp [hlt]) (fun o' ho=>aY _ _ _ _ ho)
  rfl rfl rfl zq (fun b hb _=>heap_alloc_old w _ b hb) (by intro x hx;rw [hk] at hx;cases hx;trivial)
  (fun b j hI=>⟨hI,bB (heap_alloc_old w _ b (wf.immlt b j hI)) j⟩) (fun b j hI=>.inl hI)
  (fun _=>.inl ⟨Nat.le_refl _,by simp⟩) (fun j _ hI=>absurd (wf.immlt _ j hI) zq)
  (rJ wf hk)
  (fun le=>⟨c,t,heap_alloc_new w _,hl,fun i x v a b=>(hc i x v a b).mono le⟩)
 exact ⟨this.1,this.2.1,this.2.2,by rw [Ren.put_same]⟩
theorem Gm {ev:Operand->aa} {cev:Operand->Value} {o:Oper} {cs:List aa} {k:Nat} (hq:apl P ev o.op=some cs) (hk:h[k]?=some .hole) (wf:WF ρ h w) (fr:Fr E ρ h w)
 (hev:∀ x,VR ρ h w (ev x) (cev x)):cC E ρ h w (.ptr k 0) (h.set k (.box cs)) ((execOp cev o).run P w):=by
 obtain ⟨dst,op,ty,pos,after,guard⟩:=o;have hlt:k<h.length:=(List.getElem?_eq_some_iff.1 hk).1;cases op <;> simp only [apl] at hq <;> try (simp at hq;done)
 case alloc t =>
  split at hq <;> simp at hq;rename_i i ht;subst hq;obtain ⟨z,hz,hcz⟩:=ff (ρ:=ρ) (h:=h) (w:=w) ht;obtain ⟨ρ',g1,g2,g3,g4⟩:=Dw wf fr hk i.zero.cells z.cells t hcz.1 hcz.2;refine cC.of_value' (s:=Instr.alloc t true (.tuple #[])) ⟨ρ',_,.pointer (some ⟨w.heap.size,0,none⟩),?_,?_,g1,g2,g3⟩
  . simp [Instr.alloc,hz,newVar,newRow]
  . rw [<- g4];exact .ptr _ _ _ (by simp [hlt];rfl)
 case box t x =>
  split at hq <;> simp at hq;rename_i hna;subst hq;have hc:=(hev x).cells (r5 (by simpa using hna));obtain ⟨ρ',g1,g2,g3,g4⟩:=Dw wf fr hk (ev x).cells (cev x).cells t hc.1 hc.2;refine cC.of_value' (s:=Instr.box t (cev x)) ⟨ρ',_,.pointer (some ⟨w.heap.size,0,none⟩),?_,?_,g1,g2,g3⟩
  . simp [Instr.box,newVar,newRow]
  . rw [<- g4];exact .ptr _ _ _ (by simp [hlt];rfl)
end
end
section
def kr (cx:Cx) (f:FuncId) (args:List aa) (h:af) (L:List Nat) (v:aa) (h':af):Prop :=
 (∀ o,o∉L->h'[o]?=h[o]?)/\(av cx f args h fun v' g'=>v'=v/\g'=h')/\(L=[]->∀ g,av cx f args g fun v' g'=>v'=v/\g'=g)
structure Tr where
 i:Nat
 o:Oper
 rd:List Nat
 wr:List Nat
def cE (cx:Cx) (ops:Array Oper) (o:Oper) (T:Tm) (h:af) (v:aa) (h':af) (rd wr:List Nat):Prop :=
 (dr ops T o.guard=some false/\v=.tup []/\h'=h/\rd=[]/\wr=[]) \/
 (dr ops T o.guard=some true/\(fv o.op=false/\aop cx.P h (aev cx.G T) o.op=some (v,h'))/\rd=ard (aev cx.G T) o.op/\wr=awr h (aev cx.G T) o.op) \/
 (dr ops T o.guard=some true/\∃ c,aI (aev cx.G T) o.op=some c/\kr cx c.1 c.2 h rd v h'/\wr=rd) \/
 (dr ops T o.guard=some true/\fv o.op=true/\∃ cs k,apl cx.P (aev cx.G T) o.op=some cs/\h[k]?=some .hole/\v=.ptr k 0/\h'=h.set k (.box cs)/\rd=[k]/\wr=[k])
def Run (cx:Cx) (n:Nat) (ops:Array Oper):List Tr->Tm->af->Tm->af->Prop
 | [],T,h,T',h'=>(∀ t,Tm.get T t=Tm.get T' t)/\h=h'
 | t::ts,T,h,T',h'=>iP n t.o.dst=true/\∃ v h1,cE cx ops t.o T h v h1 t.rd t.wr/\Run cx n ops ts (ci T t.o.dst v) h1 T' h'
def Mp (a b:List Nat):Bool:=a.all fun x=>!b.contains x
def FK:Op->Bool
 | .store _ _ _=>true
 | _=>false
def Q0 (s t:Tr):Bool:=(s.wr.isEmpty || t.wr.isEmpty || (fv s.o.op && fv t.o.op) || (FK s.o.op && FK t.o.op)) && Mp s.wr t.rd && Mp t.wr s.rd
def lu (ops:Array Oper) (s t:Tr):Bool:=s.o.apart ops t.o && Q0 s t
section
variable {cx:Cx} {n:Nat} {ops:Array Oper}
theorem ik (T:Tm) (d:Option Tmp) (v:aa) (t:Nat):Tm.get (ci T d v) t=if d=some t then v else Tm.get T t:=by
 cases d with
 | none=>simp [ci]
 | some d=>simp [ci,Tm.get]
theorem wN {T S:Tm} (he:∀ t,Tm.get T t=Tm.get S t):aev cx.G T=aev cx.G S:=by
 funext x;cases x <;> simp [aev,he]
theorem CZ {T S:Tm} (he:∀ t,Tm.get T t=Tm.get S t) (g:Option (Nat×Bool)):dr ops T g=dr ops S g:=by
 cases g with
 | none=>rfl
 | some p=>simp [dr,he]
theorem cE.ext {T S:Tm} (he:∀ t,Tm.get T t=Tm.get S t) {o:Oper} {h h':af} {v:aa} {rd wr:List Nat} (hd:cE cx ops o T h v h' rd wr):cE cx ops o S h v h' rd wr:=by
 unfold cE at hd ⊢;rw [<- CZ he,<- wN he];exact hd
theorem Run.ext:∀ {ts:List Tr} {T S:Tm} {h:af} {T':Tm} {h':af},(∀ t,Tm.get T t=Tm.get S t)->Run cx n ops ts T h T' h'->Run cx n ops ts S h T' h'
 | [],T,S,h,T',h',he,hr=>⟨fun t=>(he t).symm.trans (hr.1 t),hr.2⟩
 | t::ts,T,S,h,T',h',he,hr=>by
  obtain ⟨h1,v,h2,h3,h4⟩:=hr;refine ⟨h1,v,h2,h3.ext he,Run.ext (fun x=>?_) h4⟩;rw [ik,ik,he x]
theorem D1 {o:Oper} {d:Option Tmp} {v:aa} (T:Tm) (hd:∀ x,d=some x->x∉o.looksAt ops):∀ x∈o.op.operands,aev cx.G (ci T d v) x=aev cx.G T x:=by
 intro x hx;cases x with
 | tmp t =>
  simp only [aev,ik];rw [if_neg];intro e;refine hd t e ?_;unfold Oper.looksAt;rw [List.mem_append];left;rw [List.mem_filterMap];exact ⟨.tmp t,by simpa using hx,rfl⟩
 | _=>rfl
theorem C9 {o:Oper} {d:Option Tmp} {v:aa} (T:Tm) (hd:∀ x,d=some x->x∉o.looksAt ops):dr ops (ci T d v) o.guard=dr ops T o.guard:=by
 cases hg:o.guard with
 | none=>rfl
 | some p =>
  obtain ⟨j,want⟩:=p;simp only [dr];cases hj:(ops[j]?).bind (·.dst) with
  | none=>rfl
  | some t =>
   simp only [ik];rw [if_neg];intro e;refine hd t e ?_;unfold Oper.looksAt
   grind
theorem cE.put {o:Oper} {d:Option Tmp} {u:aa} {T:Tm} {h h':af} {v:aa} {rd wr:List Nat} (hd:∀ x,d=some x->x∉o.looksAt ops) :
 cE cx ops o (ci T d u) h v h' rd wr↔cE cx ops o T h v h' rd wr:=by
 unfold cE;rw [C9 T hd];have hc:=Gp (P:=cx.P) (h:=h) (D1 (cx:=cx) (v:=u) T hd);rw [hc.1,hc.2.1,hc.2.2.1,hc.2.2.2,Fp (P:=cx.P) (D1 (cx:=cx) (v:=u) T hd)]
theorem cE.keep {o:Oper} {T:Tm} {h h':af} {v:aa} {rd wr:List Nat} (hd:cE cx ops o T h v h' rd wr):(∀ x,x∉wr->h'[x]?=h[x]?)/\(wr=[]->h'=h):=by
 rcases hd with ⟨_,_,rfl,_,_⟩|⟨_,⟨_,h1⟩,_,rfl⟩|⟨_,c,_,h1,rfl⟩|⟨_,_,cs,k,_,hk,rfl,rfl,rfl,rfl⟩
 . grind
 . exact P4 h1
 . refine ⟨h1.1,fun e=>?_⟩;subst e;exact List.ext_getElem? fun i=>h1.1 i zq
 . grind
theorem Mz {h g:af} {ev:Operand->aa} {op:Op} (e:awr h ev op=[]):awr g ev op=[]:=by
 cases op <;> try (simp [awr] at e ⊢;done)
 case store=>simpa [awr] using e
 case mapUpdate=>simpa [awr] using e
 case insert=>simpa [awr] using e
 case call c =>
  obtain ⟨callee,args,ats⟩:=c;cases callee <;> try (simp [awr] at e ⊢;done)
  rename_i b;cases b <;> try (simp [awr] at e ⊢;done)
  simp only [awr] at e;split at e <;> simp at e
theorem cE.loc {o:Oper} {T:Tm} {h h' g:af} {v:aa} {rd:List Nat} (hd:cE cx ops o T h v h' rd []) (he:∀ x∈rd,g[x]?=h[x]?):cE cx ops o T g v g rd []:=by
 rcases hd with ⟨h0,h1,h2,h3,_⟩|⟨h0,⟨ha,h1⟩,h2,h3⟩|⟨h0,c,h1,h2,h3⟩|⟨_,_,cs,k,_,_,_,_,_,h3⟩
 . exact .inl ⟨h0,h1,rfl,h3,rfl⟩
 . subst h2;have hg:=Ok h1 h3.symm he;have:awr g (aev cx.G T) o.op=[]:=Mz h3.symm;exact .inr (.inl ⟨h0,⟨ha,hg⟩,rfl,this.symm⟩)
 . have h3':rd=[]:=h3.symm;subst h3';exact .inr (.inr (.inl ⟨h0,c,h1,⟨fun _ _=>rfl,h2.2.2 rfl g,fun _=>h2.2.2 rfl⟩,rfl⟩))
 . simp at h3
theorem cE.al {o:Oper} {T:Tm} {h h':af} {v:aa} {rd wr:List Nat} (hd:cE cx ops o T h v h' rd wr) (ha:fv o.op=true) (hw:wr≠[]) :
 dr ops T o.guard=some true/\∃ cs k,apl cx.P (aev cx.G T) o.op=some cs/\h[k]?=some .hole/\v=.ptr k 0/\h'=h.set k (.box cs)/\rd=[k]/\wr=[k]:=by
 rcases hd with ⟨_,_,_,_,h3⟩|⟨h0,⟨ha',h1⟩,h2,h3⟩|⟨h0,c,h1,h2,h3⟩|⟨h0,_,h1⟩
 . exact absurd h3 hw
 . grind
 . exfalso;revert ha h1;cases o.op <;> simp [fv,aI]
 . exact ⟨h0,h1⟩
theorem gv {a b:List Nat} (hd:Mp a b=true):∀ x∈b,x∉a:=by
 intro x hx ha;have:=List.all_eq_true.1 hd x ha
 grind
theorem Af {P:Program} {h h':af} {t:TypeId} {p x:aa} (hs:fc P h t p x=some h'):∃ o y,p.top=[o]/\h'=h.set o y/\∀ g:af,g[o]?=h[o]?->fc P g t p x=some (g.set o y):=by
 unfold fc at hs;split at hs <;> try (simp at hs;done)
 rename_i i hi;split at hs <;> try (simp at hs;done)
 rename_i hc;split at hs <;> try (simp at hs;done)
 . split at hs <;> try (simp at hs;done)
   rename_i o off _ cs ho;split at hs <;> simp at hs;rename_i hl;subst hs;refine ⟨o,_,rfl,rfl,fun g hg=>?_⟩;rw [ho] at hg;simp only [fc,hi,if_pos hc,hg,if_pos hl]
 . split at hs <;> try (simp at hs;done)
   rename_i o idx off n _ sz es fr ho;split at hs <;> try (simp at hs;done)
   rename_i hl;split at hs <;> try (simp at hs;done)
   rename_i y hy;split at hs <;> try (simp at hs;done)
   rename_i hl2;split at hs <;> simp at hs;rename_i z hz;subst hs;refine ⟨o,_,rfl,rfl,fun g hg=>?_⟩;rw [ho] at hg;simp only [fc,hi,if_pos hc,hg,if_pos hl,hy,if_pos hl2,hz]
theorem cE.st {o:Oper} {T:Tm} {h h':af} {v:aa} {rd wr:List Nat} (hd:cE cx ops o T h v h' rd wr) (ha:FK o.op=true) (hw:wr≠[]) :
 ∃ k y,rd=[k]/\wr=[k]/\h'=h.set k y/\∀ g:af,g[k]?=h[k]?->cE cx ops o T g v (g.set k y) rd wr:=by
 rcases hd with ⟨_,_,_,_,h3⟩|⟨h0,⟨ha',h1⟩,h2,h3⟩|⟨h0,c,h1,h2,h3⟩|⟨h0,h1,_⟩
 . exact absurd h3 hw
 . cases hop:o.op with
   | store t a x =>
    rw [hop] at h1 h2 h3 ha';simp only [aop] at h1;cases hst:fc cx.P h t (aev cx.G T a) (aev cx.G T x) with
    | none=>rw [hst] at h1;simp [rK] at h1
    | some h'' =>
     rw [hst] at h1;simp only [rK,Option.some.injEq,Prod.mk.injEq] at h1;obtain ⟨rfl,rfl⟩:=h1;obtain ⟨k,y,e1,e2,e3⟩:=Af hst;simp only [ard,e1] at h2;simp only [awr,e1] at h3;refine ⟨k,y,h2,h3,e2,fun g hg=>.inr (.inl ⟨h0,⟨by rw [hop];exact ha',?_⟩,?_,?_⟩)⟩
     . rw [hop];simp only [aop,e3 g hg,rK]
     . rw [hop];simp only [ard,e1];exact h2
     . rw [hop];simp only [awr,e1];exact h3
   | _=>rw [hop] at ha;simp [FK] at ha
 . exfalso;revert ha h1;cases o.op <;> simp [FK,aI]
 . exfalso;revert ha h1;cases o.op <;> simp [FK,fv]
theorem swap {s t:Tr} {T:Tm} {h h1 h2:af} {vs vt:aa} (hi:lu ops s t=true) (hs:cE cx ops s.o T h vs h1 s.rd s.wr) (ht:cE cx ops t.o (ci T s.o.dst vs) h1 vt h2 t.rd t.wr) :
 ∃ h1',cE cx ops t.o T h vt h1' t.rd t.wr/\cE cx ops s.o (ci T t.o.dst vt) h1' vs h2 s.rd s.wr:=by
 unfold lu Q0 at hi;simp only [Bool.and_eq_true,Bool.or_eq_true] at hi;obtain ⟨hap,⟨hw,hd1⟩,hd2⟩:=hi
 obtain ⟨a1,a2,a3⟩:(∀ x,s.o.dst=some x->x∉t.o.looksAt ops)/\(∀ x,t.o.dst=some x->x∉s.o.looksAt ops)/\True:=by
  unfold Oper.apart at hap
  grind
 have ht':cE cx ops t.o T h1 vt h2 t.rd t.wr:=(cE.put a1).1 ht;rcases hw with ((hw|hw)|⟨al1,al2⟩)|⟨al1,al2⟩
 . -- s changes nothing
   have hsw:s.wr=[]:=by simpa using hw
   have e1:h1=h:=hs.keep.2 hsw;subst e1;refine ⟨h2,ht',?_⟩;rw [cE.put a2];rw [hsw] at hs ⊢;exact hs.loc (fun x hx=>ht'.keep.1 x (gv hd2 x hx))
 . have htw:t.wr=[]:=by simpa using hw
   have e1:h2=h1:=ht'.keep.2 htw;subst e1;refine ⟨h,?_,?_⟩
   . rw [htw] at ht' ⊢;exact ht'.loc (fun x hx=>(hs.keep.1 x (gv hd1 x hx)).symm)
   . rw [cE.put a2];exact hs
 . by_cases hsw:s.wr=[]
   . have e1:h1=h:=hs.keep.2 hsw;subst e1;refine ⟨h2,ht',?_⟩;rw [cE.put a2];rw [hsw] at hs ⊢;exact hs.loc (fun x hx=>ht'.keep.1 x (gv hd2 x hx))
   . by_cases htw:t.wr=[]
     . have e1:h2=h1:=ht'.keep.2 htw;subst e1;refine ⟨h,?_,?_⟩
       . rw [htw] at ht' ⊢;exact ht'.loc (fun x hx=>(hs.keep.1 x (gv hd1 x hx)).symm)
       . rw [cE.put a2];exact hs
     . obtain ⟨g1,cs1,k1,p1,q1,rfl,rfl,r1,w1⟩:=hs.al al1 hsw;obtain ⟨g2,cs2,k2,p2,q2,rfl,rfl,r2,w2⟩:=ht'.al al2 htw
       have hne:k1≠k2:=by
        grind
       rw [List.getElem?_set_ne hne] at q2;refine ⟨h.set k2 (.box cs2),.inr (.inr (.inr ⟨g2,al2,cs2,k2,p2,q2,rfl,rfl,r2,w2⟩)),?_⟩;rw [cE.put a2];exact .inr (.inr (.inr ⟨g1,al1,cs1,k1,p1,by rw [List.getElem?_set_ne (Ne.symm hne)];exact q1,rfl,List.set_comm _ _ hne,r1,w1⟩))
 . by_cases hsw:s.wr=[]
   . have e1:h1=h:=hs.keep.2 hsw;subst e1;refine ⟨h2,ht',?_⟩;rw [cE.put a2];rw [hsw] at hs ⊢;exact hs.loc (fun x hx=>ht'.keep.1 x (gv hd2 x hx))
   . by_cases htw:t.wr=[]
     . have e1:h2=h1:=ht'.keep.2 htw;subst e1;refine ⟨h,?_,?_⟩
       . rw [htw] at ht' ⊢;exact ht'.loc (fun x hx=>(hs.keep.1 x (gv hd1 x hx)).symm)
       . rw [cE.put a2];exact hs
     . obtain ⟨k1,y1,r1,w1,rfl,f1⟩:=hs.st al1 hsw;obtain ⟨k2,y2,r2,w2,rfl,f2⟩:=ht'.st al2 htw
       have hne:k1≠k2:=by
        have:=gv hd1 k2 (by rw [r2];simp)
        grind
       refine ⟨h.set k2 y2,f2 h (by rw [List.getElem?_set_ne hne]),?_⟩;rw [cE.put a2,List.set_comm _ _ hne]
       grind
theorem FV {s t:Tr} (hi:lu ops s t=true):∀ x,s.o.dst=some x->t.o.dst≠some x:=by
 unfold lu at hi;rw [Bool.and_eq_true] at hi;have hap:=hi.1;unfold Oper.apart at hap
 grind
theorem Run.front:∀ {pre:List Tr} {t:Tr} {post:List Tr} {T:Tm} {h:af} {T':Tm} {h':af},(∀ p∈pre,lu ops p t=true)->Run cx n ops (pre++t::post) T h T' h'->Run cx n ops (t::(pre++post)) T h T' h'
 | [],t,post,T,h,T',h',_,hr=>hr
 | p::pre,t,post,T,h,T',h',hi,hr=>by
  obtain ⟨h1,v,g1,h3,h4⟩:=hr;obtain ⟨h5,v2,g2,h6,h7⟩:=Run.front (fun q hq=>hi q (by simp [hq])) h4;obtain ⟨g1',k1,k2⟩:=swap (hi p zq) h3 h6;refine ⟨h5,v2,g1',k1,h1,v,g2,k2,Run.ext ?_ h7⟩;intro x;simp only [ik];have hne:=FV (hi p zq)
  grind
def zw:List Oper->List Nat->List Nat
 | [],acc=>acc
 | o::os,acc=>zw os (acc++[o.after.toList.foldl (fun s e=>if Region.binds .any e then s ||| (2 ^ e.on ||| acc.getD e.on 0) else s) 0])
def pN (ops:Array Oper) (ms:List Nat) (t:Tr):List Tr->Bool
 | []=>true
 | s::ss=>((ms.getD t.i 0).testBit s.i || lu ops s t) && pN ops ms t ss
def lP (ops:Array Oper) (ms:List Nat):List Tr->List Tr->Bool
 | _,[]=>true
 | pre,t::ts=>pN ops ms t pre && lP ops ms (t::pre) ts
def gi:Nat->List Oper->List (List Nat×List Nat)->List Tr
 | i,o::os,r::rs=>⟨i,o,r.1,r.2⟩::gi (i+1) os rs
 | _,_,_=>[]
def lq (cx:Cx) (n:Nat) (ops:Array Oper):List Oper->Nat->Tm->af->List (List Nat×List Nat)->(List (List Nat×List Nat)->Tm->af->Prop)->Prop
 | [],_,T,h,rs,K=>K rs T h
 | o::os,k,T,h,rs,K=>iP n o.dst=true /\
  match dr ops T o.guard with
  | some true=>bif fv o.op then
   (match apl cx.P (aev cx.G T) o.op with
   | some cs=>lQ h k=true/\lq cx n ops os (k+1) (ci T o.dst (.ptr k 0)) (h.set k (.box cs)) (rs++[([k],[k])]) K
   | none=>False)
   else match aop cx.P h (aev cx.G T) o.op with
   | some r=>lq cx n ops os k (ci T o.dst r.1) r.2 (rs++[(ard (aev cx.G T) o.op,awr h (aev cx.G T) o.op)]) K
   | none=>match aI (aev cx.G T) o.op with
    | some c=>∃ L v h',nF (kr cx c.1 c.2 h L v h')/\nF (lq cx n ops os k (ci T o.dst v) h' (rs++[(L,L)]) K)
    | none=>False
  | some false=>lq cx n ops os (bif fv o.op then k+1 else k) (ci T o.dst (.tup [])) h (rs++[([],[])]) K
  | none=>False
abbrev fH :=List Nat×List Nat
theorem vn {K:List fH->Tm->af->Prop}:∀ (os:List Oper) (k p:Nat) (T:Tm) (h:af) (rs:List fH),lq cx n ops os p T h rs K ->
 ∃ rs' T' h',rs'.length=os.length/\K (rs++rs') T' h'/\Run cx n ops (gi k os rs') T h T' h'
 | [],k,p,T,h,rs,hd=>⟨[],T,h,rfl,by simpa [lq] using hd,by simp [gi,Run]⟩
 | o::os,k,p,T,h,rs,hd=>by
  simp only [lq] at hd;obtain ⟨hdst,hd⟩:=hd
  have fin:∀ v h1 rd wr p',cE cx ops o T h v h1 rd wr->lq cx n ops os p' (ci T o.dst v) h1 (rs++[(rd,wr)]) K ->
   ∃ rs' T' h',rs'.length=(o::os).length/\K (rs++rs') T' h'/\Run cx n ops (gi k (o::os) rs') T h T' h':=by
   intro v h1 rd wr p' hs hd;obtain ⟨rs',T',h',q1,q2,q3⟩:=vn os (k+1) p' _ _ _ hd;exact ⟨(rd,wr)::rs',T',h',by simp [q1],by simpa using q2,hdst,v,h1,hs,q3⟩
  split at hd
  . rename_i hg;cases hal:fv o.op with
    | true =>
     rw [hal] at hd;simp only [cond_true] at hd;split at hd
     . rename_i cs hcs;exact fin _ _ _ _ _ (.inr (.inr (.inr ⟨hg,hal,cs,p,hcs,yW hd.1,rfl,rfl,rfl,rfl⟩))) hd.2
     . exact hd.elim
    | false =>
     rw [hal] at hd;simp only [cond_false] at hd;split at hd
     . rename_i r hop;exact fin r.1 r.2 _ _ _ (.inr (.inl ⟨hg,⟨hal,hop⟩,rfl,rfl⟩)) hd
     . split at hd
       . rename_i c hc;obtain ⟨L,v,h',hf,hd⟩:=hd;exact fin v h' L L _ (.inr (.inr (.inl ⟨hg,c,hc,hf,rfl⟩))) hd
       . exact hd.elim
  . rename_i hg;exact fin (.tup []) h [] [] _ (.inl ⟨hg,rfl,rfl,rfl,rfl⟩) hd
  . exact hd.elim
theorem pQ:∀ (os:List Oper) (k:Nat) (rs:List fH) (t:Tr),t∈gi k os rs->k<=t.i/\os[t.i - k]?=some t.o
 | [],k,rs,t,h=>by simp [gi] at h
 | o::os,k,[],t,h=>by simp [gi] at h
 | o::os,k,r::rs,t,h=>by
  simp only [gi,List.mem_cons] at h;rcases h with rfl|h
  . simp
  . obtain ⟨h1,h2⟩:=pQ os (k+1) rs t h
    grind
inductive un (ops:Array Oper):Nat->Nat->Prop
 | edge {p q:Nat} {o:Oper} {e:Edge} (ho:ops[q]?=some o) (he:e∈o.after) (hb:Region.binds .any e=true) (hp:e.on=p):un ops p q
 | trans {p q r:Nat} (h:un ops p q) (k:un ops q r):un ops p r
theorem CF (acc:List Nat) (l:List Edge) (p:Nat):∀ s:Nat,(l.foldl (fun s e=>if Region.binds .any e then s ||| (2 ^ e.on ||| acc.getD e.on 0) else s) s).testBit p=true ->
 s.testBit p=true\/∃ e∈l,Region.binds .any e=true/\(e.on=p\/(acc.getD e.on 0).testBit p=true):=by
 induction l with
 | nil=>intro s h;exact .inl h
 | cons e l ih =>
  grind
theorem tg:∀ (os:List Oper) (acc:List Nat),ops.toList.drop acc.length=os->(∀ q p,(acc.getD q 0).testBit p=true->un ops p q) ->
 ∀ q p,((zw os acc).getD q 0).testBit p=true->un ops p q
 | [],acc,_,ha=>ha
 | o::os,acc,hd,ha=>by
  have hk0:acc.length<ops.toList.length:=by
   rcases Nat.lt_or_ge acc.length ops.toList.length with h1|h1
   . exact h1
   . rw [List.drop_eq_nil_of_le h1] at hd;simp at hd
  have ho:ops[acc.length]?=some o:=by
   rw [<- Array.getElem?_toList];rw [List.drop_eq_getElem_cons hk0] at hd
   grind
  have hdrop:ops.toList.drop (acc.length+1)=os:=by
   rw [List.drop_eq_getElem_cons hk0] at hd;simp at hd;exact hd.2
  simp only [zw];refine tg os _ (by simpa using hdrop) ?_;intro q p hb;by_cases hq:q<acc.length
  . grind
  . by_cases hq2:q=acc.length
    . subst hq2;simp only [List.getD_eq_getElem?_getD,List.getElem?_append_right (Nat.le_refl _),Nat.sub_self,List.getElem?_cons_zero,Option.getD_some] at hb
      have hb':(o.after.toList.foldl (fun s e=>if Region.binds .any e then s ||| (2 ^ e.on ||| acc.getD e.on 0) else s) 0).testBit p=true:=by
       grind
      rcases CF acc _ p 0 hb' with h1|⟨e,he,hbd,h1⟩
      . simp at h1
      . have hedge:un ops e.on acc.length:=.edge ho (by simpa using he) hbd rfl;rcases h1 with rfl|h1
        . exact hedge
        . exact .trans (ha _ _ h1) hedge
    . grind
def HH (ops:Array Oper) (listed:Array Bool):Prop:=∀ p q,un ops p q->listed.getD q false=true->listed.getD p false=true
theorem q7 {ms:List Nat} {t:Tr}:∀ {pre:List Tr},pN ops ms t pre=true->∀ s∈pre,(ms.getD t.i 0).testBit s.i=true\/lu ops s t=true
 | [],_,s,hs=>by simp at hs
 | s'::pre,h,s,hs=>by
  simp only [pN,Bool.and_eq_true,Bool.or_eq_true] at h;simp at hs;rcases hs with rfl|hs
  . exact h.1
  . exact q7 h.2 s hs
def ja (ops:Array Oper) (ms:List Nat):List Tr->Prop
 | []=>True
 | s::ts=>(∀ t∈ts,(ms.getD t.i 0).testBit s.i=true\/lu ops s t=true)/\ja ops ms ts
theorem oc {ms:List Nat}:∀ (ts pre:List Tr),lP ops ms pre ts=true->ja ops ms ts/\∀ s∈pre,∀ t∈ts,(ms.getD t.i 0).testBit s.i=true\/lu ops s t=true
 | [],pre,_=>⟨trivial,by simp⟩
 | t::ts,pre,h=>by
  simp only [lP,Bool.and_eq_true] at h;obtain ⟨h1,h2⟩:=oc ts (t::pre) h.2;have h3:=q7 h.1;refine ⟨⟨fun t' ht'=>h2 t zq t' ht',h1⟩,fun s hs t' ht'=>?_⟩
  grind
theorem ja.split {ms:List Nat}:∀ {pre:List Tr} {t:Tr} {post:List Tr},ja ops ms (pre++t::post)->(∀ s∈pre,(ms.getD t.i 0).testBit s.i=true\/lu ops s t=true)/\ja ops ms (pre++post)
 | [],t,post,h=>⟨by simp,h.2⟩
 | s::pre,t,post,h=>by
  obtain ⟨h1,h2⟩:=ja.split h.2;refine ⟨fun s' hs'=>?_,⟨fun t' ht'=>h.1 t' (by simp at ht' ⊢;rcases ht' with q|q;exact .inl q;exact .inr (.inr q)),h2⟩⟩;simp at hs';rcases hs' with rfl|hs'
  . exact h.1 t zq
  . exact h1 s' hs'
section
variable {E:Ent} {B:p7}
theorem cE.sound {o:Oper} {i:Nat} (ho:ops[i]?=some o) {ρ:Ren} {T:Tm} {h h':af} {a:Act} {w:World} {v:aa} {rd wr:List Nat} (hr:Rel cx E B n ρ T h a w) (hd:iP n o.dst=true)
 (hs:cE cx ops o T h v h' rd wr) {Q:Exit->Act->World->Prop} {K:Act->World->Prop} (hk:∀ ρ' a' w',Rel cx E B n ρ' (ci T o.dst v) h' a' w'->K a' w'):wpOp cx.P ops Q i K a w:=by
 unfold wpOp;rw [ho];simp only;rcases hs with ⟨hg,rfl,rfl,_⟩|⟨hg,⟨_,hop⟩,_⟩|⟨hg,c,hc,hf,_⟩|⟨hg,_,cs,k,hcs,hhole,rfl,rfl,_⟩
 . rw [if_neg (by rw [eQ hr hg];simp)];exact hk ρ _ _ (hr.put hd (.tup [] #[] rfl zq))
 . rw [if_pos (eQ hr hg)];left;obtain ⟨ρ',w',cv,hrun,q1,q2,q3,q4⟩:=vw (o:=o) (cev:=a.eval) hop hr.wf hr.fr (fun x=>hr.eval x);unfold Oper.wp;rcases hrun with e|⟨e,rfl⟩
   . rw [e,Oper.upon_value];exact hk ρ' _ _ ((hr.step q2 q3 q4).put hd q1)
   . rw [e,Oper.upon_skip];exact hk ρ' _ _ ((hr.step q2 q3 q4).put hd q1)
 . rw [if_pos (eQ hr hg)];left;refine tW hr hd hc hf.2.1 ?_
   grind
 . rw [if_pos (eQ hr hg)];left;obtain ⟨ρ',w',cv,hrun,q1,q2,q3,q4⟩:=Gm (o:=o) (cev:=a.eval) hcs hhole hr.wf hr.fr (fun x=>hr.eval x);unfold Oper.wp;rcases hrun with e|⟨e,rfl⟩
   . rw [e,Oper.upon_value];exact hk ρ' _ _ ((hr.step q2 q3 q4).put hd q1)
   . rw [e,Oper.upon_skip];exact hk ρ' _ _ ((hr.step q2 q3 q4).put hd q1)
theorem Ni {ms:List Nat} (hms:∀ q p,(ms.getD q 0).testBit p=true->un ops p q) {T':Tm} {h':af} {Q:Exit->Act->World->Prop} (hq:∀ ρ a w T,Rel cx E B n ρ T h' a w->(∀ t,Tm.get T t=Tm.get T' t)->Q .normal a w) :
 ∀ (fuel:Nat) (ts:List Tr) (listed:Array Bool) (ρ:Ren) (T:Tm) (h:af) (a:Act) (w:World),ts.length=fuel->(ts.map Tr.i).Nodup->listed.size=ops.size->(∀ i,(i<ops.size/\listed.getD i true=false)↔∃ t∈ts,t.i=i)->(∀ t∈ts,ops[t.i]?=some t.o) ->
  HH ops listed->ja ops ms ts->Run cx n ops ts T h T' h'->Rel cx E B n ρ T h a w->(∀ q,q<ops.size->∀ o e,ops[q]?=some o->e∈o.after->Region.binds .any e=true->e.on<q)->wpAny cx.P .any ops Q fuel listed a w:=by
 intro fuel
 induction fuel with
 | zero =>
  intro ts listed ρ T h a w hl hnd hsz hset hops hcl hap hrun hrel hac;have hts:ts=[]:=List.eq_nil_of_length_eq_zero hl;subst hts;refine ⟨?_,?_⟩
  . rw [List.eq_nil_iff_forall_not_mem];intro i hi;rw [mem_ready] at hi
    grind
  . obtain ⟨r1,rfl⟩:=hrun;exact hq ρ a w T hrel r1
 | succ fuel ih =>
  intro ts listed ρ T h a w hl hnd hsz hset hops hcl hap hrun hrel hac;refine ⟨fun hnil=>?_,?_⟩
  . -- some operation is always ready: the least one that is not listed
    exfalso
    obtain ⟨t0,ht0⟩:∃ t,t∈ts:=by
     cases ts with
     | nil=>simp at hl
     | cons t ts=>exact ⟨t,by simp⟩
    have hne:∃ k,k<ops.size/\listed.getD k true=false:=⟨t0.i,(hset t0.i).2 ⟨t0,ht0,rfl⟩⟩;obtain ⟨k,hk⟩:=hne;obtain ⟨j,⟨hj1,hj2⟩,hmin⟩:=oU (fun k=>k<ops.size/\listed.getD k true=false) k hk
    have:j∈Region.ready .any ops listed:=by
     rw [mem_ready]
     grind
    grind
  . intro i hi;have hi':=hi;rw [mem_ready] at hi';obtain ⟨h1,o,ho,hpre⟩:=hi';have hio:i<ops.size:=(Array.getElem?_eq_some_iff.1 ho).1;obtain ⟨t,ht,hti⟩:=(hset i).1 ⟨hio,h1⟩;obtain ⟨pre,post,rfl⟩:=List.append_of_mem ht
    have hto:t.o=o:=by
     grind
    obtain ⟨hsplit,hap'⟩:=hap.split
    have hpath:∀ p,un ops p i->listed.getD p false=true:=by
     intro p hp
     have key:∀ p q,un ops p q->q=i->listed.getD p false=true:=by
      intro p q hpq
      induction hpq with
      | edge ho' he hb hp' =>
       grind
      | trans h1 h2 ih1 ih2 =>
       intro e;exact hcl _ _ h1 (ih2 e)
     exact key p i hp rfl
    have hind:∀ p∈pre,lu ops p t=true:=by
     grind
    obtain ⟨r1,v,h2,r3,r4⟩:=hrun.front hind;rw [hto] at r1 r3 r4;refine cE.sound ho hrel r1 r3 ?_;intro ρ' a' w' hrel'
    have hnd':(∀ t'∈pre++post,t'.i≠i)/\((pre++post).map Tr.i).Nodup:=by
     grind
    refine ih (pre++post) (listed.setIfInBounds i true) ρ' _ _ a' w' (by simp at hl ⊢;omega) hnd'.2 (by simpa using hsz) ?_ (fun t' ht'=>hops t' (by simp at ht' ⊢;rcases ht' with q|q;exact .inl q;exact .inr (.inr q))) ?_ hap' r4 hrel' hac
    . intro j;by_cases e:j=i
      . subst e;constructor
        . rintro ⟨q1,q2⟩;have:j<listed.size:=by omega
          simp [Array.getD_eq_getD_getElem?,this] at q2
        . rintro ⟨t',ht',e'⟩;exact absurd e' (hnd'.1 t' ht')
      . rw [getD_set_ne _ (Ne.symm e),hset j];constructor
        . rintro ⟨t',ht',e'⟩;refine ⟨t',?_,e'⟩;simp at ht' ⊢;rcases ht' with q|q|q
          . exact .inl q
          . subst q;exact absurd (e'.symm.trans hti) e
          . exact .inr q
        . rintro ⟨t',ht',e'⟩;refine ⟨t',?_,e'⟩;simp at ht' ⊢;rcases ht' with q|q
          . exact .inl q
          . exact .inr (.inr q)
    . intro p q hp hlq;by_cases e:q=i
      . subst e;exact getD_set_true (hpath p hp)
      . rw [getD_set_ne _ (Ne.symm e)] at hlq;exact getD_set_true (hcl p q hp hlq)
end
def io:Nat->List Oper->Bool
 | _,[]=>true
 | i,o::os=>(o.after.toList.all fun e=>!Region.binds .any e || decide (e.on<i)) && io (i+1) os
theorem nO:∀ (os:List Oper) (k:Nat),io k os=true->∀ (j:Nat) o e,os[j]?=some o->e∈o.after->Region.binds .any e=true->e.on<k+j
 | [],k,_,j,o,e,ho,_,_=>by simp at ho
 | o'::os,k,h,0,o,e,ho,he,hb=>by
  simp at ho;subst ho;simp only [io,Bool.and_eq_true] at h
  grind
 | o'::os,k,h,j+1,o,e,ho,he,hb=>by
  simp only [io,Bool.and_eq_true] at h;have:=nO os (k+1) h.2 j o e (by simpa using ho) he hb;omega
theorem vO:∀ (os:List Oper) (k:Nat) (rs:List fH),rs.length=os.length->(gi k os rs).map Tr.i=List.range' k os.length
 | [],k,rs,_=>by simp [gi]
 | o::os,k,[],h=>by simp at h
 | o::os,k,r::rs,h=>by
  simp at h;simp [gi,vO os (k+1) rs h,List.range'_succ]
def mC (ops:Array Oper) (rs:List (List Nat×List Nat)):Bool:=lP ops (zw ops.toList []) [] (gi 0 ops.toList rs)
theorem y9 {m:Nat} {Q:cP} {id:Nat} {T:Tm} {h:af} (hm:cx.P.follows .mixedOrders=true) (he:io 0 ops.toList=true)
 (hq:∀ T T' h,(∀ t,Tm.get T t=Tm.get T' t)->Q .normal T h->Q .normal T' h)
 (hk:lq cx n ops ops.toList h.length T (h++hP (nAl ops.toList)) [] (fun rs T' h'=>mC ops rs=true/\Q .normal T' h')):wpA cx n m (.region id ops true) Q T h:=by
 intro E B ρ a w hBm hr;obtain ⟨rs,T',h',q1,⟨q2,q3⟩,q4⟩:=vn ops.toList 0 _ T _ [] hk;simp only [List.nil_append] at q2;refine wp_region_any hm ?_;have hst:=l6 (w':={ w with drawn:=w.drawn+1 }) hr.wf hr.fr ρ.I rfl rfl rfl (Nat.le_refl _) (fun _ _=>rfl) (fun _ _ h=>h) (fun _ _ h=>.inl h);have hr':Rel cx E B n ρ T (h++hP (nAl ops.toList)) a { w with drawn:=w.drawn+1 }:=FO (hr.step hst.1 hst.2.1 hst.2.2) _;have hidx:=vO ops.toList 0 rs q1;refine Ni (E:=E) (B:=B) (tg ops.toList [] zq zq) (T':=T') (h':=h') ?_ ops.size (gi 0 ops.toList rs) _ ρ T _ a _ ?_ ?_ zq ?_ ?_ ?_ (oc _ [] q2).1 q4 hr' ?_
 . grind
 . have:=congrArg List.length hidx;simpa using this
 . grind
 . intro i;constructor
   . rintro ⟨hi,_⟩;have:i∈(gi 0 ops.toList rs).map Tr.i:=by rw [hidx];simp [List.mem_range'_1];exact hi
     grind
   . rintro ⟨t,ht,rfl⟩;obtain ⟨_,h2⟩:=pQ _ _ _ _ ht
     have:t.i<ops.size:=by
      grind
     exact ⟨this,by simp [Array.getD_eq_getD_getElem?,this]⟩
 . intro t ht;obtain ⟨_,h2⟩:=pQ _ _ _ _ ht;simpa using h2
 . intro p q _ hl;by_cases hq:q<ops.size
   . simp [Array.getD_eq_getD_getElem?,hq] at hl
   . grind
 . intro q hq o e ho he' hb;have:=nO ops.toList 0 he q o e (by simpa using ho) he' hb;simpa using this
end
end
section
section
variable {cx:Cx} {n m:Nat} {Q:cP} {T:Tm} {h:af}
theorem Rel.ext {E:Ent} {B:p7} {ρ:Ren} {a:Act} {w:World} {S:Tm} (he:∀ t,Tm.get T t=Tm.get S t) (hr:Rel cx E B n ρ T h a w):Rel cx E B n ρ S h a w :=
 ⟨fun t=>by rw [<- he t];exact hr.tm t,hr.size,hr.defers,hr.glob,hr.wf,hr.fr,hr.le⟩
theorem wM {c:Code} {S:Tm} (he:∀ t,Tm.get T t=Tm.get S t) (hw:wpA cx n m c Q T h):wpA cx n m c Q S h :=
 fun E B ρ a w hm hr=>hw E B ρ a w hm (hr.ext fun t=>(he t).symm)
theorem GO {c:Operand} {x y:Code} (hc:aev cx.G T c=.bool true) (hx:wpA cx n m x Q T h):wpA cx n m (.cond c x y) Q T h:=oJ hc hx
theorem EZ {c:Operand} {x y:Code} (hc:aev cx.G T c=.bool false) (hx:wpA cx n m y Q T h):wpA cx n m (.cond c x y) Q T h:=oJ hc hx
theorem FE {c:Operand} {x y:Code} (t:Bool) (hc:aev cx.G T c=.bool t) (hx:t=true->wpA cx n m x Q T h) (hy:t=false->wpA cx n m y Q T h):wpA cx n m (.cond c x y) Q T h:=by
 cases t
 . exact oJ hc (hy rfl)
 . exact oJ hc (hx rfl)
def LeL (T:Tm):Tm->Prop
 | []=>True
 | p::S=>Tm.get T p.1=p.2/\LeL T S
def nG (k:Nat):Tm->Prop
 | []=>True
 | p::S=>p.2.bel k=true/\nG k S
theorem LeL.le:∀ {S:Tm},LeL T S->Tm.le T S
 | [],_=>fun t=>.inl rfl
 | p::S,hl=>fun t=>by
  simp only [Tm.get];by_cases e:p.1=t
  . rw [if_pos e,<- e];exact .inr hl.1.symm
  . rw [if_neg e];exact LeL.le hl.2 t
theorem nG.bel {k:Nat}:∀ {S:Tm},nG k S->∀ t,(Tm.get S t).bel k=true
 | [],_,t=>by simp [Tm.get,aa.bel]
 | p::S,hl,t=>by
  simp only [Tm.get];by_cases e:p.1=t
  . rw [if_pos e];exact hl.1
  . rw [if_neg e];exact nG.bel hl.2 t
structure gt (m:Nat) (T:Tm) (h:af) (S:Tm) (g:af):Prop where
 le:LeL T S
 bel:nG g.length S
 len:m<=g.length
 heap:h.take g.length=g
 objs:g.all (am.belO g.length)=true
theorem l3 {c:Code} {S:Tm} {g:af} (hf:gt m T h S g) (hw:wpA cx n m c Q S g):wpA cx n m c Q T h:=by
 refine CQ S g.length hf.le.le hf.len (nG.bel hf.bel) ?_ ?_
 . rw [hf.heap];exact hf.objs
 . rw [hf.heap];exact hw
theorem Cl {σ:Type} {c:Code} (S:σ->Tm) (H:σ->af) (I:σ->Prop) (μ:σ->Nat) (s0:σ) (i0:I s0) (h0:gt m T h (S s0) (H s0))
 (round:∀ s,I s->wpA cx n m c (cM (fun T' h'=>∃ s',μ s'<μ s/\I s'/\gt m T' h' (S s') (H s')) Q) (S s) (H s)):wpA cx n m (.loop c) Q T h:=by
 refine uf (fun j T' h'=>∃ s,j=μ s/\I s/\gt m T' h' (S s) (H s)) (μ s0) ⟨s0,rfl,i0,h0⟩ ?_;rintro j T1 h1 ⟨s,rfl,hi,hf⟩;refine l3 hf (lU (round s hi) ?_)
 grind
def Fin (cx:Cx) (rs:List ResultVar) (m:Nat) (Q:aa->af->Prop):cP:=fun e T' h' =>
 (e=.normal\/e=.ret)/\∃ l,gu cx.P T' h' rs=some l /\
  ∃ j,m<=j/\((aZ l).frz h').bel j=true/\((db h' (aZ l).owns).take j).all (am.belO j)=true/\Q ((aZ l).frz h') ((db h' (aZ l).owns).take j)
def CU (cx:Cx) (rs:List ResultVar) (m:Nat) (Q:aa->af->Prop):cP:=fun e T' h' =>
 (e=.normal\/e=.ret)/\∃ l,gu cx.P T' h' rs=some l /\
  ∃ j,m<=j/\(aZ l).bel j=true/\(h'.take j).all (am.belO j)=true/\Q (aZ l) (h'.take j)
theorem Cc {f:FuncId} {fn:Func} {c:Code} {args:List aa} {Q:aa->af->Prop} (n m:Nat) (rs:List ResultVar) (hf:cx.P.funcs[f]?=some fn) (hb:fn.body=some c)
 (hn : (fn.name == "runtime.NumGoroutine") = false) (hnt : fn.ntmps = n) (hrs : fn.results.toList = rs) (hm : h.length = m) (hsz : args.length ≤ n) (hw : wpA cx n m c (Fin cx rs m Q) (lm 0 args) h) : av cx f args h Q := by
 subst hnt hrs hm;exact lR hf hb hn hsz hw
theorem ed {f:FuncId} {fn:Func} {c:Code} {args:List aa} {Q:aa->af->Prop} (n m:Nat) (rs:List ResultVar) (hf:cx.P.funcs[f]?=some fn) (hb:fn.body=some c)
 (hn : (fn.name == "runtime.NumGoroutine") = false) (hnt : fn.ntmps = n) (hrs : fn.results.toList = rs) (hm : h.length = m) (hsz : args.length ≤ n) (hw : wpA cx n m c (CU cx rs m Q) (lm 0 args) h) : av cx f args h Q := by
 subst hnt hrs hm;exact iW hf hb hn hsz hw
theorem nU {rs:List ResultVar} {e:Exit} {l:List aa} {v:aa} (he:e=.normal\/e=.ret) (hl:gu cx.P T h rs=some l) (hv:(aZ l).frz h=v) (hb:v.bel 0=true) :
 Fin cx rs 0 (fun v' h'=>v'=v/\h'=[]) e T h :=
 ⟨he,l,hl,0,Nat.le_refl _,by rw [hv];exact hb,by simp,hv,by simp⟩
theorem CX {f:FuncId} {args args':List aa} {v:aa} (ha:∀ g,aN g args=args') (hc:ae cx f args' v) (hb:aC 0 args'=true) (ho:aF args=[]):kr cx f args h [] v h:=by
 have key:∀ g,av cx f args g fun v' g'=>v'=v/\g'=g:=by
  intro g;refine jy (by rw [ha];exact hc) (by rw [ha];exact hb) ?_;rw [ho];exact ⟨rfl,rfl⟩
 exact ⟨fun _ _=>rfl,key h,fun _=>key⟩
theorem wG {f:FuncId} {args args':List aa} {v:aa} {K:aa->af->Prop} (hc:ae cx f args' v) (ha:aN h args=args') (hb:aC 0 args'=true) (hk:K v (db h (aF args))):av cx f args h K :=
 jy (by rw [ha];exact hc) (by rw [ha];exact hb) hk
end
end
section
mutual
def aa.ren (r:Nat->Nat):aa->aa
 | .agg cs=>.agg (bX r cs)
 | .tup cs=>.tup (bX r cs)
 | .ptr o off=>.ptr (r o) off
 | .pimm cs off=>.pimm (bX r cs) off
 | .pown o i off n=>.pown (r o) i off n
 | .imm l=>.imm (bX r l)
 | .full l=>.full (bX r l)
 | .own o off len=>.own (r o) off len
 | .map o=>.map (r o)
 | .fn f xs ys=>.fn f (bX r xs) (bX r ys)
 | .itr o=>.itr (r o)
 | .iface t v=>.iface t (v.ren r)
 | .any=>.any
 | .bool b=>.bool b
 | .int k n=>.int k n
 | .str s=>.str s
 | .nilp=>.nilp
 | .nilm=>.nilm
 | .nilfn=>.nilfn
 | .nili=>.nili
def bX (r:Nat->Nat):List aa->List aa
 | []=>[]
 | x::xs=>x.ren r::bX r xs
end
theorem aB (r:Nat->Nat):∀ l:List aa,bX r l=l.map (aa.ren r)
 | []=>rfl
 | x::l=>by simp [bX,aB r l]
def nY (r:Nat->Nat):List (aa×aa)->List (aa×aa)
 | []=>[]
 | e::es=>(e.1.ren r,e.2.ren r)::nY r es
theorem iX (r:Nat->Nat):∀ l:List (aa×aa),nY r l=l.map fun e=>(e.1.ren r,e.2.ren r)
 | []=>rfl
 | x::l=>by simp [nY,iX r l]
def am.ren (r:Nat->Nat):am->am
 | .hole=>.hole
 | .box cs=>.box (bX r cs)
 | .arr sz es fr=>.arr sz (bX r es) fr
 | .map es=>.map (nY r es)
 | .iter m left=>.iter (r m) left
theorem bv (r:Nat->Nat) (x:aa):(x.ren r).cells=x.cells.map (aa.ren r):=by
 cases x <;> simp [aa.ren,aa.cells,aB]
theorem b8 (r:Nat->Nat) (l:Loc) (x:am):(x.ren r).hasBlk l=x.hasBlk l:=by cases x <;> rfl
theorem sQ (r:Nat->Nat) (l:Loc) (j:Nat) (x:am):(x.ren r).muts l j=x.muts l j:=by cases x <;> rfl
theorem F1 (r r':Nat->Nat) (l l':Loc) (x y:am):(x.ren r).grows l l' (y.ren r')↔x.grows l l' y:=by
 cases x <;> cases y <;> simp [am.ren,am.grows,aB]
theorem VR.toRen {ρ ρ':Ren} {h h':af} {w:World} {r:Nat->Nat} (hI:∀ b j,ρ.I b j->ρ'.I b j)
 (hh:∀ o x,h[o]?=some x->h'[r o]?=some (x.ren r)/\ρ'.loc (r o)=ρ.loc o) {x:aa} {v:Value} (hx:VR ρ h w x v):VR ρ' h' w (x.ren r) v:=by
 induction hx with
 | any v=>exact .any v
 | bool b=>exact .bool b
 | int k n=>exact .int k n
 | str s=>exact .str s
 | agg cs vs hl _ ih =>
  refine .agg _ vs (by simp [aB,hl]) fun i x v hx hv=>?_
  rw [aB] at hx;simp at hx
  grind
 | tup cs vs hl _ ih =>
  refine .tup _ vs (by simp [aB,hl]) fun i x v hx hv=>?_
  rw [aB] at hx;simp at hx
  grind
 | nilp=>exact .nilp
 | ptr o off cs ho =>
  obtain ⟨h1,h2⟩:=hh o _ ho;rw [<- h2];exact .ptr _ _ _ h1
 | pimm cs off b base val hc _ ih =>
  refine .pimm _ off b base val (fun j y hy=>?_) (fun j y hy=>?_)
  . rw [aB] at hy;simp at hy
    grind
  . rw [aB] at hy;simp at hy
    grind
 | pown o idx off n a sz es fr ho hv =>
  obtain ⟨h1,h2⟩:=hh o _ ho;refine .pown _ idx off n a sz (bX r es) fr h1 ?_;rw [h2];simpa [aB] using hv
 | imm l a cap sz b off val hcap ha hsz hc _ ih =>
  have:=VR.imm (ρ:=ρ') (h:=h') (w:=w) (bX r l) a cap sz b off val (by simpa [aB] using hcap) (by simpa [aB] using ha)
   (fun i x hx=>by rw [aB] at hx;simp at hx;obtain ⟨y,hy,rfl⟩:=hx;rw [bv];simpa using hsz i y hy)
   (fun i x j y hx hy=>by
    rw [aB] at hx;simp at hx;obtain ⟨x0,hx0,rfl⟩:=hx;rw [bv] at hy;simp at hy;obtain ⟨y0,hy0,rfl⟩:=hy;exact ⟨hI _ _ (hc i x0 j y0 hx0 hy0).1,(hc i x0 j y0 hx0 hy0).2⟩)
   (fun i x j y hx hy=>by
    rw [aB] at hx;simp at hx;obtain ⟨x0,hx0,rfl⟩:=hx;rw [bv] at hy;simp at hy;obtain ⟨y0,hy0,rfl⟩:=hy;exact ih i x0 j y0 hx0 hy0)
  simpa [aa.ren,aB] using this
 | full l a sz b off val ha hsz hc _ ih =>
  have:=VR.full (ρ:=ρ') (h:=h') (w:=w) (bX r l) a sz b off val (by simpa [aB] using ha)
   (fun i x hx=>by rw [aB] at hx;simp at hx;obtain ⟨y,hy,rfl⟩:=hx;rw [bv];simpa using hsz i y hy)
   (fun i x j y hx hy=>by
    rw [aB] at hx;simp at hx;obtain ⟨x0,hx0,rfl⟩:=hx;rw [bv] at hy;simp at hy;obtain ⟨y0,hy0,rfl⟩:=hy;exact ⟨hI _ _ (hc i x0 j y0 hx0 hy0).1,(hc i x0 j y0 hx0 hy0).2⟩)
   (fun i x j y hx hy=>by
    rw [aB] at hx;simp at hx;obtain ⟨x0,hx0,rfl⟩:=hx;rw [bv] at hy;simp at hy;obtain ⟨y0,hy0,rfl⟩:=hy;exact ih i x0 j y0 hx0 hy0)
  simpa [aa.ren,aB] using this
 | own o off len a n cap sz es fr ho hv =>
  obtain ⟨h1,h2⟩:=hh o _ ho;refine .own _ off len a n cap sz (bX r es) fr h1 ?_;rw [h2];simpa [aB] using hv
 | nilm=>exact .nilm
 | map o es ho =>
  obtain ⟨h1,h2⟩:=hh o _ ho;rw [<- h2];exact .map _ _ h1
 | fn f xs ys us vs hl hl' _ _ ih1 ih2 =>
  refine .fn f _ _ us vs (by simp [aB,hl]) (by simp [aB,hl']) (fun i x v hx hv=>?_) (fun i x v hx hv=>?_)
  . rw [aB] at hx;simp at hx
    grind
  . rw [aB] at hx;simp at hx
    grind
 | nilfn=>exact .nilfn
 | itr o m left ho =>
  obtain ⟨h1,h2⟩:=hh o _ ho;rw [<- h2];exact .itr _ _ _ h1
 | iface t x v _ ih=>exact .iface t _ v ih
 | nili=>exact .nili
theorem VR.ofRen {ρ ρ':Ren} {h h':af} {w:World} {r:Nat->Nat} (hI:∀ b j,ρ.I b j->ρ'.I b j)
 (hh:∀ o x,o<h'.length->h[r o]?=some x->∃ y,h'[o]?=some y/\x=y.ren r/\ρ'.loc o=ρ.loc (r o)) {y:aa} {v:Value} (hy:VR ρ h w y v):∀ x:aa,y=x.ren r->x.bel h'.length=true->VR ρ' h' w x v:=by
 have key:∀ o x,o<h'.length->h[r o]?=some x->∃ y,h'[o]?=some y/\x=y.ren r/\ρ'.loc o=ρ.loc (r o):=hh
 induction hy with
 | any v=>intro x e hb;cases x <;> simp [aa.ren] at e;exact .any v
 | bool b=>intro x e hb;cases x <;> simp [aa.ren] at e;subst e;exact .bool _
 | int k n=>intro x e hb;cases x <;> simp [aa.ren] at e;obtain ⟨rfl,rfl⟩:=e;exact .int _ _
 | str s=>intro x e hb;cases x <;> simp [aa.ren] at e;subst e;exact .str _
 | agg cs vs hl _ ih =>
  intro x e hb;cases x <;> simp [aa.ren] at e;rename_i cs';subst e;refine .agg _ vs (by simpa [aB] using hl) fun i x v hx hv=>?_
  exact ih i (x.ren r) v (by rw [aB];simp [hx]) hv x rfl (ch hb hx)
 | tup cs vs hl _ ih =>
  intro x e hb;cases x <;> simp [aa.ren] at e;rename_i cs';subst e;refine .tup _ vs (by simpa [aB] using hl) fun i x v hx hv=>?_
  exact ih i (x.ren r) v (by rw [aB];simp [hx]) hv x rfl (ch hb hx)
 | nilp=>intro x e hb;cases x <;> simp [aa.ren] at e;exact .nilp
 | ptr o off cs ho =>
  intro x e hb;cases x <;> simp [aa.ren] at e;obtain ⟨rfl,rfl⟩:=e;obtain ⟨y,h1,h2,h3⟩:=key _ _ (by simpa [aa.bel] using hb) ho;cases y <;> simp [am.ren] at h2
  rw [<- h3];exact .ptr _ _ _ h1
 | pimm cs off b base val hc _ ih =>
  intro x e hb;cases x <;> simp [aa.ren] at e;obtain ⟨rfl,rfl⟩:=e;refine .pimm _ _ b base val (fun j y hy=>?_) (fun j y hy=>?_)
  . have:=hc j (y.ren r) (by rw [aB];simp [hy])
    grind
  . exact ih j (y.ren r) (by rw [aB];simp [hy]) y rfl (ch hb hy)
 | pown o idx off n a sz es fr ho hv =>
  intro x e hb;cases x <;> simp [aa.ren] at e;obtain ⟨rfl,rfl,rfl,rfl⟩:=e;obtain ⟨y,h1,h2,h3⟩:=key _ _ (by simpa [aa.bel] using hb) ho;cases y <;> simp [am.ren] at h2
  obtain ⟨rfl,rfl,rfl⟩:=h2;refine .pown _ _ _ _ a _ _ _ h1 ?_;rw [h3];simpa [aB] using hv
 | imm l a cap sz b off val hcap ha hsz hc _ ih =>
  intro x e hb;cases x <;> simp [aa.ren] at e;rename_i l';subst e
  have:=VR.imm (ρ:=ρ') (h:=h') (w:=w) l' a cap sz b off val (by simpa [aB] using hcap) (by simpa [aB] using ha)
   (fun i x hx=>by have:=hsz i (x.ren r) (by rw [aB];simp [hx]);rw [bv] at this;simpa using this)
   (fun i x j y hx hy=>by
    have:=hc i (x.ren r) j (y.ren r) (by rw [aB];simp [hx]) (by rw [bv];simp [hy]);exact ⟨hI _ _ this.1,this.2⟩)
   (fun i x j y hx hy=>by
    refine ih i (x.ren r) j (y.ren r) (by rw [aB];simp [hx]) (by rw [bv];simp [hy]) y rfl ?_;have hbx:=ch hb hx;exact iJ hbx hy)
  simpa [aB] using this
 | full l a sz b off val ha hsz hc _ ih =>
  intro x e hb;cases x <;> simp [aa.ren] at e;rename_i l';subst e
  have:=VR.full (ρ:=ρ') (h:=h') (w:=w) l' a sz b off val (by simpa [aB] using ha)
   (fun i x hx=>by have:=hsz i (x.ren r) (by rw [aB];simp [hx]);rw [bv] at this;simpa using this)
   (fun i x j y hx hy=>by
    have:=hc i (x.ren r) j (y.ren r) (by rw [aB];simp [hx]) (by rw [bv];simp [hy]);exact ⟨hI _ _ this.1,this.2⟩)
   (fun i x j y hx hy=>by
    refine ih i (x.ren r) j (y.ren r) (by rw [aB];simp [hx]) (by rw [bv];simp [hy]) y rfl ?_;have hbx:=ch hb hx;exact iJ hbx hy)
  simpa [aB] using this
 | own o off len a n cap sz es fr ho hv =>
  intro x e hb;cases x <;> simp [aa.ren] at e;obtain ⟨rfl,rfl,rfl⟩:=e;obtain ⟨y,h1,h2,h3⟩:=key _ _ (by simpa [aa.bel] using hb) ho;cases y <;> simp [am.ren] at h2
  obtain ⟨rfl,rfl,rfl⟩:=h2;refine .own _ _ _ a _ _ _ _ _ h1 ?_;rw [h3];simpa [aB] using hv
 | nilm=>intro x e hb;cases x <;> simp [aa.ren] at e;exact .nilm
 | map o es ho =>
  intro x e hb;cases x <;> simp [aa.ren] at e;subst e;obtain ⟨y,h1,h2,h3⟩:=key _ _ (by simpa [aa.bel] using hb) ho;cases y <;> simp [am.ren] at h2
  rw [<- h3];exact .map _ _ h1
 | fn f xs ys us vs hl hl' _ _ ih1 ih2 =>
  intro x e hb;cases x <;> simp [aa.ren] at e;obtain ⟨rfl,rfl,rfl⟩:=e;simp only [aa.bel,Bool.and_eq_true] at hb;refine .fn _ _ _ us vs (by simpa [aB] using hl) (by simpa [aB] using hl') (fun i x v hx hv=>?_) (fun i x v hx hv=>?_)
  . exact ih1 i (x.ren r) v (by rw [aB];simp [hx]) hv x rfl (ch hb.1 hx)
  . exact ih2 i (x.ren r) v (by rw [aB];simp [hx]) hv x rfl (ch hb.2 hx)
 | nilfn=>intro x e hb;cases x <;> simp [aa.ren] at e;exact .nilfn
 | itr o m left ho =>
  intro x e hb;cases x <;> simp [aa.ren] at e;subst e;obtain ⟨y,h1,h2,h3⟩:=key _ _ (by simpa [aa.bel] using hb) ho;cases y <;> simp [am.ren] at h2
  rw [<- h3];exact .itr _ _ _ h1
 | iface t x v _ ih =>
  intro x e hb;cases x <;> simp [aa.ren] at e;obtain ⟨rfl,rfl⟩:=e;exact .iface _ _ v (ih _ rfl hb)
 | nili=>intro x e hb;cases x <;> simp [aa.ren] at e;exact .nili
theorem OR.toRen {ρ ρ':Ren} {h h':af} {w:World} {r:Nat->Nat} (hI:∀ b j,ρ.I b j->ρ'.I b j)
 (hh:∀ o x,h[o]?=some x->h'[r o]?=some (x.ren r)/\ρ'.loc (r o)=ρ.loc o) {l:Loc} {x:am} (hx:OR ρ h w l x):OR ρ' h' w l (x.ren r):=by
 cases x with
 | hole=>trivial
 | box cs =>
  obtain ⟨c,t,h1,h2,h3⟩:=hx;refine ⟨c,t,h1,by simp [aB,h2],fun i x v a b=>?_⟩;rw [aB] at a;simp at a;obtain ⟨y,hy,rfl⟩:=a;exact (h3 i y v hy b).toRen hI hh
 | arr sz es fr =>
  obtain ⟨h1,h2,h3,h4,h5⟩:=hx;refine ⟨by simpa [aB] using h1,by simpa [aB] using h2,h3,fun i x hx=>?_,fun hc=>?_⟩
  . rw [aB] at hx;simp at hx;obtain ⟨y,hy,rfl⟩:=hx;rw [bv];simpa using h4 i y hy
  . obtain ⟨c,t,h6,h7,h8⟩:=h5 hc;refine ⟨c,t,h6,h7,fun i x j y v a b d=>?_⟩;rw [aB] at a;simp at a;obtain ⟨x0,hx0,rfl⟩:=a;rw [bv] at b;simp at b;obtain ⟨y0,hy0,rfl⟩:=b;exact (h8 i x0 j y0 v hx0 hy0 d).toRen hI hh
 | map es =>
  obtain ⟨ms,clock,h1,h2,h3,h4⟩:=hx;refine ⟨ms,clock,h1,by simp [iX,h2],fun i kv e a b=>?_,h4⟩;rw [iX] at a;rw [List.getElem?_map] at a;cases hk:es[i]? with
  | none=>rw [hk] at a;simp at a
  | some kv0 =>
   rw [hk] at a;simp at a;subst a;obtain ⟨g1,g2,g3⟩:=h3 i kv0 e hk b;exact ⟨g1.toRen hI hh,g2.toRen hI hh,g3⟩
 | iter m left =>
  obtain ⟨since,seen,last,h1,es,ms,clock,h2,h3,h4⟩:=hx;obtain ⟨g1,g2⟩:=hh m _ h2;refine ⟨since,seen,last,by rw [g2];exact h1,nY r es,ms,clock,by simpa [am.ren] using g1,by rw [g2];exact h3,h4⟩
theorem OR.ofRen {ρ ρ':Ren} {h h':af} {w:World} {r:Nat->Nat} (hI:∀ b j,ρ.I b j->ρ'.I b j)
 (hh:∀ o x,o<h'.length->h[r o]?=some x->∃ y,h'[o]?=some y/\x=y.ren r/\ρ'.loc o=ρ.loc (r o)) {l:Loc} {x:am} (hb:x.belO h'.length=true) (hx:OR ρ h w l (x.ren r)):OR ρ' h' w l x:=by
 cases x with
 | hole=>trivial
 | box cs =>
  obtain ⟨c,t,h1,h2,h3⟩:=hx;refine ⟨c,t,h1,by simpa [aB] using h2,fun i x v a b=>?_⟩;exact (h3 i (x.ren r) v (by rw [aB];simp [a]) b).ofRen hI hh x rfl (ch hb a)
 | arr sz es fr =>
  obtain ⟨h1,h2,h3,h4,h5⟩:=hx;refine ⟨by simpa [aB] using h1,by simpa [aB] using h2,h3,fun i x hx=>?_,fun hc=>?_⟩
  . have:=h4 i (x.ren r) (by rw [aB];simp [hx]);rw [bv] at this;simpa using this
  . obtain ⟨c,t,h6,h7,h8⟩:=h5 hc;refine ⟨c,t,h6,h7,fun i x j y v a b d=>?_⟩;exact (h8 i (x.ren r) j (y.ren r) v (by rw [aB];simp [a]) (by rw [bv];simp [b]) d).ofRen hI hh y rfl (iJ (ch hb a) b)
 | map es =>
  obtain ⟨ms,clock,h1,h2,h3,h4⟩:=hx;refine ⟨ms,clock,h1,by simpa [iX] using h2,fun i kv e a b=>?_,h4⟩;obtain ⟨g1,g2,g3⟩:=h3 i (kv.1.ren r,kv.2.ren r) e (by rw [iX];simp [a]) b
  have hbk:kv.1.bel h'.length=true/\kv.2.bel h'.length=true:=by
   have:=List.all_eq_true.1 hb kv (List.mem_of_getElem? a);simpa using this
  exact ⟨g1.ofRen hI hh _ rfl hbk.1,g2.ofRen hI hh _ rfl hbk.2,g3⟩
 | iter m left =>
  obtain ⟨since,seen,last,h1,es,ms,clock,h2,h3,h4⟩:=hx;obtain ⟨y,g1,g2,g3⟩:=hh m _ (by simpa [am.belO] using hb) h2;cases y <;> simp [am.ren] at g2
  refine ⟨since,seen,last,by rw [g3];exact h1,_,ms,clock,g1,by rw [g3];exact h3,h4⟩
def cb (L:List Nat) (m:Nat) (i:Nat):Nat:=match L[i]? with
 | some o=>o
 | none=>m+(i - L.length)
def dG (h:af):List Nat->List am->af
 | o::L,x::xs=>dG (h.set o x) L xs
 | _,_=>h
def gL (r:Nat->Nat):af->af
 | []=>[]
 | x::xs=>x.ren r::gL r xs
theorem jl (r:Nat->Nat):∀ l:af,gL r l=l.map (am.ren r)
 | []=>rfl
 | x::l=>by simp [gL,jl r l]
def eY (h:af) (L:List Nat) (hs:af):af :=
 dG h L (gL (cb L h.length) (hs.take L.length))++gL (cb L h.length) (hs.drop L.length)
theorem c9:∀ (L:List Nat) (xs:List am) (h:af),(dG h L xs).length=h.length
 | [],xs,h=>by simp [dG]
 | o::L,[],h=>by simp [dG]
 | o::L,x::xs,h=>by simp [dG,c9 L xs]
theorem kC:∀ (L:List Nat) (xs:List am) (h:af) (o:Nat),o∉L->(dG h L xs)[o]?=h[o]?
 | [],xs,h,o,_=>by simp [dG]
 | p::L,[],h,o,_=>by simp [dG]
 | p::L,x::xs,h,o,ho=>by
  simp only [List.mem_cons,not_or] at ho;rw [dG,kC L xs _ o ho.2,List.getElem?_set_ne (fun e=>ho.1 e.symm)]
theorem ta:∀ (L:List Nat) (xs:List am) (h:af) (i:Nat) (o:Nat) (x:am),L.Nodup->(∀ p∈L,p<h.length)->L[i]?=some o->xs[i]?=some x->(dG h L xs)[o]?=some x
 | [],xs,h,i,o,x,_,_,h1,_=>by simp at h1
 | p::L,[],h,i,o,x,_,_,_,h2=>by simp at h2
 | p::L,y::xs,h,0,o,x,hn,hl,h1,h2=>by
  simp at h1 h2;subst h1 h2;rw [dG,kC L xs _ _ (List.nodup_cons.1 hn).1,List.getElem?_set_self (hl _ zq)]
 | p::L,y::xs,h,i+1,o,x,hn,hl,h1,h2=>by
  simp at h1 h2;exact ta L xs _ i o x (List.nodup_cons.1 hn).2 (fun q hq=>by simpa using hl q (by simp [hq])) h1 h2
structure uV (h:af) (L:List Nat) (hs:af):Prop where
 len:hs.length=L.length
 nodup:L.Nodup
 obj:∀ (i:Nat) o x,L[i]?=some o->hs[i]?=some x->h[o]?=some (x.ren (cb L h.length))
 bel:hs.all (am.belO hs.length)=true
 iter:∀ (o:Nat) m left,h[o]?=some (.iter m left)->o∉L->m∉L
section
variable {cx:Cx} {h:af} {L:List Nat} {hs:af}
theorem uV.lt (le:uV h L hs):∀ p∈L,p<h.length:=by
 intro p hp;obtain ⟨i,hi,he⟩:=List.getElem_of_mem hp;have hi':i<hs.length:=by rw [le.len];exact hi
 have:=le.obj i p _ (by rw [List.getElem?_eq_getElem hi,he]) (List.getElem?_eq_getElem hi')
 grind
theorem dx {i:Nat} {o:Nat} (m:Nat) (hi:L[i]?=some o):cb L m i=o:=by simp [cb,hi]
theorem jj {i:Nat} (m:Nat) (hi:L.length<=i):cb L m i=m+(i - L.length):=by simp [cb,List.getElem?_eq_none hi]
theorem pF:∀ {l:List Nat} {i j:Nat},l.Nodup->(hi:i<l.length)->(hj:j<l.length)->l[i]=l[j]->i=j
 | [],i,j,_,hi,_,_=>by simp at hi
 | x::l,0,0,_,_,_,_=>rfl
 | x::l,0,j+1,hn,_,hj,e=>by
  grind
 | x::l,i+1,0,hn,hi,_,e=>by
  grind
 | x::l,i+1,j+1,hn,hi,hj,e=>by
  simp at e;rw [pF (List.nodup_cons.1 hn).2 (by simpa using hi) (by simpa using hj) e]
theorem vI (le:uV h L hs) {i j:Nat} (e:cb L h.length i=cb L h.length j):i=j:=by
 rcases Nat.lt_or_ge i L.length with hi|hi <;> rcases Nat.lt_or_ge j L.length with hj|hj
 . rw [dx _ (List.getElem?_eq_getElem hi),dx _ (List.getElem?_eq_getElem hj)] at e;exact pF le.nodup hi hj e
 . rw [dx _ (List.getElem?_eq_getElem hi),jj _ hj] at e;have:=le.lt L[i] (List.getElem_mem hi);omega
 . rw [jj _ hi,dx _ (List.getElem?_eq_getElem hj)] at e;have:=le.lt L[j] (List.getElem_mem hj);omega
 . rw [jj _ hi,jj _ hj] at e;omega
theorem pj (le:uV h L hs) {hs':af} {i:Nat} {x:am} (hx:hs'[i]?=some x):(eY h L hs')[cb L h.length i]?=some (x.ren (cb L h.length)):=by
 unfold eY;rcases Nat.lt_or_ge i L.length with hi|hi
 . have hi':=List.getElem?_eq_getElem hi;rw [dx _ hi'];have hlt:=le.lt L[i] (List.getElem_mem hi);rw [List.getElem?_append_left (by rw [c9];exact hlt)];refine ta L _ h i _ _ le.nodup le.lt hi' ?_;rw [jl];simp [hi,hx]
 . rw [jj _ hi,List.getElem?_append_right (by rw [c9];omega),c9,jl]
   grind
theorem jF {hs':af} {o:Nat} (ho:o∉L) (hlt:o<h.length):(eY h L hs')[o]?=h[o]?:=by
 unfold eY;rw [List.getElem?_append_left (by rw [c9];exact hlt),kC L _ h o ho]
theorem fo (le:uV h L hs) {hs':af} (hl:hs.length<=hs'.length) {o:Nat} {x:am} (hx:(eY h L hs')[o]?=some x) :
 (∃ i y,hs'[i]?=some y/\o=cb L h.length i/\x=y.ren (cb L h.length))\/(o∉L/\h[o]?=some x):=by
 by_cases hlt:o<h.length
 . by_cases ho:o∈L
   . obtain ⟨i,hi,he⟩:=List.getElem_of_mem ho;have hi2:i<hs'.length:=by have:=le.len;omega
     have h1:=pj le (hs':=hs') (List.getElem?_eq_getElem hi2);rw [dx _ (List.getElem?_eq_getElem hi),he,hx] at h1;refine .inl ⟨i,_,List.getElem?_eq_getElem hi2,?_,by simpa using h1⟩;rw [dx _ (List.getElem?_eq_getElem hi),he]
   . rw [jF ho hlt] at hx;exact .inr ⟨ho,hx⟩
 . unfold eY at hx;rw [List.getElem?_append_right (by rw [c9];omega),c9,jl] at hx;simp at hx;obtain ⟨y,hy,rfl⟩:=hx;refine .inl ⟨L.length+(o - h.length),y,hy,?_,rfl⟩;rw [jj _ oq];omega
theorem gE {f:FuncId} {args:List aa} {Q:aa->af->Prop} {K:aa->af->Prop} (le:uV h L hs) (hc:av cx f args hs Q) (hb:aC hs.length args=true)
 (hk:∀ v hs',hs.length<=hs'.length->Q v hs'->K (v.ren (cb L h.length)) (eY h L hs')):av cx f (bX (cb L h.length) args) h K:=by
 refine ⟨hc.1,fun ρ w cargs wf hg hv=>?_⟩
 let r:=cb L h.length
 let ρs:Ren:=⟨fun i=>ρ.loc (r i),ρ.I⟩
 have hin:∀ o x,o<hs.length->h[r o]?=some x->∃ y,hs[o]?=some y/\x=y.ren r/\ρs.loc o=ρ.loc (r o):=by
  intro o x ho hx;have hoL:o<L.length:=by rw [<- le.len];exact ho
  have h1:=le.obj o L[o] hs[o] (List.getElem?_eq_getElem hoL) (List.getElem?_eq_getElem ho);have:r o=L[o]:=dx _ (List.getElem?_eq_getElem hoL)
  grind
 have hget:∀ (i:Nat) x,hs[i]?=some x->h[r i]?=some (x.ren r):=by
  intro i x hx
  have hi:i<hs.length:=by
   grind
  have hiL:i<L.length:=by rw [<- le.len];exact hi
  have:r i=L[i]:=dx _ (List.getElem?_eq_getElem hiL);rw [this];exact le.obj i _ x (List.getElem?_eq_getElem hiL) hx
 have wfs:WF ρs hs w:=by
  refine ⟨fun i x hx=>?_,fun i x j y hx hy hbx hby e=>?_,fun i x hx hbx=>?_,wf.immlt,fun i x j hx hbx hI=>?_⟩
  . have h1:=wf.obj (r i) _ (hget i x hx);refine OR.ofRen (ρ:=ρ) (ρ':=ρs) (h:=h) (r:=r) (fun _ _ h=>h) hin ?_ h1;exact List.all_eq_true.1 le.bel x (List.mem_of_getElem? hx)
  . have h1:=wf.inj (r i) _ (r j) _ (hget i x hx) (hget j y hy) (by rw [b8];exact hbx) (by rw [b8];exact hby) e;exact vI le h1
  . exact wf.lt (r i) _ (hget i x hx) (by rw [b8];exact hbx)
  . have:=wf.imm (r i) _ j (hget i x hx) (by rw [b8];exact hbx) hI;rw [sQ] at this;exact this
 have hvs:VRs ρs hs w args cargs:=by
  refine ⟨by rw [hv.1,aB];simp,fun i x v hx hcv=>?_⟩;exact (hv.2 i (x.ren r) v (by rw [aB];simp [hx];rfl) hcv).ofRen (ρ:=ρ) (ρ':=ρs) (h:=h) (h':=hs) (r:=r) (fun _ _ h=>h) hin x rfl (ch hb hx)
 have hgs:vC cx ρs w:=fun g cs hg'=>(hg g cs hg').of_nil (ρ':=ρs) (fun _ _ h=>h) []
 refine (hc.2 ρs w cargs wfs hgs hvs).mono ?_;rintro e w' ⟨ρs',cv,v,hs',rfl,q,hvr,wf',le',fr'⟩
 have hlen:hs.length<=hs'.length:=by
  rcases Nat.lt_or_ge hs'.length hs.length with h1|h1
  . exfalso;obtain ⟨x',hx',_⟩:=le'.obj hs'.length _ (List.getElem?_eq_getElem h1)
    grind
  . exact h1
 have lentLe:∀ b,gV ρs hs b->gV ρ h b:=by
  rintro b ⟨i,x,h1,h2,h3⟩;exact ⟨r i,_,hget i x h1,by rw [b8];exact h2,h3⟩
 have apart:∀ o x,o∉L->h[o]?=some x->x.hasBlk (ρ.loc o)=true->¬ gV ρs hs (ρ.loc o).blk:=by
  rintro o x ho hx hbx ⟨i,y,h1,h2,h3⟩;have h4:=wf.inj (r i) _ o x (hget i y h1) hx (by rw [b8];exact h2) hbx h3
  have hi:i<L.length:=by
   rw [<- le.len]
   grind
  have:r i=L[i]:=dx _ (List.getElem?_eq_getElem hi)
  grind
 let inv:Nat->Nat:=fun o=>open Classical in if hx:∃ i,i<hs'.length/\r i=o then Classical.choose hx else 0
 have hinv:∀ i,i<hs'.length->inv (r i)=i:=by
  intro i hi;have hx:∃ j,j<hs'.length/\r j=r i:=⟨i,hi,rfl⟩;have:=Classical.choose_spec hx;simp only [inv,hx,dif_pos];exact vI le this.2
 let ρ':Ren:=⟨fun o=>open Classical in if ∃ i,i<hs'.length/\r i=o then ρs'.loc (inv o) else ρ.loc o,ρs'.I⟩
 have loc1:∀ i,i<hs'.length->ρ'.loc (r i)=ρs'.loc i:=by
  intro i hi;have hx:∃ j,j<hs'.length/\r j=r i:=⟨i,hi,rfl⟩;simp only [ρ',hx,if_pos];rw [hinv i hi]
 have loc2:∀ o,o∉L->o<h.length->ρ'.loc o=ρ.loc o:=by
  intro o ho hlt
  have hx:¬ ∃ j,j<hs'.length/\r j=o:=by
   rintro ⟨j,hj,rfl⟩;rcases Nat.lt_or_ge j L.length with h1|h1
   . have:r j=L[j]:=dx _ (List.getElem?_eq_getElem h1)
     grind
   . have:r j=h.length+(j - L.length):=jj _ h1;omega
  grind
 have ltOf:∀ {α:Type} {l:List α} {i:Nat} {x:α},l[i]?=some x->i<l.length:=by
  grind
 have hout:∀ o x,hs'[o]?=some x->(eY h L hs')[r o]?=some (x.ren r)/\ρ'.loc (r o)=ρs'.loc o :=
  fun o x hx=>⟨pj le hx,loc1 o (ltOf hx)⟩
 have hle:Le ρ h w ρ' (eY h L hs') w':=by
  refine ⟨fun o x hx=>?_,le'.imm⟩;by_cases ho:o∈L
  . obtain ⟨i,hi,he⟩:=List.getElem_of_mem ho;have hi1:i<hs.length:=by rw [le.len];exact hi
    have hi2:i<hs'.length:=by omega
    have hri:r i=o:=by rw [<- he];exact dx _ (List.getElem?_eq_getElem hi)
    obtain ⟨x',hx',hg'⟩:=le'.obj i _ (List.getElem?_eq_getElem hi1);refine ⟨x'.ren r,by rw [<- hri];exact pj le hx',?_⟩;have h2:=hget i _ (List.getElem?_eq_getElem hi1);rw [hri,hx] at h2;simp at h2;subst h2;rw [F1,<- hri,loc1 i hi2];exact hg'
  . have hlt:=ltOf hx;exact ⟨x,by rw [jF ho hlt];exact hx,by rw [loc2 o ho hlt];exact x.grows_refl _⟩
 have hwf:WF ρ' (eY h L hs') w':=by
  refine ⟨fun o x hx=>?_,fun o x p y hx hy hbx hby e=>?_,fun o x hx hbx=>?_,wf'.immlt,fun o x j hx hbx hI=>?_⟩
  . rcases fo le hlen hx with ⟨i,y,hy,rfl,rfl⟩|⟨ho,hx0⟩
    . rw [loc1 i (ltOf hy)];exact (wf'.obj i y hy).toRen (ρ:=ρs') (ρ':=ρ') (r:=r) (fun _ _ h=>h) hout
    . rw [loc2 o ho (ltOf hx0)];refine (wf.obj o x hx0).mono hle (fun hbx=>?_) ?_
      . exact fr'.keep _ (wf.lt o x hx0 hbx) (apart o x ho hx0 hbx)
      . intro m left ex;subst ex;have hm:=le.iter o m left hx0 ho;obtain ⟨since,seen,last,_,es,ms,clock,h2,h3,_⟩:=wf.obj o _ hx0;refine ⟨es,by rw [jF hm (ltOf h2)];exact h2,h2,loc2 m hm (ltOf h2),?_⟩;exact fr'.keep _ (wf.lt m _ h2 rfl) (apart m _ hm h2 rfl)
  . rcases fo le hlen hx with ⟨i,x',hx',rfl,rfl⟩|⟨ho,hx0⟩ <;> rcases fo le hlen hy with ⟨j,y',hy',rfl,rfl⟩|⟨hp,hy0⟩
    . rw [loc1 i (ltOf hx')] at hbx e;rw [loc1 j (ltOf hy')] at hby e;rw [b8] at hbx hby
      rw [wf'.inj i x' j y' hx' hy' hbx hby e]
    . exfalso;rw [loc1 i (ltOf hx')] at hbx e;rw [loc2 p hp (ltOf hy0)] at hby e;rw [b8] at hbx;have hlt:=wf.lt p y hy0 hby
      have:=fr'.own i x' hx' hbx (by rw [e];exact hlt);rw [e] at this;exact apart p y hp hy0 hby this
    . exfalso;rw [loc1 j (ltOf hy')] at hby e;rw [loc2 o ho (ltOf hx0)] at hbx e;rw [b8] at hby
      have hlt:=wf.lt o x hx0 hbx;have:=fr'.own j y' hy' hby (by rw [<- e];exact hlt);rw [<- e] at this;exact apart o x ho hx0 hbx this
    . rw [loc2 o ho (ltOf hx0)] at hbx e;rw [loc2 p hp (ltOf hy0)] at hby e;exact wf.inj o x p y hx0 hy0 hbx hby e
  . rcases fo le hlen hx with ⟨i,x',hx',rfl,rfl⟩|⟨ho,hx0⟩
    . rw [loc1 i (ltOf hx')] at hbx ⊢;rw [b8] at hbx;exact wf'.lt i x' hx' hbx
    . rw [loc2 o ho (ltOf hx0)] at hbx ⊢;exact Nat.lt_of_lt_of_le (wf.lt o x hx0 hbx) fr'.size
  . rcases fo le hlen hx with ⟨i,x',hx',rfl,rfl⟩|⟨ho,hx0⟩
    . rw [loc1 i (ltOf hx')] at hbx hI ⊢;rw [b8] at hbx;rw [sQ];exact wf'.imm i x' j hx' hbx hI
    . rw [loc2 o ho (ltOf hx0)] at hbx hI ⊢;rcases fr'.new _ j hI (wf.lt o x hx0 hbx) with g|g
      . exact wf.imm o x j hx0 hbx g
      . exact (apart o x ho hx0 hbx g).elim
 refine ⟨ρ',cv,_,_,rfl,hk v hs' hlen q,hvr.toRen (ρ:=ρs') (ρ':=ρ') (r:=r) (fun _ _ h=>h) hout,hwf,hle,⟨fr'.os,fr'.tape,fr'.output,fr'.size,?_,fr'.imm,?_,?_⟩⟩
 . intro b hb' hnl;exact fr'.keep b hb' (fun hl=>hnl (lentLe b hl))
 . intro b j hI hb';rcases fr'.new b j hI hb' with g|g
   . exact .inl g
   . exact .inr (lentLe b g)
 . intro o x hx hbx hb';rcases fo le hlen hx with ⟨i,x',hx',rfl,rfl⟩|⟨ho,hx0⟩
   . rw [loc1 i (ltOf hx')] at hbx hb' ⊢;rw [b8] at hbx;exact lentLe _ (fr'.own i x' hx' hbx hb')
   . rw [loc2 o ho (ltOf hx0)] at hbx hb' ⊢;exact ⟨o,x,hx0,hbx,rfl⟩
end
end
section
structure BOp where
 dst:Option Nat
 g:Option (Nat×Bool)
 op:Op
def cOp (n:Nat) (ops:Array Oper) (o:Oper):Option BOp :=
 if iP n o.dst then
  match o.guard with
  | none=>some ⟨o.dst,none,o.op⟩
  | some (j,w)=>match (ops[j]?).bind (·.dst) with
   | some d=>some ⟨o.dst,some (d,w),o.op⟩
   | none=>none
 else none
def uX (n:Nat) (ops:Array Oper):List Oper->Option (List BOp)
 | []=>some []
 | o::os=>match cOp n ops o with
  | some b=>match uX n ops os with
   | some bs=>some (b::bs)
   | none=>none
  | none=>none
def bt (T:Tm):Option (Nat×Bool)->Option Bool
 | none=>some true
 | some (d,w)=>match Tm.get T d with
  | .bool b=>some (b==w)
  | .tup _=>some false
  | _=>none
def lv:Option Bool->Prop->Prop->Prop
 | some true,A,_=>A
 | some false,_,B=>B
 | none,_,_=>False
def m0 (o:Option (aa×af)) (F:aa->af->Prop) (C:Prop):Prop:=match o with
 | some r=>F r.1 r.2
 | none=>C
def xO (o:Option (FuncId×List aa)) (F:FuncId->List aa->Prop) (C:Prop):Prop:=match o with
 | some r=>F r.1 r.2
 | none=>C
def Ob (o:Option (List (aa×af))) (F:aa->af->Prop):Prop:=match o with
 | some l=>∀ r,r∈l->F r.1 r.2
 | none=>False
def VA (o:Option (aa×af)) (F:aa->af->Prop):Prop:=match o with
 | some r=>F r.1 r.2
 | none=>False
theorem By {o o':Option Bool} {a:Nat} (A B:Prop) (_:∀ _:Unit,(0:Nat)+1=a) (h:∀ _:Unit,o=o'):lv o A B=lv o' A B:=by rw [h ()]
theorem Df {o o':Option (aa×af)} {a:Nat} (F:aa->af->Prop) (C:Prop) (_:∀ _:Unit,(0:Nat)+1=a) (h:∀ _:Unit,o=o'):m0 o F C=m0 o' F C:=by rw [h ()]
theorem CL {o o':Option (FuncId×List aa)} {a:Nat} (F:FuncId->List aa->Prop) (C:Prop) (_:∀ _:Unit,(0:Nat)+1=a) (h:∀ _:Unit,o=o'):xO o F C=xO o' F C:=by rw [h ()]
theorem Cv {o o':Option (List (aa×af))} {a:Nat} (F:aa->af->Prop) (_:∀ _:Unit,(0:Nat)+1=a) (h:∀ _:Unit,o=o'):Ob o F=Ob o' F:=by rw [h ()]
theorem AB (p:Prop) {a:Nat} (_:∀ _:Unit,(0:Nat)+1=a):nF p=nF p:=rfl
attribute [congr] By Df CL Cv AB
def lF (cx:Cx):List BOp->Tm->af->(Tm->af->Prop)->Prop
 | [],T,h,K=>K T h
 | o::os,T,h,K=>lv (bt T o.g)
  (m0 (aop cx.P h (aev cx.G T) o.op) (fun v h'=>lF cx os (ci T o.dst v) h' K\/VA (bso cx.P h (aev cx.G T) o.op) (fun v h'=>nF (lF cx os (ci T o.dst v) h' K)))
   (xO (aI (aev cx.G T) o.op) (fun f args=>av cx f args h fun v h'=>nF (lF cx os (ci T o.dst v) h' K))
    (Ob (anx cx.P h (aev cx.G T) o.op) fun v h'=>nF (lF cx os (ci T o.dst v) h' K))))
  (lF cx os (ci T o.dst (.tup [])) h K)
def KY (o:Option (List aa)) (F:List aa->Prop):Prop:=match o with
 | some cs=>F cs
 | none=>False
theorem BO {o o':Option (List aa)} {a:Nat} (F:List aa->Prop) (_:∀ _:Unit,(0:Nat)+1=a) (h:∀ _:Unit,o=o'):KY o F=KY o' F:=by rw [h ()]
attribute [congr] BO
def jm (cx:Cx):List BOp->Nat->Tm->af->List (List Nat×List Nat)->(List (List Nat×List Nat)->Tm->af->Prop)->Prop
 | [],_,T,h,rs,K=>K rs T h
 | o::os,k,T,h,rs,K=>lv (bt T o.g)
  (lv (some (fv o.op))
   (KY (apl cx.P (aev cx.G T) o.op) fun cs=>lQ h k=true/\nF (jm cx os (k+1) (ci T o.dst (.ptr k 0)) (h.set k (.box cs)) (rs++[([k],[k])]) K))
   (m0 (aop cx.P h (aev cx.G T) o.op) (fun v h'=>jm cx os k (ci T o.dst v) h' (rs++[(ard (aev cx.G T) o.op,awr h (aev cx.G T) o.op)]) K)
    (xO (aI (aev cx.G T) o.op) (fun f args=>∃ L v h',nF (kr cx f args h L v h')/\nF (jm cx os k (ci T o.dst v) h' (rs++[(L,L)]) K)) False)))
  (jm cx os (bif fv o.op then k+1 else k) (ci T o.dst (.tup [])) h (rs++[([],[])]) K)
section
variable {cx:Cx} {n m:Nat} {Q:cP} {T:Tm} {h:af}
theorem A7 {ops:Array Oper} {o:Oper} {b:BOp} (hc:cOp n ops o=some b):iP n o.dst=true/\b.dst=o.dst/\b.op=o.op/\∀ T,bt T b.g=dr ops T o.guard:=by
 unfold cOp at hc;split at hc
 . rename_i hd;split at hc
   . rename_i hg;simp at hc;subst hc;exact ⟨hd,rfl,rfl,fun T=>by simp [bt,dr,hg]⟩
   . rename_i j w hg;split at hc <;> simp at hc;rename_i d hj;subst hc
     exact ⟨hd,rfl,rfl,fun T=>by
      simp only [bt,dr,hg,hj]
      all_goals (cases Tm.get T d <;> rfl)⟩
 . simp at hc
theorem iI {ops:Array Oper} {K:Tm->af->Prop}:∀ (os:List Oper) (bs:List BOp) (T:Tm) (h:af),uX n ops os=some bs->lF cx bs T h K->td cx n ops os T h K
 | [],bs,T,h,hc,hb=>by simp [uX] at hc;subst hc;exact hb
 | o::os,bs,T,h,hc,hb=>by
  simp only [uX] at hc;split at hc <;> try (simp at hc;done)
  rename_i b h1;split at hc <;> simp at hc;rename_i bs' h2;subst hc;obtain ⟨g1,g2,g3,g4⟩:=A7 h1;simp only [lF,g2,g3,g4] at hb;refine ⟨g1,?_⟩;cases hg:dr ops T o.guard with
  | none=>rw [hg] at hb;exact hb.elim
  | some t =>
   rw [hg] at hb;cases t with
   | false=>exact iI os bs' _ _ h2 hb
   | true =>
    simp only [lv] at hb;cases ho:aop cx.P h (aev cx.G T) o.op with
    | some r =>
     rw [ho] at hb;rcases hb with hb|hb
     . exact .inl (iI os bs' _ _ h2 hb)
     . refine .inr ?_;cases hs:bso cx.P h (aev cx.G T) o.op with
       | none=>rw [hs] at hb;exact hb.elim
       | some q=>rw [hs] at hb;exact iI os bs' _ _ h2 hb
    | none =>
     rw [ho] at hb;simp only [m0] at hb;cases hcl:aI (aev cx.G T) o.op with
     | none =>
      rw [hcl] at hb;simp only [xO] at hb;cases hnx:anx cx.P h (aev cx.G T) o.op with
      | none=>rw [hnx] at hb;exact hb.elim
      | some l=>rw [hnx] at hb;exact fun r hr=>iI os bs' _ _ h2 (hb r hr)
     | some c =>
      rw [hcl] at hb;exact av.mono hb fun v h' q=>iI os bs' _ _ h2 q
theorem gF {ops:Array Oper} {K:List fH->Tm->af->Prop}:∀ (os:List Oper) (bs:List BOp) (k:Nat) (T:Tm) (h:af) (rs:List fH),uX n ops os=some bs->jm cx bs k T h rs K->lq cx n ops os k T h rs K
 | [],bs,k,T,h,rs,hc,hb=>by simp [uX] at hc;subst hc;exact hb
 | o::os,bs,k,T,h,rs,hc,hb=>by
  simp only [uX] at hc;split at hc <;> try (simp at hc;done)
  rename_i b h1;split at hc <;> simp at hc;rename_i bs' h2;subst hc;obtain ⟨g1,g2,g3,g4⟩:=A7 h1;simp only [jm,g2,g3,g4] at hb;refine ⟨g1,?_⟩;cases hg:dr ops T o.guard with
  | none=>rw [hg] at hb;exact hb.elim
  | some t =>
   rw [hg] at hb;cases t with
   | false=>exact gF os bs' _ _ _ _ h2 hb
   | true =>
    simp only [lv] at hb;cases hal:fv o.op with
    | true =>
     rw [hal] at hb;simp only at hb;simp only [cond_true];cases hp:apl cx.P (aev cx.G T) o.op with
     | none=>rw [hp] at hb;exact hb.elim
     | some cs=>rw [hp] at hb;exact ⟨hb.1,gF os bs' _ _ _ _ h2 hb.2⟩
    | false =>
     rw [hal] at hb;simp only at hb;simp only [cond_false];cases ho:aop cx.P h (aev cx.G T) o.op with
     | some r=>rw [ho] at hb;exact gF os bs' _ _ _ _ h2 hb
     | none =>
      rw [ho] at hb;simp only [m0] at hb;cases hcl:aI (aev cx.G T) o.op with
      | none=>rw [hcl] at hb;exact hb.elim
      | some c =>
       rw [hcl] at hb;obtain ⟨L,v,h',q1,q2⟩:=hb;exact ⟨L,v,h',q1,gF os bs' _ _ _ _ h2 q2⟩
def ic (L:List Nat) (T:Tm):Tm:=match L with
 | []=>[]
 | t::L=>(t,Tm.get T t)::ic L T
theorem GH (L:List Nat) (T:Tm) (t:Nat):Tm.get (ic L T) t=.any\/Tm.get (ic L T) t=Tm.get T t:=by
 induction L with
 | nil=>exact .inl rfl
 | cons s L ih =>
  simp only [ic,Tm.get]
  grind
theorem Jn {c:Code} {S:Tm} (hT:Tm.le T S) (hw:wpA cx n m c Q S h):wpA cx n m c Q T h:=by
 intro E B ρ a w hm hr;refine hw E B ρ a w hm ⟨fun t=>?_,hr.size,hr.defers,hr.glob,hr.wf,hr.fr,hr.le⟩;rcases hT t with e|e
 . rw [e];exact .any _
 . rw [e];exact hr.tm t
theorem ab {K:Tm->af->Prop} (q:K T h):cM K Q .normal T h:=q
theorem ac {K:Tm->af->Prop} {id:Nat} (q:Q (.exit id) T h):cM K Q (.exit id) T h:=q
theorem tc (q:Q .normal T h):xW Q .normal T h:=q
theorem ag {id:Nat} (q:Q .normal T h):AIn id Q .normal T h:=q
theorem ao {id:Nat} (q:Q .normal T h):AIn id Q (.exit id) T h:=by simpa [AIn] using q
theorem eS {id id':Nat} (hne:id'≠id) (q:Q (.exit id') T h):AIn id Q (.exit id') T h:=by simpa [AIn,hne] using q
end
end
end Go.Proofs.YtcpklndelobigaaGreatDoor.Abs
