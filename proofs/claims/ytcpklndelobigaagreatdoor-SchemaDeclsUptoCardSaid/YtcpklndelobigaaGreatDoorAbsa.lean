/- Abstract values and heaps of the Go model, and what each operation does on them, sound for the model. No condition. -/
import Derived.Calls
import Derived.Laws.World
import Derived.Laws.Rows
import Derived.Laws.Cells
import Derived.Laws.CopyRow
import Derived.Laws.Append
import Derived.Below
import Derived.KernelRfl
import Derived.Scope
import GoSem.Dispatch
set_option linter.all false
namespace Go.Proofs.YtcpklndelobigaaGreatDoor
theorem kq {p : Prop} (h : p := by kernel_rfl) : p := h
theorem oq {p : Prop} (h : p := by omega) : p := h
theorem aq {p : Prop} (h : p := by assumption) : p := h
theorem dq {p : Prop} (h : p := by decide) : p := h
theorem zq {p : Prop} (h : p := by simp) : p := h
end Go.Proofs.YtcpklndelobigaaGreatDoor
namespace Go.Proofs.YtcpklndelobigaaGreatDoor.Abs
section
inductive aa where
 | any
 | bool (b:Bool)
 | int (k:IntKind) (n:Int)
 | str (s:List UInt8)
 | agg (cs:List aa)
 | tup (vs:List aa)
 | nilp
 | ptr (o off:Nat)
 | pimm (cs:List aa) (off:Nat)
 | pown (o idx off n:Nat)
 | imm (l:List aa)
 | full (l:List aa)
 | own (o off len:Nat)
 | nilm
 | map (o:Nat)
 | fn (f:Fn) (first captured:List aa)
 | nilfn
 | itr (o:Nat)
 | iface (t:TypeId) (v:aa)
 | nili
def aa.cells:aa->List aa
 | .agg cs=>cs
 | v=>[v]
inductive am where
 | hole
 | box (cs:List aa)
 | arr (sz:Nat) (es:List aa) (fr:Nat)
 | map (es:List (aa×aa))
 | iter (m:Nat) (left:List Nat×Option Nat)
abbrev af:=List am
structure Loc where
 blk:Nat
 base:Nat
 cap:Nat
structure Ren where
 loc:Nat->Loc
 I:Nat->Nat->Prop
def am.grows (l l':Loc):am->am->Prop
 | .arr sz es _,.arr sz' es' _=>es.length<=es'.length/\(es'.length=es.length->sz'=sz/\l'=l)
 | .box _,.box _=>l'=l
 | .map _,.map _=>l'=l
 | .iter _ _,.iter _ _=>l'=l
 | .hole,_=>True
 | _,_=>False
inductive VR (ρ:Ren) (h:af) (w:World):aa->Value->Prop
 | any (v:Value):VR ρ h w .any v
 | bool (b:Bool):VR ρ h w (.bool b) (.bool b)
 | int (k:IntKind) (n:Int):VR ρ h w (.int k n) (.int k n)
 | str (s:List UInt8):VR ρ h w (.str s) (.string ⟨s.toArray⟩)
 | agg (cs:List aa) (vs:Array Value) (hl:vs.size=cs.length)
  (hv:∀ (i:Nat) x v,cs[i]?=some x->vs[i]?=some v->VR ρ h w x v):VR ρ h w (.agg cs) (.agg vs)
 | tup (cs:List aa) (vs:Array Value) (hl:vs.size=cs.length)
  (hv:∀ (i:Nat) x v,cs[i]?=some x->vs[i]?=some v->VR ρ h w x v):VR ρ h w (.tup cs) (.tuple vs)
 | nilp:VR ρ h w .nilp (.pointer none)
 | ptr (o off:Nat) (cs:List aa) (ho:h[o]?=some (.box cs)):VR ρ h w (.ptr o off) (.pointer (some ⟨(ρ.loc o).blk,off,none⟩))
 | pimm (cs:List aa) (off b base:Nat) (val:Nat->Value)
  (hc:∀ (j:Nat) y,cs[j]?=some y->ρ.I b (base+j)/\w.cell? ⟨b,base+j,none⟩=some (val j))
  (hv:∀ (j:Nat) y,cs[j]?=some y->VR ρ h w y (val j)):VR ρ h w (.pimm cs off) (.pointer (some ⟨b,base+off,none⟩))
 | pown (o idx off n:Nat) (a:Option Addr) (sz:Nat) (es:List aa) (fr:Nat) (ho:h[o]?=some (.arr sz es fr))
  (hv:n<=es.length/\(es.length=n->a=some ⟨(ρ.loc o).blk,(ρ.loc o).base+idx * sz+off,none⟩)):VR ρ h w (.pown o idx off n) (.pointer a)
 | imm (l:List aa) (a:Option Addr) (cap sz b off:Nat) (val:Nat->Nat->Value)
  (hcap:l.length<=cap) (ha:0<l.length->a=some ⟨b,off,none⟩)
  (hsz:∀ (i:Nat) x,l[i]?=some x->x.cells.length=sz)
  (hc:∀ (i:Nat) x (j:Nat) y,l[i]?=some x->x.cells[j]?=some y ->
   ρ.I b (off+i * sz+j)/\w.cell? ⟨b,off+i * sz+j,none⟩=some (val i j))
  (hv:∀ (i:Nat) x (j:Nat) y,l[i]?=some x->x.cells[j]?=some y->VR ρ h w y (val i j)) :
  VR ρ h w (.imm l) (.slice a l.length cap)
 | full (l:List aa) (a:Option Addr) (sz b off:Nat) (val:Nat->Nat->Value)
  (ha:0<l.length->a=some ⟨b,off,none⟩)
  (hsz:∀ (i:Nat) x,l[i]?=some x->x.cells.length=sz)
  (hc:∀ (i:Nat) x (j:Nat) y,l[i]?=some x->x.cells[j]?=some y ->
   ρ.I b (off+i * sz+j)/\w.cell? ⟨b,off+i * sz+j,none⟩=some (val i j))
  (hv:∀ (i:Nat) x (j:Nat) y,l[i]?=some x->x.cells[j]?=some y->VR ρ h w y (val i j)) :
  VR ρ h w (.full l) (.slice a l.length l.length)
 | own (o off len:Nat) (a:Option Addr) (n cap:Nat) (sz:Nat) (es:List aa) (fr:Nat) (ho:h[o]?=some (.arr sz es fr))
  (hv:off+len<=es.length/\(off+len=es.length->n=len/\off+cap=(ρ.loc o).cap /\
   (0<cap->a=some ⟨(ρ.loc o).blk,(ρ.loc o).base+off * sz,none⟩))):VR ρ h w (.own o off len) (.slice a n cap)
 | nilm:VR ρ h w .nilm (.map none)
 | map (o:Nat) (es:List (aa×aa)) (ho:h[o]?=some (.map es)):VR ρ h w (.map o) (.map (some (ρ.loc o).blk))
 | fn (f:Fn) (xs ys:List aa) (us vs:Array Value) (hl:us.size=xs.length) (hl':vs.size=ys.length)
  (hu:∀ (i:Nat) x v,xs[i]?=some x->us[i]?=some v->VR ρ h w x v)
  (hv:∀ (i:Nat) x v,ys[i]?=some x->vs[i]?=some v->VR ρ h w x v):VR ρ h w (.fn f xs ys) (.func f us vs)
 | nilfn:VR ρ h w .nilfn .nilFunc
 | itr (o m:Nat) (left:List Nat×Option Nat) (ho:h[o]?=some (.iter m left)):VR ρ h w (.itr o) (.pointer (some ⟨(ρ.loc o).blk,0,none⟩))
 | iface (t:TypeId) (x:aa) (v:Value) (hv:VR ρ h w x v):VR ρ h w (.iface t x) (.iface t v)
 | nili:VR ρ h w .nili .nilIface
structure Le (ρ:Ren) (h:af) (w:World) (ρ':Ren) (h':af) (w':World):Prop where
 obj:∀ (o:Nat) x,h[o]?=some x->∃ x',h'[o]?=some x'/\x.grows (ρ.loc o) (ρ'.loc o) x'
 imm:∀ b j,ρ.I b j->ρ'.I b j/\w'.cell? ⟨b,j,none⟩=w.cell? ⟨b,j,none⟩
theorem am.grows_refl (l:Loc) (x:am):x.grows l l x:=by cases x <;> simp [am.grows]
theorem Le.refl (ρ:Ren) (h:af) (w:World):Le ρ h w ρ h w :=
 ⟨fun _ x hx=>⟨x,hx,x.grows_refl _⟩,fun _ _ h=>⟨h,rfl⟩⟩
theorem am.grows_trans {l l' l'':Loc} {x y z:am} (h:x.grows l l' y) (k:y.grows l' l'' z):x.grows l l'' z:=by
 cases x <;> cases y <;> simp_all [am.grows] <;> cases z <;> simp_all
 grind
theorem Le.trans {ρ ρ' ρ'':Ren} {h h' h'':af} {w w' w'':World} (a:Le ρ h w ρ' h' w') (b:Le ρ' h' w' ρ'' h'' w''):Le ρ h w ρ'' h'' w'':=by
 constructor
 . intro o x hx;obtain ⟨y,hy,gy⟩:=a.obj o x hx;obtain ⟨z,hz,gz⟩:=b.obj o y hy;exact ⟨z,hz,am.grows_trans gy gz⟩
 . intro b' j hI;obtain ⟨h1,h2⟩:=a.imm b' j hI;obtain ⟨h3,h4⟩:=b.imm b' j h1;exact ⟨h3,h4.trans h2⟩
theorem VR.mono {ρ ρ':Ren} {h h':af} {w w':World} (le:Le ρ h w ρ' h' w') {x:aa} {v:Value}
 (hx:VR ρ h w x v):VR ρ' h' w' x v:=by
 induction hx with
 | any v=>exact .any v
 | bool b=>exact .bool b
 | int k n=>exact .int k n
 | str s=>exact .str s
 | agg cs vs hl _ ih=>exact .agg cs vs hl ih
 | tup cs vs hl _ ih=>exact .tup cs vs hl ih
 | nilp=>exact .nilp
 | ptr o off cs ho =>
  obtain ⟨x',hx',g⟩:=le.obj o _ ho;cases x' <;> simp [am.grows] at g
  rw [<- g];exact .ptr o off _ hx'
 | pimm cs off b base val hc _ ih =>
  exact .pimm cs off b base val (fun j y hy=>⟨(le.imm _ _ (hc j y hy).1).1,((le.imm _ _ (hc j y hy).1).2).trans (hc j y hy).2⟩) ih
 | pown o idx off n a sz es fr ho hv =>
  obtain ⟨x',hx',g⟩:=le.obj o _ ho;cases x' <;> simp [am.grows] at g
  refine .pown o idx off n a _ _ _ hx' ⟨by omega,fun e=>?_⟩
  grind
 | imm l a cap sz b off val hcap ha hsz hc _ ih =>
  exact .imm l a cap sz b off val hcap ha hsz (fun i x j y hx hy=>⟨(le.imm _ _ (hc i x j y hx hy).1).1,((le.imm _ _ (hc i x j y hx hy).1).2).trans (hc i x j y hx hy).2⟩) ih
 | full l a sz b off val ha hsz hc _ ih =>
  exact .full l a sz b off val ha hsz (fun i x j y hx hy=>⟨(le.imm _ _ (hc i x j y hx hy).1).1,((le.imm _ _ (hc i x j y hx hy).1).2).trans (hc i x j y hx hy).2⟩) ih
 | own o off len a n cap sz es fr ho hv =>
  obtain ⟨x',hx',g⟩:=le.obj o _ ho;cases x' <;> simp [am.grows] at g
  refine .own o off len a n cap _ _ _ hx' ⟨by omega,fun e=>?_⟩
  grind
 | nilm=>exact .nilm
 | map o es ho =>
  obtain ⟨x',hx',g⟩:=le.obj o _ ho;cases x' <;> simp [am.grows] at g
  rw [<- g];exact .map o _ hx'
 | fn f xs ys us vs hl hl' _ _ ih1 ih2=>exact .fn f xs ys us vs hl hl' ih1 ih2
 | nilfn=>exact .nilfn
 | itr o m left ho =>
  obtain ⟨x',hx',g⟩:=le.obj o _ ho;cases x' <;> simp [am.grows] at g
  rw [<- g];exact .itr o _ _ hx'
 | iface t x v _ ih=>exact .iface t x v ih
 | nili=>exact .nili
end
section
def am.hasBlk (l:Loc):am->Bool
 | .hole=>false
 | .arr _ _ _=>decide (0<l.cap)
 | _=>true
def am.muts (l:Loc) (j:Nat):am->Prop
 | .arr sz _ fr=>l.base+fr * sz<=j
 | _=>True
def OR (ρ:Ren) (h:af) (w:World) (l:Loc):am->Prop
 | .hole=>True
 | .box cs=>∃ c t,w.heap[l.blk]?=some (.cells c t (0,0))/\c.size=cs.length /\
  ∀ (i:Nat) x v,cs[i]?=some x->c[i]?=some v->VR ρ h w x v
 | .arr sz es fr=>fr<=es.length/\es.length<=l.cap/\0<sz/\(∀ (i:Nat) x,es[i]?=some x->x.cells.length=sz) /\
  (0<l.cap->∃ c t,w.heap[l.blk]?=some (.cells c t (0,0))/\l.base+l.cap * sz<=c.size /\
   ∀ (i:Nat) x (j:Nat) y v,es[i]?=some x->x.cells[j]?=some y->c[l.base+i * sz+j]?=some v->VR ρ h w y v)
 | .map es=>∃ ms clock,w.heap[l.blk]?=some (.map ms clock)/\ms.size=es.length /\
  (∀ (i:Nat) kv e,es[i]?=some kv->ms[i]?=some e->VR ρ h w kv.1 e.key/\VR ρ h w kv.2 e.val/\e.born<clock) /\
  (∀ (i j:Nat) e e',ms[i]?=some e->ms[j]?=some e'->e.born=e'.born->i=j)
 | .iter m left=>∃ since seen last,w.heap[l.blk]?=some (.mapIter (some (ρ.loc m).blk) since seen last) /\
  ∃ es ms clock,h[m]?=some (.map es)/\w.heap[(ρ.loc m).blk]?=some (.map ms clock)/\since=clock/\last<=clock /\
   (seen.isEmpty=false->last=clock) /\
   (∀ (i:Nat) e,ms[i]?=some e->(seen.contains e.born=false↔i∈left.1))/\(∀ i,left.2=some i->∃ e,ms[i]?=some e/\seen.back?=some e.born) /\
   (∀ i∈left.1,i<ms.size)
theorem OR.mono {ρ ρ':Ren} {h h':af} {w w':World} {l:Loc} {x:am} (le:Le ρ h w ρ' h' w')
 (hx:OR ρ h w l x) (hb:x.hasBlk l=true->w'.heap[l.blk]?=w.heap[l.blk]?)
 (hi:∀ m left,x=.iter m left->∃ es,h'[m]?=some (.map es)/\h[m]?=some (.map es)/\ρ'.loc m=ρ.loc m/\w'.heap[(ρ.loc m).blk]?=w.heap[(ρ.loc m).blk]?) :
 OR ρ' h' w' l x:=by
 cases x with
 | hole=>trivial
 | box cs =>
  obtain ⟨c,t,h1,h2,h3⟩:=hx;exact ⟨c,t,(hb rfl).trans h1,h2,fun i x v a b=>(h3 i x v a b).mono le⟩
 | arr sz es fr =>
  obtain ⟨h1,h2,h3,h4,h5⟩:=hx;refine ⟨h1,h2,h3,h4,fun hc=>?_⟩;obtain ⟨c,t,h6,h7,h8⟩:=h5 hc;exact ⟨c,t,(hb (by simp [am.hasBlk,hc])).trans h6,h7,fun i x j y v a b d=>(h8 i x j y v a b d).mono le⟩
 | map es =>
  obtain ⟨ms,clock,h1,h2,h3,h4⟩:=hx;exact ⟨ms,clock,(hb rfl).trans h1,h2,fun i kv e a b=>⟨(h3 i kv e a b).1.mono le,(h3 i kv e a b).2.1.mono le,(h3 i kv e a b).2.2⟩,h4⟩
 | iter m left =>
  obtain ⟨since,seen,last,h1,es,ms,clock,h2,h3,h4⟩:=hx;obtain ⟨es',g1,g2,g3,g4⟩:=hi m left rfl;refine ⟨since,seen,last,?_,es',ms,clock,g1,?_,h4⟩
  . rw [g3];exact (hb rfl).trans h1
  . rw [g3,g4];exact h3
structure WF (ρ:Ren) (h:af) (w:World):Prop where
 obj:∀ (o:Nat) x,h[o]?=some x->OR ρ h w (ρ.loc o) x
 inj:∀ (o:Nat) x (o':Nat) x',h[o]?=some x->h[o']?=some x'->x.hasBlk (ρ.loc o)=true->x'.hasBlk (ρ.loc o')=true ->
  (ρ.loc o).blk=(ρ.loc o').blk->o=o'
 lt:∀ (o:Nat) x,h[o]?=some x->x.hasBlk (ρ.loc o)=true->(ρ.loc o).blk<w.heap.size
 immlt:∀ b j,ρ.I b j->b<w.heap.size
 imm:∀ (o:Nat) x j,h[o]?=some x->x.hasBlk (ρ.loc o)=true->ρ.I (ρ.loc o).blk j->¬ x.muts (ρ.loc o) j
structure Ent where
 w:World
 I:Nat->Nat->Prop
 lent:Nat->Prop
structure Fr (E:Ent) (ρ:Ren) (h:af) (w:World):Prop where
 os:w.os=E.w.os
 tape:w.tape=E.w.tape
 output:w.output=E.w.output
 size:E.w.heap.size<=w.heap.size
 keep:∀ b,b<E.w.heap.size->¬ E.lent b->w.heap[b]?=E.w.heap[b]?
 imm:∀ b j,E.I b j->ρ.I b j/\w.cell? ⟨b,j,none⟩=E.w.cell? ⟨b,j,none⟩
 new:∀ b j,ρ.I b j->b<E.w.heap.size->E.I b j\/E.lent b
 own:∀ (o:Nat) x,h[o]?=some x->x.hasBlk (ρ.loc o)=true->(ρ.loc o).blk<E.w.heap.size->E.lent (ρ.loc o).blk
def Ren.put (ρ:Ren) (o:Nat) (l:Loc) (I:Nat->Nat->Prop):Ren:=⟨fun i=>if i=o then l else ρ.loc i,I⟩
theorem Ren.put_same (ρ:Ren) (o:Nat) (l:Loc) (I:Nat->Nat->Prop):(ρ.put o l I).loc o=l:=by simp [Ren.put]
theorem Ren.put_other (ρ:Ren) (o:Nat) (l:Loc) (I:Nat->Nat->Prop) (i:Nat) (h:i≠o):(ρ.put o l I).loc i=ρ.loc i:=by simp [Ren.put,h]
theorem bB {w w':World} {b:Nat} (h:w'.heap[b]?=w.heap[b]?) (j:Nat):w'.cell? ⟨b,j,none⟩=w.cell? ⟨b,j,none⟩:=by
 simp [World.cell?,h]
theorem ce {E:Ent} {ρ:Ren} {h h':af} {w w':World} (wf:WF ρ h w) (fr:Fr E ρ h w) (o:Nat) (x':am) (l':Loc) (I':Nat->Nat->Prop)
 (hh:h'[o]?=some x') (hoth:∀ o',o'≠o->h'[o']?=h[o']?)
 (hos:w'.os=w.os) (htape:w'.tape=w.tape) (hout:w'.output=w.output) (hsz:w.heap.size<=w'.heap.size)
 (hkeep:∀ b,b<w.heap.size->(∀ x,h[o]?=some x->x.hasBlk (ρ.loc o)=true->(ρ.loc o).blk≠b)->w'.heap[b]?=w.heap[b]?)
 (hgrow:∀ x,h[o]?=some x->x.grows (ρ.loc o) l' x')
 (hI:∀ b j,ρ.I b j->I' b j/\w'.cell? ⟨b,j,none⟩=w.cell? ⟨b,j,none⟩)
 (hInew:∀ b j,I' b j->ρ.I b j\/(w.heap.size<=b/\b<w'.heap.size)\/(∃ x,h[o]?=some x/\x.hasBlk (ρ.loc o)=true/\(ρ.loc o).blk=b))
 (hl:x'.hasBlk l'=true->(w.heap.size<=l'.blk/\l'.blk<w'.heap.size)\/(∃ x,h[o]?=some x/\x.hasBlk (ρ.loc o)=true/\l'.blk=(ρ.loc o).blk))
 (hmut:∀ j,x'.hasBlk l'=true->I' l'.blk j->¬ x'.muts l' j)
 (hit:∀ o' m left,o'≠o->h[o']?=some (.iter m left)->m≠o)
 (hor:Le ρ h w (ρ.put o l' I') h' w'->OR (ρ.put o l' I') h' w' l' x') :
 WF (ρ.put o l' I') h' w'/\Le ρ h w (ρ.put o l' I') h' w'/\Fr E (ρ.put o l' I') h' w':=by
 have le:Le ρ h w (ρ.put o l' I') h' w':=by
  constructor
  . intro o1 x hx;by_cases e:o1=o
    . subst e;exact ⟨x',hh,by rw [Ren.put_same];exact hgrow x hx⟩
    . exact ⟨x,(hoth o1 e).trans hx,by rw [Ren.put_other _ _ _ _ _ e];exact x.grows_refl _⟩
  . exact hI
 have other:∀ o1 x,o1≠o->h[o1]?=some x->x.hasBlk (ρ.loc o1)=true->w'.heap[(ρ.loc o1).blk]?=w.heap[(ρ.loc o1).blk]?:=by
  intro o1 x e hx hb;refine hkeep _ (wf.lt o1 x hx hb) ?_;intro y hy hyb heq;exact e (wf.inj o1 x o y hx hy hb hyb heq.symm)
 refine ⟨⟨?_,?_,?_,?_,?_⟩,le,⟨?_,?_,?_,?_,?_,?_,?_,?_⟩⟩
 . intro o1 x hx;by_cases e:o1=o
   . subst e;rw [hh] at hx;cases hx;rw [Ren.put_same];exact hor le
   . rw [hoth o1 e] at hx;rw [Ren.put_other _ _ _ _ _ e];refine (wf.obj o1 x hx).mono le (other o1 x e hx) ?_;intro m left hxi;subst hxi;have hm:=hit o1 m left e hx;obtain ⟨_,_,_,_,es,ms,clock,g1,g2,_⟩:=wf.obj o1 _ hx;exact ⟨es,(hoth m hm).trans g1,g1,Ren.put_other _ _ _ _ _ hm,other m _ hm g1 rfl⟩
 . intro o1 x1 o2 x2 h1 h2 b1 b2 heq;by_cases e1:o1=o <;> by_cases e2:o2=o
   . rw [e1,e2]
   . subst e1;rw [hh] at h1;cases h1;rw [hoth o2 e2] at h2;rw [Ren.put_same] at b1 heq;rw [Ren.put_other _ _ _ _ _ e2] at b2 heq;have hlt:=wf.lt o2 x2 h2 b2;rcases hl b1 with ⟨g1,_⟩|⟨y,hy,hyb,g⟩
     . omega
     . exact wf.inj o1 y o2 x2 hy h2 hyb b2 (by rw [<- g];exact heq)
   . subst e2;rw [hh] at h2;cases h2;rw [hoth o1 e1] at h1;rw [Ren.put_same] at b2 heq;rw [Ren.put_other _ _ _ _ _ e1] at b1 heq;have hlt:=wf.lt o1 x1 h1 b1;rcases hl b2 with ⟨g1,_⟩|⟨y,hy,hyb,g⟩
     . omega
     . exact wf.inj o1 x1 o2 y h1 hy b1 hyb (by rw [<- g];exact heq)
   . rw [hoth o1 e1] at h1;rw [hoth o2 e2] at h2;rw [Ren.put_other _ _ _ _ _ e1] at b1 heq;rw [Ren.put_other _ _ _ _ _ e2] at b2 heq;exact wf.inj o1 x1 o2 x2 h1 h2 b1 b2 heq
 . intro o1 x hx hb;by_cases e:o1=o
   . subst e;rw [hh] at hx;cases hx;rw [Ren.put_same] at hb ⊢;rcases hl hb with ⟨_,g⟩|⟨y,hy,hyb,g⟩
     . exact g
     . rw [g];exact Nat.lt_of_lt_of_le (wf.lt o1 y hy hyb) hsz
   . rw [hoth o1 e] at hx;rw [Ren.put_other _ _ _ _ _ e] at hb ⊢;exact Nat.lt_of_lt_of_le (wf.lt o1 x hx hb) hsz
 . intro b j hI';rcases hInew b j hI' with g|⟨_,g⟩|⟨x,hx,hb,rfl⟩
   . exact Nat.lt_of_lt_of_le (wf.immlt b j g) hsz
   . exact g
   . exact Nat.lt_of_lt_of_le (wf.lt o x hx hb) hsz
 . intro o1 x j hx hb hI';by_cases e:o1=o
   . subst e;rw [hh] at hx;cases hx;rw [Ren.put_same] at hb hI' ⊢;exact hmut j hb hI'
   . rw [hoth o1 e] at hx;rw [Ren.put_other _ _ _ _ _ e] at hb hI' ⊢;rcases hInew _ j hI' with g|⟨g,_⟩|⟨y,hy,hyb,g⟩
     . exact wf.imm o1 x j hx hb g
     . grind
     . exact absurd (wf.inj o y o1 x hy hx hyb hb g) (fun h=>e h.symm)
 . exact hos.trans fr.os
 . exact htape.trans fr.tape
 . exact hout.trans fr.output
 . exact Nat.le_trans fr.size hsz
 . intro b hb hnl
   have:w'.heap[b]?=w.heap[b]?:=by
    refine hkeep b (Nat.lt_of_lt_of_le hb fr.size) ?_;intro x hx hxb heq;exact hnl (heq▸fr.own o x hx hxb (heq▸hb))
   exact this.trans (fr.keep b hb hnl)
 . intro b j hE;obtain ⟨h1,h2⟩:=fr.imm b j hE;obtain ⟨h3,h4⟩:=hI b j h1;exact ⟨h3,h4.trans h2⟩
 . intro b j hI' hb;rcases hInew b j hI' with g|⟨g,_⟩|⟨x,hx,hxb,rfl⟩
   . exact fr.new b j g hb
   . have:=fr.size;omega
   . exact .inr (fr.own o x hx hxb hb)
 . intro o1 x hx hb hlt;by_cases e:o1=o
   . subst e;rw [hh] at hx;cases hx;rw [Ren.put_same] at hb hlt ⊢;rcases hl hb with ⟨g,_⟩|⟨y,hy,hyb,g⟩
     . have:=fr.size;omega
     . rw [g] at hlt ⊢;exact fr.own o1 y hy hyb hlt
   . rw [hoth o1 e] at hx;rw [Ren.put_other _ _ _ _ _ e] at hb hlt ⊢;exact fr.own o1 x hx hb hlt
theorem l6 {E:Ent} {ρ:Ren} {h:af} {w w':World} (wf:WF ρ h w) (fr:Fr E ρ h w) (I':Nat->Nat->Prop)
 (hos:w'.os=w.os) (htape:w'.tape=w.tape) (hout:w'.output=w.output) (hsz:w.heap.size<=w'.heap.size)
 (hkeep:∀ b,b<w.heap.size->w'.heap[b]?=w.heap[b]?)
 (hI:∀ b j,ρ.I b j->I' b j) (hInew:∀ b j,I' b j->ρ.I b j\/(w.heap.size<=b/\b<w'.heap.size)) :
 WF ⟨ρ.loc,I'⟩ h w'/\Le ρ h w ⟨ρ.loc,I'⟩ h w'/\Fr E ⟨ρ.loc,I'⟩ h w':=by
 have le:Le ρ h w ⟨ρ.loc,I'⟩ h w' :=
  ⟨fun o x hx=>⟨x,hx,x.grows_refl _⟩,fun b j g=>⟨hI b j g,bB (hkeep b (wf.immlt b j g)) j⟩⟩
 refine ⟨⟨?_,wf.inj,?_,?_,?_⟩,le,⟨hos.trans fr.os,htape.trans fr.tape,hout.trans fr.output,Nat.le_trans fr.size hsz,?_,?_,?_,fr.own⟩⟩
 . intro o x hx;refine (wf.obj o x hx).mono le (fun hb=>hkeep _ (wf.lt o x hx hb)) ?_;intro m left e;subst e;obtain ⟨_,_,_,_,es,ms,clock,g1,g2,_⟩:=wf.obj o _ hx
   grind
 . intro o x hx hb;exact Nat.lt_of_lt_of_le (wf.lt o x hx hb) hsz
 . intro b j g;rcases hInew b j g with g|⟨_,g⟩
   . exact Nat.lt_of_lt_of_le (wf.immlt b j g) hsz
   . exact g
 . intro o x j hx hb g;rcases hInew _ j g with g|⟨g,_⟩
   . exact wf.imm o x j hx hb g
   . have:=wf.lt o x hx hb;have g':w.heap.size<=(ρ.loc o).blk:=g;omega
 . intro b hb hnl;exact (hkeep b (Nat.lt_of_lt_of_le hb fr.size)).trans (fr.keep b hb hnl)
 . intro b j hE;obtain ⟨h1,h2⟩:=fr.imm b j hE;exact ⟨hI b j h1,(bB (hkeep b (wf.immlt b j h1)) j).trans h2⟩
 . intro b j g hb;rcases hInew b j g with g|⟨g,_⟩
   . exact fr.new b j g hb
   . have:=fr.size;omega
end
section
def pk:Value->Option aa
 | .bool b=>some (.bool b)
 | .int k n=>some (.int k n)
 | .string s=>some (.str s.data.toList)
 | .pointer none=>some .nilp
 | .slice none 0 0=>some (.full [])
 | .map none=>some .nilm
 | .nilFunc=>some .nilfn
 | .nilIface=>some .nili
 | _=>none
def oT:List Value->Option (List aa)
 | []=>some []
 | v::vs=>match pk v,oT vs with
  | some x,some xs=>some (x::xs)
  | _,_=>none
def fU:Value->Option aa
 | .agg cs=>(oT cs.toList).map .agg
 | v=>pk v
theorem vV {v:Value} {x:aa} (hv:pk v=some x) (ρ:Ren) (h:af) (w:World):VR ρ h w x v:=by
 unfold pk at hv;split at hv <;> simp at hv <;> subst hv
 . exact .bool _
 . exact .int _ _
 . exact .str _
 . exact .nilp
 . exact .full [] none 0 0 0 (fun _ _=>undef) zq zq zq zq
 . exact .nilm
 . exact .nilfn
 . exact .nili
theorem tV:∀ {vs:List Value} {xs:List aa},oT vs=some xs->∀ (ρ:Ren) (h:af) (w:World),
 vs.length=xs.length/\∀ (i:Nat) x v,xs[i]?=some x->vs[i]?=some v->VR ρ h w x v
 | [],xs,hx,ρ,h,w=>by simp [oT] at hx;subst hx;simp
 | v::vs,xs,hx,ρ,h,w=>by
  simp only [oT] at hx;split at hx <;> simp at hx;subst hx;rename_i x xs' h1 h2;obtain ⟨g1,g2⟩:=tV h2 ρ h w;refine ⟨by simp [g1],fun i y u hy hu=>?_⟩;cases i with
  | zero=>simp at hy hu;subst hy hu;exact vV h1 ρ h w
  | succ i=>simp at hy hu;exact g2 i y u hy hu
theorem kH {v:Value} {x:aa} (hv:fU v=some x) (ρ:Ren) (h:af) (w:World):VR ρ h w x v:=by
 unfold fU at hv;split at hv
 . rename_i cs;simp at hv;obtain ⟨xs,h1,rfl⟩:=hv;obtain ⟨g1,g2⟩:=tV h1 ρ h w;exact .agg xs cs (by simpa using g1) (fun i y u hy hu=>g2 i y u hy (by simpa using hu))
 . exact vV hv ρ h w
inductive TyK where
 | bool|int (k:IntKind)|str|ptr|slice (e:Nat)|map (k e:Nat)|struct (fs:List (Nat×Nat))|array (n e:Nat)|func|iface|other
structure TyI where
 k:TyK
 size:Nat
 bytes:Nat
 zero:aa
def kOf:TypeDesc->TyK
 | .bool=>.bool
 | .int k=>.int k
 | .string=>.str
 | .pointer _=>.ptr
 | .slice e=>.slice e
 | .map k e=>.map k e
 | .struct fs=>.struct (fs.toList.map fun f=>(f.offset,f.type))
 | .array n e=>.array n e
 | .func _ _ _=>.func
 | .interface _=>.iface
 | _=>.other
def aP (P:Program) (t:TypeId):Option TyI :=
 match P.info? t,P.underlying t with
 | some i,some d=>match i.zero with
  | some z=>(fU z).map fun x=>⟨kOf d,i.size,i.bytes,x⟩
  | none=>none
 | _,_=>none
structure Xz (P:Program) (t:TypeId) (i:TyI):Prop where
 mk ::
 ex:∃ info d z,P.info? t=some info/\P.underlying t=some d/\info.zero=some z/\fU z=some i.zero /\
  info.size=i.size/\info.bytes=i.bytes/\kOf d=i.k
theorem iB {P:Program} {t:TypeId} {i:TyI} (h:aP P t=some i) :
 ∃ info d z,P.info? t=some info/\P.underlying t=some d/\info.zero=some z/\fU z=some i.zero /\
 info.size=i.size/\info.bytes=i.bytes/\kOf d=i.k:=by
 unfold aP at h;split at h <;> try (simp at h;done)
 rename_i info d h1 h2;split at h <;> try (simp at h;done)
 rename_i z h3;simp at h
 grind
section
variable {P:Program} {t:TypeId} {i:TyI} (h:aP P t=some i) (w:World)
include h
theorem xC:∃ info,(typeInfo t).run P w=.ok info w/\info.size=i.size/\info.bytes=i.bytes/\∃ z,info.zero=some z/\fU z=some i.zero:=by
 obtain ⟨info,d,z,h1,_,h3,h4,h5,h6,_⟩:=iB h;exact ⟨info,by simp [typeInfo,h1],h5,h6,z,h3,h4⟩
theorem b7:(sizeOf t).run P w=.ok i.size w:=by
 obtain ⟨info,d,z,h1,_,h3,h4,h5,h6,_⟩:=iB h;simp [sizeOf,typeInfo,h1,h5]
theorem ne:∃ z,(zeroValue t).run P w=.ok z w/\fU z=some i.zero:=by
 obtain ⟨info,d,z,h1,_,h3,h4,h5,h6,_⟩:=iB h;exact ⟨z,by simp [zeroValue,typeInfo,h1,h3],h4⟩
theorem run_underlying:∃ d,(underlying t).run P w=.ok d w/\kOf d=i.k:=by
 obtain ⟨info,d,z,h1,h2,h3,h4,h5,h6,h7⟩:=iB h;exact ⟨d,by simp [underlying,h2],h7⟩
end
theorem nX {d:TypeDesc} (h:kOf d=.bool):d=.bool:=by cases d <;> simp [kOf] at h;rfl
theorem r9 {d:TypeDesc} {k:IntKind} (h:kOf d=.int k):d=.int k:=by cases d <;> simp [kOf] at h;subst h;rfl
theorem kJ {d:TypeDesc} (h:kOf d=.str):d=.string:=by cases d <;> simp [kOf] at h;rfl
theorem Es {d:TypeDesc} (h:kOf d=.ptr):∃ e,d=.pointer e:=by cases d <;> simp [kOf] at h;exact ⟨_,rfl⟩
theorem cH {d:TypeDesc} {e:Nat} (h:kOf d=.slice e):d=.slice e:=by cases d <;> simp [kOf] at h;subst h;rfl
theorem oL {d:TypeDesc} {k e:Nat} (h:kOf d=.map k e):d=.map k e:=by cases d <;> simp [kOf] at h;obtain ⟨rfl,rfl⟩:=h;rfl
theorem mN {d:TypeDesc} {n e:Nat} (h:kOf d=.array n e):d=.array n e:=by cases d <;> simp [kOf] at h;obtain ⟨rfl,rfl⟩:=h;rfl
theorem nj {d:TypeDesc} {fs:List (Nat×Nat)} (h:kOf d=.struct fs):∃ l,d=.struct l/\fs=l.toList.map fun f=>(f.offset,f.type):=by
 cases d <;> simp [kOf] at h;exact ⟨_,rfl,h.symm⟩
def TyK.agg:TyK->Bool
 | .struct _|.array _ _=>true
 | _=>false
theorem wi {P:Program} {t:TypeId} {i:TyI} (h:aP P t=some i) (w:World):(isAgg t).run P w=.ok i.k.agg w:=by
 obtain ⟨d,h1,h2⟩:=run_underlying h w;simp only [isAgg,Sem.run_bind,h1,Result.andThen_ok];cases d <;> simp [kOf] at h2 <;> rw [<- h2] <;> rfl
theorem Fx (s:List UInt8):(⟨s.toArray⟩:ByteArray).toList=s:=by
 have key:∀ (n i:Nat) (acc:List UInt8) (b:ByteArray),b.size - i=n->ByteArray.toList.loop b i acc=acc.reverse++(b.data.toList.drop i):=by
  intro n
  induction n with
  | zero =>
   intro i acc b hn;unfold ByteArray.toList.loop;have:¬ i<b.size:=by omega
   simp only [this,if_false];have:b.data.toList.drop i=[]:=by apply List.drop_eq_nil_of_le;simp;exact Nat.le_of_not_lt this
   simp [this]
  | succ n ih =>
   intro i acc b hn;unfold ByteArray.toList.loop;have hi:i<b.size:=by omega
   simp only [hi,if_true];rw [ih (i+1) _ b oq];have hi':i<b.data.toList.length:=by simpa using hi
   rw [List.drop_eq_getElem_cons hi']
   have:b.get! i=b.data.toList[i]:=by
    have h3:i<b.data.size:=by simpa using hi
    simp [ByteArray.get!,getElem!_pos b.data i h3]
   simp [this]
 unfold ByteArray.toList
 grind
def aS (a b:List UInt8):Bool:=Op.bytesLess a b
def pe (P:Program) (op:BinOp) (t:TypeId) (x y:aa):Option aa :=
 match x,y with
 | .int k a,.int k' b =>
  match op with
  | .shl=>if b<0 then none else some (.int k (k.wrap (a * 2 ^ (min b.toNat k.bits))))
  | .shr=>if b<0 then none else some (.int k (a.fdiv (2 ^ (min b.toNat k.bits))))
  | .add=>if k=k' then some (.int k (k.wrap (a+b))) else none
  | .sub=>if k=k' then some (.int k (k.wrap (a - b))) else none
  | .mul=>if k=k' then some (.int k (k.wrap (a * b))) else none
  | .quo=>if k=k' then (if b=0 then none else some (.int k (k.wrap (a.tdiv b)))) else none
  | .rem=>if k=k' then (if b=0 then none else some (.int k (a.tmod b))) else none
  | .and=>if k=k' then some (.int k (k.wrap (BitVec.ofInt k.bits a &&& BitVec.ofInt k.bits b).toNat)) else none
  | .or=>if k=k' then some (.int k (k.wrap (BitVec.ofInt k.bits a ||| BitVec.ofInt k.bits b).toNat)) else none
  | .xor=>if k=k' then some (.int k (k.wrap (BitVec.ofInt k.bits a ^^^ BitVec.ofInt k.bits b).toNat)) else none
  | .andNot=>if k=k' then some (.int k (k.wrap (BitVec.ofInt k.bits a &&& ~~~ BitVec.ofInt k.bits b).toNat)) else none
  | .eql=>if k=k' then some (.bool (a==b)) else none
  | .neq=>if k=k' then some (.bool (a != b)) else none
  | .lss=>if k=k' then some (.bool (a<b)) else none
  | .leq=>if k=k' then some (.bool (a<=b)) else none
  | .gtr=>if k=k' then some (.bool (a > b)) else none
  | .geq=>if k=k' then some (.bool (a >= b)) else none
 | .str a,.str b =>
  match op with
  | .add=>if ((a.length+b.length:Nat):Int)<=9223372036854775807 then some (.str (a++b)) else none
  | .eql=>some (.bool (a==b))
  | .neq=>some (.bool !(a==b))
  | .lss=>some (.bool (aS a b))
  | .leq=>some (.bool (aS a b || a==b))
  | .gtr=>some (.bool !(aS a b || a==b))
  | .geq=>some (.bool !(aS a b))
  | _=>none
 | .bool a,.bool b =>
  match aP P t with
  | some i=>match i.k,op with
   | .bool,.eql=>some (.bool (a==b))
   | .bool,.neq=>some (.bool !(a==b))
   | _,_=>none
  | none=>none
 | .nilp,.nilp=>nilCmp P op t true
 | .ptr _ _,.nilp|.pimm _ _,.nilp|.nilp,.ptr _ _|.nilp,.pimm _ _=>nilCmp P op t false
 | _,_=>none
where
 nilCmp (P:Program) (op:BinOp) (t:TypeId) (r:Bool):Option aa :=
  match aP P t with
  | some i=>match i.k,op with
   | .ptr,.eql=>some (.bool r)
   | .ptr,.neq=>some (.bool !r)
   | _,_=>none
  | none=>none
def aa.flat:aa->Option Value
 | .bool b=>some (.bool b)
 | .int k n=>some (.int k n)
 | .str s=>some (.string ⟨s.toArray⟩)
 | _=>none
theorem rX {x:aa} {v:Value} (h:x.flat=some v) (ρ:Ren) (hp:af) (w:World):VR ρ hp w x v:=by
 cases x <;> simp [aa.flat] at h <;> subst h
 . exact .bool _
 . exact .int _ _
 . exact .str _
theorem bq (P:Program) (w:World) (op:BinOp) (t:TypeId) (ox oy:Operand) (a b:Value)
 (h:∀ x y,a=.agg x->b=.agg y->False) (h':a=.nilIface->b=.nilIface->False):(eqGuard op t ox oy a b).run P w=.ok () w:=by
 unfold eqGuard;cases op <;> simp <;> (split <;> first|rfl|(exact (h' rfl rfl).elim)|(exact (h _ _ rfl rfl).elim))
theorem tP {P:Program} {t:TypeId} (h:P.underlying t=some .bool) (a b:Bool) (w:World) :
 (Op.equal t (.bool a) (.bool b)).run P w=.ok (a==b) w:=by
 have:Op.equal t (.bool a) (.bool b)=Op.equalIn (9999+1) t (.bool a) (.bool b):=rfl;rw [this];generalize 9999=n;simp only [Op.equalIn,underlying,Sem.run_bind,run_program,Result.andThen_ok,h];rfl
theorem eC {P:Program} {t:TypeId} {e:TypeId} (h:P.underlying t=some (.pointer e)) (b:Option Addr) (w:World) :
 (Op.equal t (.pointer none) (.pointer b)).run P w=.ok b.isNone w:=by
 have:Op.equal t (.pointer none) (.pointer b)=Op.equalIn (9999+1) t (.pointer none) (.pointer b):=rfl;rw [this];generalize 9999=n;simp only [Op.equalIn,underlying,Sem.run_bind,run_program,Result.andThen_ok,h];rfl
theorem eH {P:Program} {t:TypeId} {e:TypeId} (h:P.underlying t=some (.pointer e)) (b:Addr) (w:World) :
 (Op.equal t (.pointer (some b)) (.pointer none)).run P w=.ok false w:=by
 have:Op.equal t (.pointer (some b)) (.pointer none)=Op.equalIn (9999+1) t (.pointer (some b)) (.pointer none):=rfl;rw [this];generalize 9999=n;simp only [Op.equalIn,underlying,Sem.run_bind,run_program,Result.andThen_ok,h];rfl
theorem Cd {P:Program} {op:BinOp} {t:TypeId} {x y z:aa} (hz:pe P op t x y=some z) {ρ:Ren} {h:af} {w:World} {vx vy:Value}
 (hx:VR ρ h w x vx) (hy:VR ρ h w y vy) (ox oy:Operand) :
 ∃ vz,(do eqGuard op t ox oy vx vy;binOp op t vx vy:Sem Value).run P w=.ok vz w/\z.flat=some vz:=by
 have nilcase:∀ (r:Bool) (u u':Value),pe.nilCmp P op t r=some z ->
  (eqGuard op t ox oy u u').run P w=.ok () w ->
  (∀ e,P.underlying t=some (.pointer e)->(Op.equal t u u').run P w=.ok r w) ->
  (op=.eql->binOp op t u u'=do pure (.bool (<- Op.equal t u u')))->(op=.neq->binOp op t u u'=do pure (.bool (!(<- Op.equal t u u')))) ->
  ∃ vz,(do eqGuard op t ox oy u u';binOp op t u u':Sem Value).run P w=.ok vz w/\z.flat=some vz:=by
  intro r u u' hc hg he h1 h2;unfold pe.nilCmp at hc;split at hc <;> try (simp at hc;done)
  rename_i i hi;obtain ⟨info,d,zz,g1,g2,g3,g4,g5,g6,g7⟩:=iB hi;split at hc <;> simp at hc
  . rename_i hk;obtain ⟨e,rfl⟩:=Es (g7.trans hk);subst hc;refine ⟨.bool r,?_,rfl⟩;rw [h1 rfl];simp [hg,he e g2]
  . rename_i hk;obtain ⟨e,rfl⟩:=Es (g7.trans hk);subst hc;refine ⟨.bool !r,?_,rfl⟩;rw [h2 rfl];simp [hg,he e g2]
 unfold pe at hz;split at hz
 . -- ints
   rename_i k a k' b;cases hx;cases hy
   have hg:(eqGuard op t ox oy (.int k a) (.int k' b)).run P w=.ok () w:=bq P w op t ox oy _ _ (by intro x y h;cases h) (by intro h;cases h);simp only [Sem.run_bind,hg,Result.andThen_ok];split at hz
   . split at hz <;> simp at hz;subst hz;exact ⟨_,by simp [binOp,Op.shift, *],rfl⟩
   . split at hz <;> simp at hz;subst hz;exact ⟨_,by simp [binOp,Op.shift, *],rfl⟩
   all_goals
    split at hz
    case isFalse=>simp at hz
    rename_i e;subst e
   case _=>simp at hz;subst hz;exact ⟨_,by simp [binOp,Op.intArith],rfl⟩
   case _=>simp at hz;subst hz;exact ⟨_,by simp [binOp,Op.intArith],rfl⟩
   case _=>simp at hz;subst hz;exact ⟨_,by simp [binOp,Op.intArith],rfl⟩
   case _=>split at hz <;> simp at hz;subst hz;exact ⟨_,by simp [binOp,Op.intDiv, *],rfl⟩
   case _=>split at hz <;> simp at hz;subst hz;exact ⟨_,by simp [binOp,Op.intDiv, *],rfl⟩
   case _=>simp at hz;subst hz;exact ⟨_,by simp [binOp,Op.intBits],rfl⟩
   case _=>simp at hz;subst hz;exact ⟨_,by simp [binOp,Op.intBits],rfl⟩
   case _=>simp at hz;subst hz;exact ⟨_,by simp [binOp,Op.intBits],rfl⟩
   case _=>simp at hz;subst hz;exact ⟨_,by simp [binOp,Op.intBits],rfl⟩
   case _=>simp at hz;subst hz;exact ⟨_,by simp [binOp,Op.intCmp],rfl⟩
   case _=>simp at hz;subst hz;exact ⟨_,by simp [binOp,Op.intCmp],rfl⟩
   case _=>simp at hz;subst hz;exact ⟨_,by simp [binOp,Op.intCmp],rfl⟩
   case _=>simp at hz;subst hz;exact ⟨_,by simp [binOp,Op.intCmp],rfl⟩
   case _=>simp at hz;subst hz;exact ⟨_,by simp [binOp,Op.intCmp],rfl⟩
   case _=>simp at hz;subst hz;exact ⟨_,by simp [binOp,Op.intCmp],rfl⟩
 . -- strings
   rename_i a b;cases hx;cases hy
   have hg:(eqGuard op t ox oy (.string ⟨a.toArray⟩) (.string ⟨b.toArray⟩)).run P w=.ok () w:=bq P w op t ox oy _ _ (by intro x y h;cases h) (by intro h;cases h);simp only [Sem.run_bind,hg,Result.andThen_ok];split at hz
   . split at hz <;> simp at hz;subst hz;rename_i hle;refine ⟨.string (⟨a.toArray⟩++⟨b.toArray⟩),?_,?_⟩
     . have:¬ (((a.length+b.length:Nat):Int) > IntKind.i64.max):=by
        have:IntKind.i64.max=9223372036854775807:=by decide
        omega
       have h2:((⟨a.toArray⟩:ByteArray).size+(⟨b.toArray⟩:ByteArray).size)=a.length+b.length:=by simp [ByteArray.size]
       simp only [binOp,Op.stringOp,h2,this,if_false,Sem.run_pure]
     . simp only [aa.flat];congr 2
   all_goals (first|(simp only [reduceCtorEq] at hz;done)|(simp only [Option.some.injEq] at hz;subst hz;refine ⟨_,rfl,?_⟩;simp only [aa.flat,aS,Fx]))
 . -- bools
   rename_i a b;cases hx;cases hy
   have hg:(eqGuard op t ox oy (.bool a) (.bool b)).run P w=.ok () w:=bq P w op t ox oy _ _ (by intro x y h;cases h) (by intro h;cases h);split at hz <;> try (simp at hz;done)
   rename_i i hi;obtain ⟨info,d,zz,g1,g2,g3,g4,g5,g6,g7⟩:=iB hi;split at hz <;> simp at hz
   all_goals
    rename_i hk;have hd:=nX (g7.trans hk);subst hd hz;refine ⟨_,?_,rfl⟩;simp only [Sem.run_bind,hg,Result.andThen_ok,binOp,tP g2,Sem.run_pure]
 . cases hx;cases hy
   refine nilcase true _ _ hz (bq P w op t ox oy _ _ (by intro x y h;cases h) (by intro h;cases h)) ?_ ?_ ?_
   . intro e he;first|exact eC he _ w|exact eH he _ w
   . rintro rfl;rfl
   . rintro rfl;rfl
 . cases hx;cases hy
   refine nilcase false _ _ hz (bq P w op t ox oy _ _ (by intro x y h;cases h) (by intro h;cases h)) ?_ ?_ ?_
   . intro e he;first|exact eC he _ w|exact eH he _ w
   . rintro rfl;rfl
   . rintro rfl;rfl
 . cases hx;cases hy
   refine nilcase false _ _ hz (bq P w op t ox oy _ _ (by intro x y h;cases h) (by intro h;cases h)) ?_ ?_ ?_
   . intro e he;first|exact eC he _ w|exact eH he _ w
   . rintro rfl;rfl
   . rintro rfl;rfl
 . cases hx;cases hy
   refine nilcase false _ _ hz (bq P w op t ox oy _ _ (by intro x y h;cases h) (by intro h;cases h)) ?_ ?_ ?_
   . intro e he;first|exact eC he _ w|exact eH he _ w
   . rintro rfl;rfl
   . rintro rfl;rfl
 . cases hx;cases hy
   refine nilcase false _ _ hz (bq P w op t ox oy _ _ (by intro x y h;cases h) (by intro h;cases h)) ?_ ?_ ?_
   . intro e he;first|exact eC he _ w|exact eH he _ w
   . rintro rfl;rfl
   . rintro rfl;rfl
 . simp at hz
def aun (op:UnOp) (x:aa):Option aa :=
 match op,x with
 | .not,.bool b=>some (.bool !b)
 | .neg,.int k n=>some (.int k (k.wrap (0 - n)))
 | _,_=>none
theorem GX {P:Program} {op:UnOp} {x z:aa} (hz:aun op x=some z) {ρ:Ren} {h:af} {w:World} {vx:Value} (hx:VR ρ h w x vx) :
 ∃ vz,(Op.unary op vx).run P w=.ok vz w/\z.flat=some vz:=by
 unfold aun at hz;split at hz <;> simp at hz <;> subst hz <;> cases hx
 . exact ⟨_,rfl,rfl⟩
 . rename_i k n;exact ⟨.int k (k.wrap (0 - n)),rfl,by simp [aa.flat]⟩
def ER (P:Program) (src dst:TypeId) (x:aa):Option aa :=
 match aP P src,aP P dst with
 | some _,some d=>match d.k,x with
  | .int k,.int _ n=>some (.int k (k.wrap n))
  | .str,.str s=>some (.str s)
  | _,_=>none
 | _,_=>none
theorem Bk {P:Program} {src dst:TypeId} {x z:aa} (hz:ER P src dst x=some z) {ρ:Ren} {h:af} {w:World} {vx:Value} (hx:VR ρ h w x vx) :
 ∃ vz,(convert src dst vx).run P w=.ok vz w/\z.flat=some vz:=by
 unfold ER at hz;split at hz <;> try (simp at hz;done)
 rename_i s d hs hd;obtain ⟨ds,h1,h2⟩:=run_underlying hs w;obtain ⟨dd,h3,h4⟩:=run_underlying hd w;split at hz <;> simp at hz <;> subst hz <;> cases hx
 . rename_i hk;have:=r9 (h4.trans hk);subst this;refine ⟨_,?_,rfl⟩;simp [convert,h1,h3,Conv.intToInt]
 . rename_i hk;have:=kJ (h4.trans hk);subst this;refine ⟨_,?_,rfl⟩;simp [convert,h1,h3]
end
section
theorem gn (b off n:Nat):(⟨b,off,none⟩:Addr).add n=⟨b,off+n,none⟩:=by
 unfold Addr.add;split <;> simp_all
def aa.cellOk:aa->Bool
 | .any|.agg _|.tup _=>false
 | _=>true
section
variable {ρ:Ren} {h:af} {w:World}
theorem VR.one {x:aa} {v:Value} (hx:VR ρ h w x v) (ho:x.cellOk=true):v.oneCell'=true:=by
 cases hx <;> simp [aa.cellOk] at ho <;> rfl
theorem VR.cells {x:aa} {v:Value} (hx:VR ρ h w x v) (hn:x≠.any) :
 v.cells.size=x.cells.length/\∀ (j:Nat) y u,x.cells[j]?=some y->v.cells[j]?=some u->VR ρ h w y u:=by
 have single:∀ (v:Value),VR ρ h w x v->v.cells=#[v]->x.cells=[x]->v.cells.size=x.cells.length/\∀ (j:Nat) y u,x.cells[j]?=some y->v.cells[j]?=some u->VR ρ h w y u:=by
  grind
 cases hx with
 | any=>exact (hn rfl).elim
 | agg cs vs hl hv=>exact ⟨hl,hv⟩
 | _=>refine single _ ?_ rfl rfl;first|assumption|(constructor <;> assumption)|constructor
def nV (h:af):aa->Option (List aa×Nat)
 | .ptr o off=>match h[o]? with
  | some (.box cs)=>some (cs,off)
  | _=>none
 | .pimm cs off=>some (cs,off)
 | .pown o idx off n=>match h[o]? with
  | some (.arr _ es _)=>if es.length=n then (es[idx]?).map fun x=>(x.cells,off) else none
  | _=>none
 | _=>none
theorem qw (wf:WF ρ h w) {p:aa} {v:Value} (hp:VR ρ h w p v) {cs:List aa} {off:Nat} (hv:nV h p=some (cs,off)) :
 ∃ b base,v=.pointer (some ⟨b,base+off,none⟩)/\∀ (j:Nat) y,cs[j]?=some y->∃ u,w.cell? ⟨b,base+j,none⟩=some u/\VR ρ h w y u:=by
 cases hp <;> simp only [nV] at hv <;> try (simp at hv;done)
 . rename_i o off' cs' ho;rw [ho] at hv;simp at hv;obtain ⟨rfl,rfl⟩:=hv;obtain ⟨c,t,h1,h2,h3⟩:=wf.obj o _ ho;refine ⟨(ρ.loc o).blk,0,by simp,fun j y hy=>?_⟩;have hj:j<c.size:=by rw [h2];exact (List.getElem?_eq_some_iff.1 hy).1
   refine ⟨c[j],by simp [World.cell?,h1,hj],h3 j y _ hy (by simp [hj])⟩
 . rename_i cs' off' b base val hc hv';simp at hv;obtain ⟨rfl,rfl⟩:=hv
   grind
 . rename_i o idx off' n a sz es fr ho hv';rw [ho] at hv;simp at hv;obtain ⟨hn,x,hx,rfl,rfl⟩:=hv;obtain ⟨g1,g2,g3,g4,g5⟩:=wf.obj o _ ho;have hi:idx<es.length:=(List.getElem?_eq_some_iff.1 hx).1;obtain ⟨c,t,h1,h2,h3⟩:=g5 oq;refine ⟨(ρ.loc o).blk,(ρ.loc o).base+idx * sz,by rw [hv'.2 hn],fun j y hy=>?_⟩;have hj:j<sz:=by rw [<- g4 idx x hx];exact (List.getElem?_eq_some_iff.1 hy).1
   have hle:idx * sz+sz<=(ρ.loc o).cap * sz:=by rw [<- Nat.succ_mul];exact Nat.mul_le_mul_right _ oq
   have hb:(ρ.loc o).base+idx * sz+j<c.size:=by omega
   exact ⟨c[(ρ.loc o).base+idx * sz+j],by simp [World.cell?,h1,hb],h3 idx x j y _ hx hy (by simp [hb])⟩
def lh (P:Program) (t:TypeId) (cs:List aa) (off:Nat):Option aa :=
 match aP P t with
 | some i=>if i.k.agg then (if off+i.size<=cs.length then some (.agg ((cs.drop off).take i.size)) else none) else cs[off]?
 | none=>none
theorem rl {P:Program} {t:TypeId} {cs:List aa} {off:Nat} {x:aa} (hx:lh P t cs off=some x) {b base:Nat}
 (hc:∀ (j:Nat) y,cs[j]?=some y->∃ u,w.cell? ⟨b,base+j,none⟩=some u/\VR ρ h w y u) :
 ∃ u,(Instr.loadAt t (.pointer (some ⟨b,base+off,none⟩))).run P w=.ok u w/\VR ρ h w x u:=by
 unfold lh at hx;split at hx <;> try (simp at hx;done)
 rename_i i hi;have ha:=wi hi w;have hs:=b7 hi w;split at hx
 . rename_i hagg;split at hx <;> simp at hx;rename_i hle;subst hx
   let f:Nat->Value:=fun j=>((w.cell? ⟨b,base+off+j,none⟩).getD undef)
   have hf:∀ j,j<i.size->w.cell? ((⟨b,base+off,none⟩:Addr).add j)=some (f j):=by
    intro j hj;rw [gn];have hlt:off+j<cs.length:=by omega
    obtain ⟨u,h1,_⟩:=hc (off+j) _ (List.getElem?_eq_getElem hlt)
    grind
   have hr:=run_loadCells (P:=P) w ⟨b,base+off,none⟩ i.size f hf;refine ⟨.agg ((List.range i.size).map f).toArray,?_,?_⟩
   . simp [Instr.loadAt,Instr.sureAddr,loadVar,ha,hagg,hs,hr]
   . refine .agg _ _ (by simp;omega) ?_
     grind
 . rename_i hagg;obtain ⟨u,h1,h2⟩:=hc off x hx;refine ⟨u,?_,h2⟩;have hagg':i.k.agg=false:=by simpa using hagg
   simp [Instr.loadAt,Instr.sureAddr,loadVar,ha,hagg',h1]
end
def e6 (cs:List aa) (off:Nat) (xs:List aa):List aa:=cs.take off++xs++cs.drop (off+xs.length)
theorem kQ (cs xs:List aa) (off:Nat) (hle:off+xs.length<=cs.length) (j:Nat) :
 (e6 cs off xs)[j]?=if off<=j/\j<off+xs.length then xs[j - off]? else cs[j]?:=by
 unfold e6;by_cases h1:j<off
 . grind
 . grind
theorem jR (cs xs:List aa) (off:Nat) (hle:off+xs.length<=cs.length):(e6 cs off xs).length=cs.length:=by
 simp [e6];omega
theorem eJ (c:Array Value) (vs:List Value) (off:Nat) (hle:off+vs.length<=c.size) (j:Nat) :
 (c.toList.take off++vs++c.toList.drop (off+vs.length)).toArray[j]?=if off<=j/\j<off+vs.length then vs[j - off]? else c[j]?:=by
 grind
def aa.withCells (x:aa) (cs:List aa):Option aa :=
 match x with
 | .agg _=>some (.agg cs)
 | _=>match cs with
  | [y]=>some y
  | _=>none
theorem rG {y z:aa} {cs:List aa} (hz:y.withCells cs=some z) (hc:(∀ l,y≠.agg l)->∀ c∈cs,c.cellOk=true\/c=y):z.cells=cs:=by
 unfold aa.withCells at hz;split at hz
 . simp at hz;subst hz;rfl
 . rename_i hne;split at hz <;> simp at hz;subst hz;rename_i c;rcases hc (fun l e=>hne l e) c zq with h|h
   . cases c <;> simp [aa.cellOk] at h <;> rfl
   . subst h;cases c <;> first|rfl|exact (hne _ rfl).elim
theorem Du {i i' j j' sz:Nat} (hj:j<sz) (hj':j'<sz) (h:i * sz+j=i' * sz+j'):i=i'/\j=j':=by
 have h1:(i * sz+j) / sz=i:=by rw [Nat.mul_comm,Nat.mul_add_div oq,Nat.div_eq_of_lt hj];simp
 have h2:(i' * sz+j') / sz=i':=by rw [Nat.mul_comm,Nat.mul_add_div oq,Nat.div_eq_of_lt hj'];simp
 grind
def fc (P:Program) (h:af) (t:TypeId) (p x:aa):Option af :=
 match aP P t with
 | some i =>
  if x.cells.length=i.size/\x.cells.all aa.cellOk=true then
   match p with
   | .ptr o off=>match h[o]? with
    | some (.box cs)=>if off+i.size<=cs.length then some (h.set o (.box (e6 cs off x.cells))) else none
    | _=>none
   | .pown o idx off n=>match h[o]? with
    | some (.arr sz es fr)=>if es.length=n/\fr<=idx then
     match es[idx]? with
     | some y=>if off+i.size<=y.cells.length then
      match y.withCells (e6 y.cells off x.cells) with
      | some z=>some (h.set o (.arr sz (es.set idx z) fr))
      | none=>none
      else none
     | none=>none
     else none
    | _=>none
   | _=>none
  else none
 | none=>none
end
section
def cC (E:Ent) (ρ:Ren) (h:af) (w:World) (v:aa) (h':af) (r:Result Next):Prop :=
 ∃ ρ' w' cv,(r=.ok (.value cv) w'\/(r=.ok .skip w'/\cv=undef))/\VR ρ' h' w' v cv/\WF ρ' h' w'/\Le ρ h w ρ' h' w'/\Fr E ρ' h' w'
section
variable {E:Ent} {ρ:Ren} {h:af} {w:World} {P:Program}
theorem cC.same (wf:WF ρ h w) (fr:Fr E ρ h w) {v:aa} {cv:Value} {s:Sem Value} (hr:s.run P w=.ok cv w) (hv:VR ρ h w v cv) :
 cC E ρ h w v h ((do pure (.value (<- s)):Sem Next).run P w) :=
 ⟨ρ,w,cv,.inl (by simp [hr]),hv,wf,Le.refl _ _ _,fr⟩
theorem getElem?_append_one {α:Type} (l:List α) (x:α):(l++[x])[l.length]?=some x:=by simp
theorem bE {α:Type} (l:List α) (x:α) (o:Nat) (ho:o≠l.length):(l++[x])[o]?=l[o]?:=by
 grind
theorem aY {α:Type} (l:List α) (x:α) (o o':Nat) (ho:o'≠o):(l.set o x)[o']?=l[o']?:=by
 grind
theorem cy (wf:WF ρ h w):∀ (o' m:Nat) left,o'≠h.length->h[o']?=some (.iter m left)->m≠h.length:=by
 intro o' m left _ ho e;obtain ⟨_,_,_,_,es,_,_,g,_⟩:=wf.obj o' _ ho;rw [e] at g;simp at g
theorem sx (wf:WF ρ h w) {o:Nat} {cs:List aa} (hb:h[o]?=some (.box cs)):∀ (o' m:Nat) left,o'≠o->h[o']?=some (.iter m left)->m≠o:=by
 intro o' m left _ ho e;obtain ⟨_,_,_,_,es,_,_,g,_⟩:=wf.obj o' _ ho
 grind
theorem dN (wf:WF ρ h w) {o sz fr:Nat} {es:List aa} (hb:h[o]?=some (.arr sz es fr)):∀ (o' m:Nat) left,o'≠o->h[o']?=some (.iter m left)->m≠o:=by
 intro o' m left _ ho e;obtain ⟨_,_,_,_,es,_,_,g,_⟩:=wf.obj o' _ ho
 grind
theorem AK (wf:WF ρ h w) (fr:Fr E ρ h w) (cs:List aa) (c:Array Value) (t:TypeId) (hl:c.size=cs.length)
 (hc:∀ (i:Nat) x v,cs[i]?=some x->c[i]?=some v->VR ρ h w x v) :
 ∃ ρ',WF ρ' (h++[.box cs]) (w.alloc (.cells c t))/\Le ρ h w ρ' (h++[.box cs]) (w.alloc (.cells c t))/\Fr E ρ' (h++[.box cs]) (w.alloc (.cells c t)) /\
  (ρ'.loc h.length).blk=w.heap.size:=by
 refine ⟨ρ.put h.length ⟨w.heap.size,0,0⟩ ρ.I,?_⟩
 have:=ce (h':=h++[.box cs]) (w':=w.alloc (.cells c t)) wf fr h.length (.box cs) ⟨w.heap.size,0,0⟩ ρ.I (getElem?_append_one _ _) (fun o' ho=>bE _ _ _ ho)
  rfl rfl rfl zq (fun b hb _=>heap_alloc_old w _ b hb) zq
  (fun b j hI=>⟨hI,bB (heap_alloc_old w _ b (wf.immlt b j hI)) j⟩) (fun b j hI=>.inl hI)
  (fun _=>.inl ⟨Nat.le_refl _,by simp⟩) (fun j _ hI=>absurd (wf.immlt _ j hI) zq)
  (cy wf)
  (fun le=>⟨c,t,heap_alloc_new w _,hl,fun i x v a b=>(hc i x v a b).mono le⟩)
 exact ⟨this.1,this.2.1,this.2.2,by rw [Ren.put_same]⟩
theorem J7 (wf:WF ρ h w) (fr:Fr E ρ h w) :
 ∃ ρ',WF ρ' (h++[.map []]) (w.alloc (.map #[] 0))/\Le ρ h w ρ' (h++[.map []]) (w.alloc (.map #[] 0))/\Fr E ρ' (h++[.map []]) (w.alloc (.map #[] 0)) /\
  (ρ'.loc h.length).blk=w.heap.size:=by
 refine ⟨ρ.put h.length ⟨w.heap.size,0,0⟩ ρ.I,?_⟩
 have:=ce (h':=h++[.map []]) (w':=w.alloc (.map #[] 0)) wf fr h.length (.map []) ⟨w.heap.size,0,0⟩ ρ.I (getElem?_append_one _ _) (fun o' ho=>bE _ _ _ ho)
  rfl rfl rfl zq (fun b hb _=>heap_alloc_old w _ b hb) zq
  (fun b j hI=>⟨hI,bB (heap_alloc_old w _ b (wf.immlt b j hI)) j⟩) (fun b j hI=>.inl hI)
  (fun _=>.inl ⟨Nat.le_refl _,by simp⟩) (fun j _ hI=>absurd (wf.immlt _ j hI) zq)
  (cy wf)
  (fun le=>⟨#[],0,heap_alloc_new w _,rfl,by simp,by simp⟩)
 exact ⟨this.1,this.2.1,this.2.2,by rw [Ren.put_same]⟩
theorem dW (w:World) (g k:Nat) (c:Array Value) (hk:k≠g):(w.setRow g c).heap[k]?=w.heap[k]?:=setRow_other w g k c hk
theorem xF {t:TypeId} {p x:aa} {h':af} (hs:fc P h t p x=some h') (wf:WF ρ h w) (fr:Fr E ρ h w) {vp vx:Value}
 (hp:VR ρ h w p vp) (hx:VR ρ h w x vx) :
 ∃ ρ' w',(Instr.storeAt t vp vx).run P w=.ok () w'/\WF ρ' h' w'/\Le ρ h w ρ' h' w'/\Fr E ρ' h' w':=by
 unfold fc at hs;split at hs <;> try (simp at hs;done)
 rename_i i hi;split at hs <;> try (simp at hs;done)
 rename_i hcond;obtain ⟨hlen,hok⟩:=hcond;have hany:x≠.any:=by rintro rfl;simp [aa.cells,aa.cellOk] at hok
 obtain ⟨hcs,hcv⟩:=hx.cells hany
 have hone:∀ v∈vx.cells.toList,v.oneCell'=true:=by
  intro v hv;obtain ⟨j,hj⟩:=List.getElem?_of_mem hv
  have hjl:j<x.cells.length:=by
   grind
  have hy:=List.getElem?_eq_getElem hjl;have:=hcv j _ v hy (by simpa using hj);exact this.one (List.all_eq_true.1 hok _ (List.getElem_mem hjl))
 have hsz:=b7 hi w;have hvl:vx.cells.size=i.size:=by omega
 split at hs
 . -- a variable
   rename_i o off;split at hs <;> try (simp at hs;done)
   rename_i cs ho;split at hs <;> simp at hs;rename_i hle;subst hs;cases hp with
   | ptr _ _ _ _ =>
   obtain ⟨c,ty,h1,h2,h3⟩:=wf.obj o _ ho;have hst:=run_storeCells_at P (ρ.loc o).blk off ty vx.cells.toList 0 c w h1 (by simp;omega) hone;simp only [Nat.add_zero] at hst;refine ⟨ρ.put o (ρ.loc o) ρ.I,w.setRow (ρ.loc o).blk (c.toList.take off++vx.cells.toList++c.toList.drop (off+vx.cells.toList.length)).toArray,?_,?_⟩
   . simp [Instr.storeAt,Instr.sureAddr,storeVar,hsz,hvl,hst]
   . have holen:o<h.length:=(List.getElem?_eq_some_iff.1 ho).1
     refine ce (h':=h.set o (.box (e6 cs off x.cells))) wf fr o (.box (e6 cs off x.cells)) (ρ.loc o) ρ.I (by simp [holen]) (fun o' e=>aY _ _ _ _ e)
      rfl rfl rfl zq (fun b hb hne=>dW _ _ _ _ (Ne.symm (hne _ ho rfl))) ?_ ?_ (fun b j hI=>.inl hI) (fun _=>.inr ⟨_,ho,rfl,rfl⟩) ?_ (sx wf ho) ?_
     . intro y hy;rw [ho] at hy;cases hy;rfl
     . intro b j hI;refine ⟨hI,bB (dW _ _ _ _ ?_) j⟩;rintro rfl;exact wf.imm o _ j ho rfl hI trivial
     . intro j _ hI;exact absurd trivial (wf.imm o _ j ho rfl hI)
     . intro le;refine ⟨_,ty,setRow_heap w _ c _ ty _ h1,?_,?_⟩
       . simp [jR _ _ _ (show off+x.cells.length<=cs.length by omega)];omega
       . intro j y v hy hv;rw [kQ _ _ _ oq] at hy;rw [eJ _ _ _ (by simp;omega)] at hv;have e:vx.cells.toList.length=x.cells.length:=by simp [hcs]
         rw [e] at hv;split at hy
         . rename_i hin;rw [if_pos hin] at hv;exact (hcv _ y v hy (by simpa using hv)).mono le
         . rename_i hin;rw [if_neg hin] at hv;exact (h3 j y v hy hv).mono le
 . -- an element of an own array
   rename_i o idx off n;split at hs <;> try (simp at hs;done)
   rename_i sz es fr0 ho;split at hs <;> try (simp at hs;done)
   rename_i hc1;obtain ⟨hn,hfr⟩:=hc1;split at hs <;> try (simp at hs;done)
   rename_i y hy;split at hs <;> try (simp at hs;done)
   rename_i hle;split at hs <;> simp at hs;rename_i z hz;subst hs;have hle':off+x.cells.length<=y.cells.length:=by omega
   have hzc:z.cells=e6 y.cells off x.cells:=by
    refine rG hz ?_;intro hne c hcm;obtain ⟨j,hj⟩:=List.getElem?_of_mem hcm;rw [kQ _ _ _ hle'] at hj;split at hj
    . exact .inl (List.all_eq_true.1 hok _ (List.mem_of_getElem? hj))
    . have hyc:y.cells=[y]:=by cases y <;> first|rfl|exact (hne _ rfl).elim
      rw [hyc] at hj;have:=List.mem_of_getElem? hj;simp at this;exact .inr this
   obtain ⟨g1,g2,g3,g4,g5⟩:=wf.obj o _ ho;have hil:idx<es.length:=(List.getElem?_eq_some_iff.1 hy).1;have hcap:0<(ρ.loc o).cap:=by omega
   obtain ⟨c,ty,h1,h2,h3⟩:=g5 hcap;have hys:=g4 idx y hy;have hrow:idx * sz+sz<=(ρ.loc o).cap * sz:=by rw [<- Nat.succ_mul];exact Nat.mul_le_mul_right _ oq
   have hfrrow:fr0 * sz<=idx * sz:=Nat.mul_le_mul_right _ hfr;have hblk:(am.arr sz es fr0).hasBlk (ρ.loc o)=true:=by simp [am.hasBlk,hcap]
   cases hp with
   | pown _ _ _ _ a sz' es' fr' ho' hv' =>
   rw [ho] at ho';cases ho';have ha:=hv'.2 hn;subst ha;have hst:=run_storeCells_at P (ρ.loc o).blk ((ρ.loc o).base+idx * sz+off) ty vx.cells.toList 0 c w h1 (by simp;omega) hone;simp only [Nat.add_zero] at hst;refine ⟨ρ.put o (ρ.loc o) ρ.I,w.setRow (ρ.loc o).blk (c.toList.take ((ρ.loc o).base+idx * sz+off)++vx.cells.toList++c.toList.drop ((ρ.loc o).base+idx * sz+off+vx.cells.toList.length)).toArray,?_,?_⟩
   . simp [Instr.storeAt,Instr.sureAddr,storeVar,hsz,hvl,hst]
   . have holen:o<h.length:=(List.getElem?_eq_some_iff.1 ho).1;have hVl:vx.cells.toList.length=x.cells.length:=by simp [hcs]
     refine ce (h':=h.set o (.arr sz (es.set idx z) fr0)) wf fr o (.arr sz (es.set idx z) fr0) (ρ.loc o) ρ.I (by simp [holen]) (fun o' e=>aY _ _ _ _ e)
      rfl rfl rfl zq (fun b hb hne=>dW _ _ _ _ (Ne.symm (hne _ ho hblk))) ?_ ?_ (fun b j hI=>.inl hI) (fun _=>.inr ⟨_,ho,hblk,rfl⟩) ?_ (dN wf ho) ?_
     . intro y' hy';rw [ho] at hy';cases hy';simp [am.grows]
     . intro b j hI;refine ⟨hI,?_⟩;by_cases hb:b=(ρ.loc o).blk
       . subst hb;have hnm:=wf.imm o _ j ho hblk hI;simp only [am.muts] at hnm;rw [cell_of_row _ _ _ _ _ _ (setRow_heap w _ c _ ty _ h1),cell_of_row _ _ _ _ _ _ h1,eJ _ _ _ (by simp;omega),if_neg oq]
       . exact bB (dW _ _ _ _ hb) j
     . intro j _ hI;exact wf.imm o (.arr sz es fr0) j ho hblk hI
     . intro le;refine ⟨by simpa using g1,by simpa using g2,g3,?_,fun _=>⟨_,ty,setRow_heap w _ c _ ty _ h1,by simp;omega,?_⟩⟩
       . intro i' x' hx';by_cases e:i'=idx
         . subst e;simp [hil] at hx';subst hx';rw [hzc,jR _ _ _ hle'];exact hys
         . rw [aY _ _ _ _ e] at hx';exact g4 i' x' hx'
       . intro i' x' j y' v hx' hy' hv;rw [eJ _ _ _ (by simp;omega),hVl] at hv;by_cases e:i'=idx
         . subst e;simp [hil] at hx';subst hx';rw [hzc,kQ _ _ _ hle'] at hy';split at hy'
           . rename_i hin;rw [if_pos oq] at hv;have e2:(ρ.loc o).base+i' * sz+j - ((ρ.loc o).base+i' * sz+off)=j - off:=by omega
             rw [e2] at hv;exact (hcv _ y' v hy' (by simpa using hv)).mono le
           . rename_i hin;rw [if_neg oq] at hv;exact (h3 i' y j y' v hy hy' hv).mono le
         . rw [aY _ _ _ _ e] at hx';have hjs:j<sz:=by rw [<- g4 i' x' hx'];exact (List.getElem?_eq_some_iff.1 hy').1
           rw [if_neg ?_] at hv
           . exact (h3 i' x' j y' v hx' hy' hv).mono le
           . rintro ⟨q1,q2⟩;have:i' * sz+j=idx * sz+(i' * sz+j - idx * sz):=by omega
             exact e (Du hjs oq this).1
 . simp at hs
end
end
section
section
variable {E:Ent} {ρ:Ren} {h:af} {w:World} {P:Program}
theorem D9 (s:List UInt8):(⟨s.toArray⟩:ByteArray).size=s.length:=by simp [ByteArray.size]
def k4 (h:af) (p:aa) (d:Nat):Option aa :=
 match p with
 | .ptr o b=>some (.ptr o (b+d))
 | .pimm cs b=>some (.pimm cs (b+d))
 | .pown o idx b n=>match h[o]? with
  | some (.arr _ es _)=>if es.length=n then some (.pown o idx (b+d) n) else none
  | _=>none
 | _=>none
theorem n9 {p q:aa} {v:Value} {d:Nat} (hp:VR ρ h w p v) (hq:k4 h p d=some q) :
 ∃ b off,v=.pointer (some ⟨b,off,none⟩)/\VR ρ h w q (.pointer (some ⟨b,off+d,none⟩)):=by
 unfold k4 at hq;split at hq <;> try (simp at hq;done)
 . simp at hq;subst hq;cases hp with
   | ptr _ _ cs ho=>exact ⟨_,_,rfl,.ptr _ _ cs ho⟩
 . simp at hq;subst hq;cases hp with
   | pimm _ _ b base val hc hv =>
    refine ⟨_,_,rfl,?_⟩;rw [Nat.add_assoc];exact .pimm _ _ b base val hc hv
 . split at hq <;> try (simp at hq;done)
   rename_i sz es fr ho;split at hq <;> simp at hq;rename_i hn;subst hq;cases hp with
   | pown _ idx b n a sz' es' fr' ho' hv =>
    rw [ho] at ho';cases ho';rw [hv.2 hn];refine ⟨_,_,rfl,.pown _ _ _ _ _ _ _ _ ho ⟨by omega,fun _=>?_⟩⟩;rw [Nat.add_assoc]
def gm (P:Program) (h:af) (s:TypeId) (p:aa) (f:Nat):Option aa :=
 match aP P s with
 | some i=>match i.k with
  | .struct fs=>match fs[f]? with
   | some (off,ft)=>match aP P ft with
    | some j=>if j.size=0 then none else k4 h p off
    | none=>none
   | none=>none
  | _=>none
 | none=>none
theorem pn {s:TypeId} {p q:aa} {f:Nat} {v:Value} (hq:gm P h s p f=some q) (hp:VR ρ h w p v) :
 ∃ u,(Instr.fieldAt s v f).run P w=.ok u w/\VR ρ h w q u:=by
 unfold gm at hq;split at hq <;> try (simp at hq;done)
 rename_i i hi;split at hq <;> try (simp at hq;done)
 rename_i fs hk;split at hq <;> try (simp at hq;done)
 rename_i off ft hf;split at hq <;> try (simp at hq;done)
 rename_i j hj;split at hq <;> try (simp at hq;done)
 rename_i hne;obtain ⟨d,h1,h2⟩:=run_underlying hi w;obtain ⟨l,rfl,rfl⟩:=nj (h2.trans hk);simp at hf;obtain ⟨fld,hfld,rfl,rfl⟩:=hf;obtain ⟨b,o,rfl,hv⟩:=n9 hp hq;refine ⟨_,?_,hv⟩;have hs:=b7 hj w;simp [Instr.fieldAt,h1,hfld,Instr.sureAddr,fieldPlace,hs,hne,gn]
def apart (P:Program) (t:TypeId) (x:aa) (off:Nat):Option aa :=
 match x with
 | .agg cs=>lh P t cs off
 | _=>none
theorem jw {t:TypeId} {cs:List aa} {off:Nat} {x:aa} {vs:Array Value} (hx:lh P t cs off=some x)
 (hl:vs.size=cs.length) (hv:∀ (i:Nat) x v,cs[i]?=some x->vs[i]?=some v->VR ρ h w x v) :
 ∃ u,(part t vs off).run P w=.ok u w/\VR ρ h w x u:=by
 unfold lh at hx;split at hx <;> try (simp at hx;done)
 rename_i i hi;have ha:=wi hi w;have hs:=b7 hi w;split at hx
 . rename_i hagg;split at hx <;> simp at hx;rename_i hle;subst hx;refine ⟨.agg (vs.extract off (off+i.size)),by simp [part,ha,hagg,hs],?_⟩;refine .agg _ _ (by simp;omega) ?_
   grind
 . rename_i hagg;have hagg':i.k.agg=false:=by simpa using hagg
   have hlt:off<cs.length:=(List.getElem?_eq_some_iff.1 hx).1;have hlt':off<vs.size:=by omega
   refine ⟨vs[off],?_,hv off x _ hx (by simp [hlt'])⟩;simp [part,ha,hagg',hlt']
def Cn (P:Program) (t:TypeId) (x:aa) (f:Nat):Option aa :=
 match aP P t with
 | some i=>match i.k with
  | .struct fs=>match fs[f]? with
   | some (off,ft)=>apart P ft x off
   | none=>none
  | _=>none
 | none=>none
theorem yh {t:TypeId} {x y:aa} {f:Nat} {v:Value} (hy:Cn P t x f=some y) (hx:VR ρ h w x v) :
 ∃ u,(Instr.field t v f).run P w=.ok u w/\VR ρ h w y u:=by
 unfold Cn at hy;split at hy <;> try (simp at hy;done)
 rename_i i hi;split at hy <;> try (simp at hy;done)
 rename_i fs hk;split at hy <;> try (simp at hy;done)
 rename_i off ft hf;obtain ⟨d,h1,h2⟩:=run_underlying hi w;obtain ⟨l,rfl,rfl⟩:=nj (h2.trans hk);simp at hf;obtain ⟨fld,hfld,rfl,rfl⟩:=hf;unfold apart at hy;split at hy <;> try (simp at hy;done)
 cases hx with
 | agg cs vs hl hv =>
  obtain ⟨u,g1,g2⟩:=jw (P:=P) hy hl hv;exact ⟨u,by simp [Instr.field,h1,hfld,asAgg,g1],g2⟩
def fz (h:af):aa->Option (List aa)
 | .imm l=>some l
 | .full l=>some l
 | .own o off len=>match h[o]? with
  | some (.arr _ es _)=>if off+len=es.length then some (es.drop off) else none
  | _=>none
 | _=>none
def xN (h:af):aa->Option Nat
 | .str s=>some s.length
 | .imm l=>some l.length
 | .full l=>some l.length
 | .own o off len=>match h[o]? with
  | some (.arr _ es _)=>if off+len=es.length then some len else none
  | _=>none
 | .nilm=>some 0
 | .map o=>match h[o]? with
  | some (.map es)=>some es.length
  | _=>none
 | _=>none
def TyK.lenOk:TyK->aa->Bool
 | .str,.str _=>true
 | .slice _,.imm _|.slice _,.full _|.slice _,.own _ _ _=>true
 | .map _ _,.nilm|.map _ _,.map _=>true
 | _,_=>false
theorem Ci (wf:WF ρ h w) {t:TypeId} {i:TyI} {x:aa} {v:Value} {n:Nat} {ty:TypeId} {ats:Array TypeId} (ht:aP P t=some i) (hk:i.k.lenOk x=true) (hn:xN h x=some n)
 (ha:ats[0]?=some t) (hx:VR ρ h w x v):(Builtin.len_ ats ty #[v]).run P w=.ok (.int .i64 n) w:=by
 obtain ⟨d,h1,h2⟩:=run_underlying ht w;unfold xN at hn;split at hn <;> try (simp at hn;done)
 . simp at hn;subst hn;cases hx with
   | str s =>
   have hk':i.k=.str:=by revert hk;cases i.k <;> simp [TyK.lenOk]
   have:=kJ (h2.trans hk');subst this;simp only [Builtin.len_,ha,List.getElem?_toArray,List.getElem?_cons_zero,Sem.run_bind,h1,Result.andThen_ok,Sem.run_pure,goInt,D9]
 . simp at hn;subst hn;cases hx with
   | imm l a cap sz b off val =>
   obtain ⟨e,hk'⟩:∃ e,i.k=.slice e:=by revert hk;cases i.k <;> simp [TyK.lenOk]
   have:=cH (h2.trans hk');subst this;simp [Builtin.len_,ha,h1,goInt]
 . simp at hn;subst hn;cases hx with
   | full l a sz b off val =>
   obtain ⟨e,hk'⟩:∃ e,i.k=.slice e:=by revert hk;cases i.k <;> simp [TyK.lenOk]
   have:=cH (h2.trans hk');subst this;simp [Builtin.len_,ha,h1,goInt]
 . rename_i o off len;split at hn <;> try (simp at hn;done)
   rename_i sz es fr ho;split at hn <;> simp at hn;rename_i htip;subst hn;cases hx with
   | own _ _ _ a m cap sz' es' fr' ho' hv =>
   rw [ho] at ho';cases ho';obtain ⟨e,hk'⟩:∃ e,i.k=.slice e:=by revert hk;cases i.k <;> simp [TyK.lenOk]
   have:=cH (h2.trans hk');subst this;simp [Builtin.len_,ha,h1,goInt,(hv.2 htip).1]
 . simp at hn;subst hn;cases hx
   obtain ⟨k,e,hk'⟩:∃ k e,i.k=.map k e:=by revert hk;cases i.k <;> simp [TyK.lenOk]
   have:=oL (h2.trans hk');subst this;simp [Builtin.len_,ha,h1,goInt]
 . rename_i o;split at hn <;> simp at hn;rename_i es ho;subst hn;cases hx
   obtain ⟨k,e,hk'⟩:∃ k e,i.k=.map k e:=by revert hk;cases i.k <;> simp [TyK.lenOk]
   have:=oL (h2.trans hk');subst this;obtain ⟨ms,clock,g1,g2,_⟩:=wf.obj o _ ho;have hg:(getObj (ρ.loc o).blk).run P w=.ok (.map ms clock) w:=by simp [getObj,Sem.run,g1]
   simp [Builtin.len_,ha,h1,goInt,hg,g2]
def dD (P:Program) (h:af) (t:TypeId) (x:aa) (n:Int):Option aa :=
 match aP P t with
 | some i=>match i.k with
  | .slice e=>match aP P e with
   | some j=>match x with
    | .imm l=>if 0<=n/\n<l.length then
     match l[n.toNat]? with
     | some y=>if y.cells.length=j.size then some (.pimm y.cells 0) else none
     | none=>none
     else none
    | .full l=>if 0<=n/\n<l.length then
     match l[n.toNat]? with
     | some y=>if y.cells.length=j.size then some (.pimm y.cells 0) else none
     | none=>none
     else none
    | .own o off len=>match h[o]? with
     | some (.arr sz es _)=>if off+len=es.length/\sz=j.size/\0<=n/\n<len then some (.pown o (off+n.toNat) 0 es.length) else none
     | _=>none
    | _=>none
   | none=>none
  | .array len e=>match aP P e with
   | some j=>if 0<=n/\n<len then k4 h x (n.toNat * j.size) else none
   | none=>none
  | _=>none
 | none=>none
theorem qg {l:List aa} {sz b off:Nat} {val:Nat->Nat->Value} {k:Nat} {y:aa}
 (hc:∀ (i:Nat) x (j:Nat) y,l[i]?=some x->x.cells[j]?=some y->ρ.I b (off+i * sz+j)/\w.cell? ⟨b,off+i * sz+j,none⟩=some (val i j))
 (hv:∀ (i:Nat) x (j:Nat) y,l[i]?=some x->x.cells[j]?=some y->VR ρ h w y (val i j)) (hy:l[k]?=some y) :
 VR ρ h w (.pimm y.cells 0) (.pointer (some ⟨b,off+k * sz,none⟩)) :=
 .pimm y.cells 0 b (off+k * sz) (val k) (fun j z hz=>hc k y j z hy hz) (fun j z hz=>hv k y j z hy hz)
theorem pp (wf:WF ρ h w) {t:TypeId} {x q:aa} {k:IntKind} {n:Int} {v:Value} (hq:dD P h t x n=some q) (hx:VR ρ h w x v) :
 ∃ u,(Instr.indexAt t v (.int k n)).run P w=.ok u w/\VR ρ h w q u:=by
 unfold dD at hq;split at hq <;> try (simp at hq;done)
 rename_i i hi;obtain ⟨d,h1,h2⟩:=run_underlying hi w;split at hq <;> try (simp at hq;done)
 . rename_i e hk;have:=cH (h2.trans hk);subst this;split at hq <;> try (simp at hq;done)
   rename_i j hj;have hs:=b7 hj w;split at hq <;> try (simp at hq;done)
   . split at hq <;> try (simp at hq;done)
     rename_i hin;split at hq <;> try (simp at hq;done)
     rename_i y hy;split at hq <;> simp at hq;rename_i hsz;subst hq;cases hx with
     | imm _ a cap sz b off val hcap ha hszl hc hv =>
     rw [ha oq];have e:=hszl _ y hy;have e':j.size=sz:=by omega
     refine ⟨_,?_,qg hc hv hy⟩;simp [Instr.indexAt,asIntOf,h1,hin,hs,gn,e']
   . split at hq <;> try (simp at hq;done)
     rename_i hin;split at hq <;> try (simp at hq;done)
     rename_i y hy;split at hq <;> simp at hq;rename_i hsz;subst hq;cases hx with
     | full _ a sz b off val ha hszl hc hv =>
     rw [ha oq];have e:=hszl _ y hy;have e':j.size=sz:=by omega
     refine ⟨_,?_,qg hc hv hy⟩;simp [Instr.indexAt,asIntOf,h1,hin,hs,gn,e']
   . rename_i o off len;split at hq <;> try (simp at hq;done)
     rename_i sz es fr ho;split at hq <;> simp at hq;rename_i hin;obtain ⟨htip,hsz,hin⟩:=hin;subst hq;cases hx with
     | own _ _ _ a m cap sz' es' fr' ho' hv =>
     rw [ho] at ho';cases ho';obtain ⟨rfl,hcap,ha⟩:=hv.2 htip;obtain ⟨_,g2,_⟩:=wf.obj o _ ho;rw [ha oq];refine ⟨_,by simp [Instr.indexAt,asIntOf,h1,hin,hs,gn];rfl,?_⟩;refine .pown _ _ _ _ _ _ _ _ ho ⟨Nat.le_refl _,fun _=>?_⟩
     grind
 . rename_i len e hk;have:=mN (h2.trans hk);subst this;split at hq <;> try (simp at hq;done)
   rename_i j hj;have hs:=b7 hj w;split at hq <;> try (simp at hq;done)
   rename_i hin;obtain ⟨b,off,rfl,hv⟩:=n9 hx hq;refine ⟨_,?_,hv⟩;simp [Instr.indexAt,asIntOf,h1,hin,hs,gn,Instr.sureAddr]
def Cz (P:Program) (t:TypeId) (x:aa) (n:Int):Option aa :=
 match aP P t with
 | some i=>match i.k,x with
  | .str,.str s=>if 0<=n then (s[n.toNat]?).map fun c=>.int .u8 c.toNat else none
  | .array len e,.agg cs=>match aP P e with
   | some j=>if 0<=n/\n<len then lh P e cs (n.toNat * j.size) else none
   | none=>none
  | _,_=>none
 | none=>none
theorem yJ {t:TypeId} {x q:aa} {k:IntKind} {n:Int} {v:Value} (hq:Cz P t x n=some q) (hx:VR ρ h w x v) :
 ∃ u,(Instr.index t v (.int k n)).run P w=.ok u w/\VR ρ h w q u:=by
 unfold Cz at hq;split at hq <;> try (simp at hq;done)
 rename_i i hi;obtain ⟨d,h1,h2⟩:=run_underlying hi w;split at hq <;> try (simp at hq;done)
 . rename_i s hk;have:=kJ (h2.trans hk);subst this;split at hq <;> simp at hq;rename_i h0;obtain ⟨c,hc,rfl⟩:=hq;cases hx
   refine ⟨_,?_,.int _ _⟩
   have hc':(⟨s.toArray⟩:ByteArray)[n.toNat]?=some c:=by
    have hlt:n.toNat<s.length:=(List.getElem?_eq_some_iff.1 hc).1;have hlt':n.toNat<(⟨s.toArray⟩:ByteArray).size:=by simpa [ByteArray.size] using hlt
    rw [getElem?_pos (⟨s.toArray⟩:ByteArray) n.toNat hlt'];rw [List.getElem?_eq_getElem hlt] at hc;simpa [ByteArray.getElem_eq_getElem_data] using hc
   simp [Instr.index,asIntOf,h1,h0,hc']
 . rename_i len e cs hk;have:=mN (h2.trans hk);subst this;split at hq <;> try (simp at hq;done)
   rename_i j hj;have hs:=b7 hj w;split at hq <;> try (simp at hq;done)
   rename_i hin;cases hx with
   | agg cs vs hl hv =>
   obtain ⟨u,g1,g2⟩:=jw (P:=P) hq hl hv;exact ⟨u,by simp [Instr.index,asIntOf,h1,hin,hs,g1],g2⟩
def tn (x:aa) (n:Nat):Option aa :=
 match x with
 | .tup vs=>vs[n]?
 | _=>none
theorem s5 {x q:aa} {n:Nat} {v:Value} (hq:tn x n=some q) (hx:VR ρ h w x v) :
 ∃ u,(Instr.extract v n).run P w=.ok u w/\VR ρ h w q u:=by
 unfold tn at hq;split at hq <;> try (simp at hq;done)
 cases hx with
 | tup _ vs hl hv =>
 have hlt':n<vs.size:=by rw [hl];exact (List.getElem?_eq_some_iff.1 hq).1
 exact ⟨vs[n],by simp [Instr.extract,hlt'],hv n q _ hq (by simp [hlt'])⟩
end
end
section
section
variable {E:Ent} {ρ:Ren} {h:af} {w:World} {P:Program}
def gq (sz:Nat) (l:List aa):Bool:=l.all fun x=>x.cells.length==sz
theorem gA {sz:Nat} {l:List aa} (hl:gq sz l=true):∀ (i:Nat) x,l[i]?=some x->x.cells.length=sz:=by
 intro i x hx;have:=List.all_eq_true.1 hl x (List.mem_of_getElem? hx);simpa using this
def d5 (len:Nat) (lo hi:Option aa):Option (Nat×Nat) :=
 match (match hi with|none=>some len|some (.int _ n)=>if 0<=n/\n<=len then some n.toNat else none|_=>none) with
 | none=>none
 | some h=>match (match lo with|none=>some 0|some (.int _ n)=>if 0<=n/\n<=h then some n.toNat else none|_=>none) with
  | none=>none
  | some l=>some (l,h)
def oF (ρ:Ren) (h:af) (w:World):Option aa->Option Value->Prop
 | none,none=>True
 | some x,some v=>VR ρ h w x v
 | _,_=>False
theorem dE {len cap:Nat} {lo hi:Option aa} {l k:Nat} {vlo vhi:Option Value} (hb:d5 len lo hi=some (l,k)) (hl:oF ρ h w lo vlo) (hh:oF ρ h w hi vhi)
 (isS:Bool) (hcap:len<=cap):(Instr.sliceBounds isS len cap vlo vhi none).run P w=.ok (l,k,cap) w/\l<=k/\k<=len:=by
 unfold d5 at hb;split at hb <;> try (simp at hb;done)
 rename_i k' hk;split at hb <;> simp at hb;rename_i l' hl';obtain ⟨rfl,rfl⟩:=hb
 have hhi:(match vhi,(none:Option Value) with
  | some v,some _=>Instr.sliceBound v cap .slice3B
  | some v,none=>Instr.sliceBound v cap (if isS=true then .sliceAcap else .sliceAlen)
  | none,none=>pure len
  | none, some _ => stuck "" : Sem Nat).run P w = .ok k' w ∧ k' ≤ len := by
  cases hi with
  | none=>cases vhi <;> simp [oF] at hh;simp at hk;subst hk;exact ⟨rfl,Nat.le_refl _⟩
  | some x =>
   cases vhi <;> simp [oF] at hh
   cases x <;> simp at hk
   cases hh
   obtain ⟨⟨h0,h1⟩,rfl⟩:=hk;refine ⟨?_,by omega⟩;rename_i n;have:n<=(cap:Int):=by omega
   simp [Instr.sliceBound,asIntOf,h0,this]
 have hlo:(match vlo with
  | some v=>Instr.sliceBound v k' .sliceB
  | none=>pure 0:Sem Nat).run P w=.ok l' w/\l'<=k':=by
  cases lo with
  | none=>cases vlo <;> simp [oF] at hl;simp at hl';subst hl';exact ⟨rfl,Nat.zero_le _⟩
  | some x =>
   cases vlo <;> simp [oF] at hl
   cases x <;> simp at hl'
   cases hl
   obtain ⟨⟨h0,h1⟩,rfl⟩:=hl';refine ⟨?_,by omega⟩;simp [Instr.sliceBound,asIntOf,h0,h1]
 refine ⟨?_,hlo.2,hhi.2⟩;cases vhi <;> cases vlo <;> simp_all [Instr.sliceBounds]
def iS (P:Program) (h:af) (t:TypeId) (x:aa) (lo hi:Option aa):Option aa :=
 match aP P t with
 | some i=>match i.k,x with
  | .str,.str s=>(d5 s.length lo hi).map fun b=>.str ((s.take b.2).drop b.1)
  | .slice e,.imm l=>match aP P e with
   | some j=>if gq j.size l=true then (d5 l.length lo hi).map fun b=>.imm ((l.take b.2).drop b.1) else none
   | none=>none
  | .slice e,.full l=>match aP P e with
   | some j=>if gq j.size l=true then
    match hi with
    | none=>(d5 l.length lo none).map fun b=>.full (l.drop b.1)
    | some y=>(d5 l.length lo (some y)).map fun b=>.imm ((l.take b.2).drop b.1)
    else none
   | none=>none
  | .slice e,.own o off len=>match aP P e,h[o]? with
   | some j,some (.arr sz es _)=>if off+len=es.length/\sz=j.size then
    match hi with
    | none=>(d5 len lo none).map fun b=>.own o (off+b.1) (len - b.1)
    | some y=>match d5 len lo (some y) with
     | some (0,0)=>some (.imm [])
     | _=>none
    else none
   | _,_=>none
  | .array n e,.pimm cs off=>match aP P e with
   | some j=>if j.size=1/\off+n<=cs.length/\((cs.drop off).take n).all aa.cellOk=true then
    match lo,hi with
    | none,none=>some (.full ((cs.drop off).take n))
    | _,_=>none
    else none
   | none=>none
  | _,_=>none
 | none=>none
theorem sd {l:List aa} {a:Option Addr} {cap:Nat} (hx:VR ρ h w (.imm l) (.slice a l.length cap)) (lo hi:Nat) (h1:lo<=hi) (h2:hi<=l.length)
 (sz:Nat) (hsz:∀ (i:Nat) x,l[i]?=some x->x.cells.length=sz) :
 VR ρ h w (.imm ((l.take hi).drop lo)) (.slice (if cap=lo then a else a.map (·.add (lo * sz))) (hi - lo) (cap - lo)):=by
 cases hx with
 | imm _ a cap sz' b off val hcap ha hsz' hc hv =>
 have hlen:((l.take hi).drop lo).length=hi - lo:=by simp;omega
 rw [<- hlen]
 have get:∀ (i:Nat) x,((l.take hi).drop lo)[i]?=some x->l[lo+i]?=some x:=by
  grind
 refine .imm _ _ _ sz b (off+lo * sz) (fun i j=>val (lo+i) j) oq ?_ (fun i x hx=>hsz _ x (get i x hx)) ?_ ?_
 . intro hpos;have hne:¬ cap=lo:=by omega
   rw [if_neg hne,ha oq];simp [gn]
 . grind
 . grind
theorem IR {l:List aa} {v:Value} (hx:VR ρ h w (.full l) v):VR ρ h w (.imm l) v:=by
 cases hx with
 | full _ a sz b off val ha hsz hc hv=>exact .imm l a _ sz b off val (Nat.le_refl _) ha hsz hc hv
theorem As {l:List aa} {a:Option Addr} (hx:VR ρ h w (.imm l) (.slice a l.length l.length)):VR ρ h w (.full l) (.slice a l.length l.length):=by
 cases hx with
 | imm _ a cap sz b off val hcap ha hsz hc hv=>exact .full l a sz b off val ha hsz hc hv
theorem w3 (wf:WF ρ h w) {t:TypeId} {x q:aa} {lo hi:Option aa} {v:Value} {vlo vhi:Option Value} (hq:iS P h t x lo hi=some q) (hx:VR ρ h w x v)
 (hl:oF ρ h w lo vlo) (hh:oF ρ h w hi vhi):∃ u,(Instr.sliceAt t v vlo vhi none).run P w=.ok u w/\VR ρ h w q u:=by
 unfold iS at hq;split at hq <;> try (simp at hq;done)
 rename_i i hi';obtain ⟨d,h1,h2⟩:=run_underlying hi' w;split at hq <;> try (simp at hq;done)
 . rename_i s hk;have:=kJ (h2.trans hk);subst this;simp at hq;obtain ⟨l,k,hb,rfl⟩:=hq;cases hx
   obtain ⟨g1,g2,g3⟩:=dE (P:=P) hb hl hh false (Nat.le_refl _);refine ⟨.string (ByteArray.extract ⟨s.toArray⟩ l k),?_,?_⟩
   . simp [Instr.sliceAt,h1,Instr.slice,D9,g1]
   . have:(ByteArray.extract ⟨s.toArray⟩ l k)=⟨((s.take k).drop l).toArray⟩:=by
      apply ByteArray.ext;simp [ByteArray.data_extract,List.drop_take]
     rw [this];exact .str _
 . rename_i e l hk;have:=cH (h2.trans hk);subst this;split at hq <;> try (simp at hq;done)
   rename_i j hj;have hs:=b7 hj w;split at hq <;> simp at hq;rename_i hrow;obtain ⟨lo',hi'',hb,rfl⟩:=hq;obtain ⟨a,cap,rfl,hcap⟩:∃ a cap,v=.slice a l.length cap/\l.length<=cap:=by cases hx;exact ⟨_,_,rfl,by assumption⟩
   obtain ⟨g1,g2,g3⟩:=dE (P:=P) hb hl hh true hcap;refine ⟨_,?_,sd hx lo' hi'' g2 g3 j.size (gA hrow)⟩;simp [Instr.sliceAt,h1,Instr.slice,g1,hs]
 . rename_i e l hk;have:=cH (h2.trans hk);subst this;split at hq <;> try (simp at hq;done)
   rename_i j hj;have hs:=b7 hj w;split at hq <;> try (simp at hq;done)
   rename_i hrow;obtain ⟨a,rfl⟩:∃ a,v=.slice a l.length l.length:=by cases hx;exact ⟨_,rfl⟩
   have hxi:=IR hx;split at hq
   . simp at hq;obtain ⟨lo',⟨hi'',hb⟩,rfl⟩:=hq
     have he:hi''=l.length:=by
      unfold d5 at hb
      grind
     subst he;obtain ⟨g1,g2,g3⟩:=dE (P:=P) hb hl hh true (Nat.le_refl _);have hc:=sd hxi lo' l.length g2 g3 j.size (gA hrow);rw [List.take_length] at hc;refine ⟨.slice (if l.length=lo' then a else a.map (·.add (lo' * j.size))) (l.length - lo') (l.length - lo'),?_,?_⟩
     . simp [Instr.sliceAt,h1,Instr.slice,g1,hs]
     . have e:(l.drop lo').length=l.length - lo':=by simp
       rw [<- e] at hc ⊢;exact As hc
   . simp at hq;obtain ⟨lo',hi'',hb,rfl⟩:=hq;obtain ⟨g1,g2,g3⟩:=dE (P:=P) hb hl hh true (Nat.le_refl _);refine ⟨_,?_,sd hxi lo' hi'' g2 g3 j.size (gA hrow)⟩;simp [Instr.sliceAt,h1,Instr.slice,g1,hs]
 . rename_i e o off len hk;have:=cH (h2.trans hk);subst this;split at hq <;> try (simp at hq;done)
   rename_i j sz es fr hj ho;have hs:=b7 hj w;split at hq <;> try (simp at hq;done)
   rename_i hcnd;obtain ⟨htip,hsz⟩:=hcnd;split at hq
   . simp at hq;obtain ⟨lo',⟨hi'',hb⟩,rfl⟩:=hq
     have he:hi''=len:=by
      unfold d5 at hb
      grind
     subst he;cases hx with
     | own _ _ _ a m cap sz' es' fr' ho' hv =>
     rw [ho] at ho';cases ho';obtain ⟨rfl,hcap,ha⟩:=hv.2 htip;obtain ⟨_,q2,_⟩:=wf.obj o _ ho;obtain ⟨g1,g2,g3⟩:=dE (P:=P) (cap:=cap) hb hl hh true oq;refine ⟨.slice (if cap=lo' then a else a.map (·.add (lo' * j.size))) (m - lo') (cap - lo'),?_,?_⟩
     . simp [Instr.sliceAt,h1,Instr.slice,g1,hs]
     . refine .own _ _ _ _ _ _ _ _ _ ho ⟨by omega,fun _=>⟨rfl,by omega,fun hpos=>?_⟩⟩;rw [if_neg oq,ha oq];simp only [Option.map_some,gn,<- hsz]
       grind
   . split at hq <;> try (simp at hq;done)
     rename_i hb;simp only [Option.some.injEq] at hq;subst hq;cases hx with
     | own _ _ _ a m cap sz' es' fr' ho' hv =>
     rw [ho] at ho';cases ho';obtain ⟨rfl,hcap,ha⟩:=hv.2 htip;obtain ⟨_,q2,_⟩:=wf.obj o _ ho;obtain ⟨g1,g2,g3⟩:=dE (P:=P) (cap:=cap) hb hl hh true oq;refine ⟨.slice (if cap=0 then a else a.map (·.add (0 * j.size))) (0 - 0) (cap - 0),?_,?_⟩
     . simp [Instr.sliceAt,h1,Instr.slice,g1,hs]
     . exact .imm [] _ _ 0 0 0 (fun _ _=>undef) (Nat.zero_le _) zq zq zq zq
 . rename_i n e cs off hk;have:=mN (h2.trans hk);subst this;split at hq <;> try (simp at hq;done)
   rename_i j hj;have hs:=b7 hj w;split at hq <;> try (simp at hq;done)
   rename_i hcnd;obtain ⟨hsz,hle,hok⟩:=hcnd;split at hq <;> simp at hq;subst hq;cases vlo <;> simp [oF] at hl
   cases vhi <;> simp [oF] at hh
   cases hx with
   | pimm _ _ b base val hc hv =>
   have hlen:((cs.drop off).take n).length=n:=by simp;omega
   refine ⟨.slice (some (if n=0 then ⟨b,base+off,none⟩ else (⟨b,base+off,none⟩:Addr).add (0 * j.size))) n n,?_,?_⟩
   . simp [Instr.sliceAt,h1,Instr.sureAddr,Instr.sliceBounds,hs]
   . have e0:(some (if n=0 then (⟨b,base+off,none⟩:Addr) else (⟨b,base+off,none⟩:Addr).add (0 * j.size)))=some ⟨b,base+off,none⟩:=by
      split <;> simp [gn]
     rw [e0]
     have cellsOne:∀ (i:Nat) x,((cs.drop off).take n)[i]?=some x->x.cells=[x]:=by
      intro i x hx;have:=List.all_eq_true.1 hok x (List.mem_of_getElem? hx);cases x <;> simp [aa.cellOk] at this <;> rfl
     have get:∀ (i:Nat) x,((cs.drop off).take n)[i]?=some x->cs[off+i]?=some x:=by
      grind
     have hfull:VR ρ h w (.full ((cs.drop off).take n)) (.slice (some ⟨b,base+off,none⟩) ((cs.drop off).take n).length ((cs.drop off).take n).length):=by
      refine .full _ _ 1 b (base+off) (fun i _=>val (off+i)) (fun _=>rfl) (fun i x hx=>by rw [cellsOne i x hx];rfl) ?_ ?_
      . grind
      . grind
     rwa [hlen] at hfull
end
end
section
section
variable {E:Ent} {ρ:Ren} {h:af} {w:World} {P:Program}
theorem iz {α:Type} (l:List α) (x:α) (o:Nat) (ho:o<l.length):(l.set o x)[o]?=some x:=by simp [ho]
def Aq (w:World) (sz:Nat) (v:Value) (n:Nat) (cs:List Value):Prop :=
 ∃ a cap,v=.slice a n cap/\cs.length=n * sz /\
  (0<cs.length->∃ b off,a=some ⟨b,off,none⟩/\∀ (j:Nat) u,cs[j]?=some u->w.cell? ⟨b,off+j,none⟩=some u)
theorem kL {sz n:Nat} {v:Value} {cs:List Value} (hr:Aq w sz v n cs):(Builtin.firstCells sz n v).run P w=.ok cs.toArray w:=by
 obtain ⟨a,cap,rfl,hl,hc⟩:=hr;cases a with
 | none =>
  have:cs=[]:=by
   grind
  subst this;simp [Builtin.firstCells]
 | some a =>
  by_cases h0:0<cs.length
  . obtain ⟨b,off,e,hc'⟩:=hc h0;cases e
    exact run_firstCells_some w sz n _ n cap cs hl (fun j u hu=>by rw [gn];exact hc' j u hu)
  . have:cs=[]:=List.eq_nil_of_length_eq_zero oq;subst this;have:n * sz=0:=by simpa using hl.symm
    simp [Builtin.firstCells,this,loadCells,loadCellsFrom]
def iv (sz n:Nat) (val:Nat->Nat->Value):List Value:=(List.range (n * sz)).map fun k=>val (k / sz) (k % sz)
theorem fA (sz n:Nat) (val:Nat->Nat->Value):(iv sz n val).length=n * sz:=by simp [iv]
theorem rh (sz n:Nat) (val:Nat->Nat->Value) (i j:Nat) (hi:i<n) (hj:j<sz):(iv sz n val)[i * sz+j]?=some (val i j):=by
 have hlt:i * sz+j<n * sz:=by
  have:i * sz+sz<=n * sz:=by rw [<- Nat.succ_mul];exact Nat.mul_le_mul_right _ hi
  omega
 have h1:(i * sz+j) / sz=i:=by rw [Nat.mul_comm,Nat.mul_add_div oq,Nat.div_eq_of_lt hj];simp
 have h2:(i * sz+j) % sz=j:=by rw [Nat.mul_comm,Nat.mul_add_mod,Nat.mod_eq_of_lt hj]
 simp [iv,hlt,h1,h2]
theorem qp (sz n:Nat) (val:Nat->Nat->Value) (k:Nat) (u:Value) (hu:(iv sz n val)[k]?=some u) :
 ∃ i j,i<n/\j<sz/\k=i * sz+j/\u=val i j:=by
 have hk:k<n * sz:=by
  have:=(List.getElem?_eq_some_iff.1 hu).1;simpa [iv] using this
 have hsz:0<sz:=by
  grind
 refine ⟨k / sz,k % sz,(Nat.div_lt_iff_lt_mul hsz).2 hk,Nat.mod_lt _ hsz,?_,?_⟩
 . rw [Nat.mul_comm];exact (Nat.div_add_mod k sz).symm
 . simp [iv,hk] at hu;exact hu.symm
def jQ (ρ:Ren) (h:af) (w:World) (sz:Nat) (l:List aa) (cs:List Value):Prop :=
 ∀ (i:Nat) x (j:Nat) y,l[i]?=some x->x.cells[j]?=some y->∃ u,cs[i * sz+j]?=some u/\VR ρ h w y u
theorem jT (wf:WF ρ h w) {x:aa} {v:Value} (hx:VR ρ h w x v) {l:List aa} (hl:fz h x=some l) {sz:Nat} (hr:gq sz l=true) :
 ∃ cs,Aq w sz v l.length cs/\jQ ρ h w sz l cs:=by
 have hget:=gA hr
 have immcase:∀ (l:List aa) (a:Option Addr) (cap sz' b off:Nat) (val:Nat->Nat->Value),
  (∀ (i:Nat) x,l[i]?=some x->x.cells.length=sz)->(0<l.length->a=some ⟨b,off,none⟩)->(∀ (i:Nat) x,l[i]?=some x->x.cells.length=sz') ->
  (∀ (i:Nat) x (j:Nat) y,l[i]?=some x->x.cells[j]?=some y->ρ.I b (off+i * sz'+j)/\w.cell? ⟨b,off+i * sz'+j,none⟩=some (val i j)) ->
  (∀ (i:Nat) x (j:Nat) y,l[i]?=some x->x.cells[j]?=some y->VR ρ h w y (val i j)) ->
  ∃ cs,Aq w sz (.slice a l.length cap) l.length cs/\jQ ρ h w sz l cs:=by
  intro l a cap sz' b off val hget ha hsz hc hv;refine ⟨iv sz l.length val,⟨a,cap,rfl,fA _ _ _,fun hpos=>?_⟩,?_⟩
  . have hlp:0<l.length:=by
     rw [fA] at hpos
     grind
    refine ⟨b,off,ha hlp,fun k u hu=>?_⟩;obtain ⟨i,j,hi,hj,rfl,rfl⟩:=qp _ _ _ _ _ hu;have hxi:=List.getElem?_eq_getElem hi
    grind
  . intro i x j y hx hy;have hi:i<l.length:=(List.getElem?_eq_some_iff.1 hx).1;have hj:j<sz:=by rw [<- hget i x hx];exact (List.getElem?_eq_some_iff.1 hy).1
    exact ⟨val i j,rh _ _ _ i j hi hj,hv i x j y hx hy⟩
 cases hx <;> simp only [fz] at hl <;> try (simp at hl;done)
 . rename_i l' a cap sz' b off val hcap ha hsz hc hv;simp at hl;subst hl;exact immcase _ a cap sz' b off val hget ha hsz hc hv
 . rename_i l' a sz' b off val ha hsz hc hv;simp at hl;subst hl;exact immcase _ a _ sz' b off val hget ha hsz hc hv
 . rename_i o off len a n cap sz' es fr ho hv;rw [ho] at hl;simp at hl;obtain ⟨htip,rfl⟩:=hl;obtain ⟨rfl,hcap,ha⟩:=hv.2 htip;obtain ⟨g1,g2,g3,g4,g5⟩:=wf.obj o _ ho;have hlen:(es.drop off).length=n:=by simp;omega
   let val:Nat->Nat->Value:=fun i j=>(w.cell? ⟨(ρ.loc o).blk,(ρ.loc o).base+off * sz+i * sz+j,none⟩).getD undef
   have key:∀ (i:Nat) x (j:Nat) y,(es.drop off)[i]?=some x->x.cells[j]?=some y ->
    w.cell? ⟨(ρ.loc o).blk,(ρ.loc o).base+off * sz+i * sz+j,none⟩=some (val i j)/\VR ρ h w y (val i j):=by
    intro i x j y hx hy;have e1:=hget i x hx;rw [List.getElem?_drop] at hx;have e2:=g4 _ x hx;have e3:sz'=sz:=by omega
    subst e3;have hi:off+i<es.length:=(List.getElem?_eq_some_iff.1 hx).1;have hj:j<sz':=by rw [<- e1];exact (List.getElem?_eq_some_iff.1 hy).1
    obtain ⟨c,ty,q1,q2,q3⟩:=g5 oq;have hrow:(off+i) * sz'+sz'<=(ρ.loc o).cap * sz':=by rw [<- Nat.succ_mul];exact Nat.mul_le_mul_right _ oq
    have e4:(ρ.loc o).base+off * sz'+i * sz'+j=(ρ.loc o).base+(off+i) * sz'+j:=by rw [Nat.add_mul];omega
    have hb:(ρ.loc o).base+(off+i) * sz'+j<c.size:=by omega
    have hcell:w.cell? ⟨(ρ.loc o).blk,(ρ.loc o).base+off * sz'+i * sz'+j,none⟩=some c[(ρ.loc o).base+(off+i) * sz'+j]:=by
     rw [e4];simp [World.cell?,q1,hb]
    grind
   refine ⟨iv sz (es.drop off).length val,⟨a,cap,by rw [hlen],fA _ _ _,fun hpos=>?_⟩,?_⟩
   . have hlp:0<(es.drop off).length:=by
      rw [fA] at hpos
      grind
     have hszp:sz'=sz:=by
      have hx:=List.getElem?_eq_getElem hlp
      grind
     refine ⟨_,_,ha oq,fun k u hu=>?_⟩;obtain ⟨i,j,hi,hj,rfl,rfl⟩:=qp _ _ _ _ _ hu;have hxi:=List.getElem?_eq_getElem hi
     grind
   . intro i x j y hx hy;have hi:i<(es.drop off).length:=(List.getElem?_eq_some_iff.1 hx).1;have hj:j<sz:=by rw [<- hget i x hx];exact (List.getElem?_eq_some_iff.1 hy).1
     exact ⟨val i j,rh _ _ _ i j hi hj,(key i x j y hx hy).2⟩
def gk (sz:Nat) (l:List aa):Bool:=l.all fun x=>x.cells.length==sz && x.cells.all aa.cellOk
theorem vo {sz:Nat} {l:List aa} (hl:gk sz l=true):gq sz l=true:=by
 unfold gk at hl;unfold gq
 grind
theorem Fi {sz:Nat} {l:List aa} (hl:gk sz l=true) {cs:List Value} (he:jQ ρ h w sz l cs) (hlen:cs.length=l.length * sz):∀ v∈cs,v.oneCell'=true:=by
 intro v hv;obtain ⟨k,hk⟩:=List.getElem?_of_mem hv;have hkl:k<l.length * sz:=by rw [<- hlen];exact (List.getElem?_eq_some_iff.1 hk).1
 have hsz:0<sz:=by
  grind
 have hi:k / sz<l.length:=(Nat.div_lt_iff_lt_mul hsz).2 hkl;have hx:=List.getElem?_eq_getElem hi;have hok:=List.all_eq_true.1 hl _ (List.mem_of_getElem? hx);simp at hok;have hj:k % sz<(l[k / sz]).cells.length:=by rw [hok.1];exact Nat.mod_lt _ hsz
 obtain ⟨u,h1,h2⟩:=he _ _ _ _ hx (List.getElem?_eq_getElem hj);have e:k / sz * sz+k % sz=k:=by rw [Nat.mul_comm];exact Nat.div_add_mod k sz
 rw [e,hk] at h1;cases h1
 exact h2.one (hok.2 _ (List.getElem_mem hj))
def iC (n b:Nat):Bool:=decide (n * b<=140737488355328) && decide (n<=140737488355328)
def lZ (a:Option Addr) (d:Nat) (news:List Value):Sem Unit :=
 match a with
 | some b=>storeCells (b.add d) news
 | none=>pure ()
theorem mf {t t' ty e:TypeId} {i j i':TyI} {e':Nat} (ht:aP P t=some i) (hk:i.k=.slice e) (hj:aP P e=some j) (ht':aP P t'=some i') (hk':i'.k=.slice e')
 {a:Option Addr} {sLen sCap n:Nat} {x:Value} {olds news:List Value} (hs:Aq w j.size (.slice a sLen sCap) sLen olds) (hx:Aq w j.size x n news) (hf:iC (sLen+n) j.bytes=true) :
 (sCap<sLen+n->∃ C zs,sLen+n<=C/\zs.size=(C - (sLen+n)) * j.zero.cells.length/\(Builtin.append_ #[t,t'] ty #[.slice a sLen sCap,x]).run P w =
  .ok (.slice (some ⟨w.heap.size,0,none⟩) (sLen+n) C) (w.drew.alloc (.cells (olds.toArray++news.toArray++zs) e))) /\
 (sLen+n<=sCap->(Builtin.append_ #[t,t'] ty #[.slice a sLen sCap,x]).run P w =
  ((lZ a (sLen * j.size) news).run P w).andThen fun _ w'=>.ok (.slice a (sLen+n) sCap) w'):=by
 obtain ⟨d,h1,h2⟩:=run_underlying ht w;have:=cH (h2.trans hk);subst this;obtain ⟨d',h1',h2'⟩:=run_underlying ht' w;have:=cH (h2'.trans hk');subst this;have hsz:=b7 hj w;obtain ⟨info,hti,hisz,hib,z,hz,hoz⟩:=xC hj w
 have hti':(typeInfo e).run P w.drew=.ok info w.drew:=by
  obtain ⟨info',dd,zz,q1,_⟩:=iB hj
  have:info'=info:=by
   simp [typeInfo,q1] at hti;exact hti
  subst this;simp [typeInfo,q1]
 have hx0:=hx;obtain ⟨xa,xcap,rfl,hxl,_⟩:=hx;have hx':Aq w j.size (.slice xa n xcap) n news:=hx0;have hxd:Aq w.drew j.size (.slice xa n xcap) n news:=hx';have hsd:Aq w.drew j.size (.slice a sLen sCap) sLen olds:=hs;have hf1:=kL (P:=P) hx';have hf2:=kL (P:=P) hxd;have hf3:=kL (P:=P) hsd;unfold iC at hf;simp at hf;obtain ⟨hfb,hfn⟩:=hf
 have hzc:z.cells.size=j.zero.cells.length:=by
  have hv:VR ⟨fun _=>⟨0,0,0⟩,fun _ _=>False⟩ [] w j.zero z:=kH hoz _ _ _
  have hna:j.zero≠.any:=by
   intro e0;rw [e0] at hoz;unfold fU at hoz;split at hoz
   . simp at hoz
   . unfold pk at hoz;split at hoz <;> simp at hoz
  exact (hv.cells hna).1
 constructor
 . intro hgrow;have hn:¬ (sLen+n<=sCap):=by omega
   have h63:¬ (IntKind.i64.max<((sLen+n:Nat):Int)):=by
    have:IntKind.i64.max=9223372036854775807:=by decide
    omega
   have h48:¬ (2 ^ 48<Builtin.nextslicecap (sLen+n) sCap * info.bytes):=by
    have:=growslice_fits (need:=sLen+n) (old:=sCap) (bytes:=info.bytes) oq (by rw [hib];exact hfb);omega
   refine ⟨grownCap w (sLen+n) sCap e,Builtin.zeroCells z.cells (grownCap w (sLen+n) sCap e - (sLen+n)),?_,by rw [<- hzc];simp [Builtin.zeroCells],?_⟩
   . simp only [grownCap,Question.cut];omega
   have h63':¬ ((sLen+n:Nat):Int) > IntKind.i64.max:=h63;have h48':¬ Builtin.nextslicecap (sLen+n) sCap * info.bytes > 2 ^ 48:=h48
   have hzv:(zeroValue e).run P w.drew=.ok z w.drew:=by
    simp [zeroValue,hti',hz]
   simp only [Builtin.append_,List.getElem?_toArray,List.getElem?_cons_zero,List.getElem?_cons_succ,Sem.run_bind,h1,Result.andThen_ok,hsz,h1',Sem.run_pure,Builtin.lenOf,Bool.false_eq_true,if_false,
    hn,hti,h63',false_and,h48',run_choose,Question.forced,World.drew_eq,hti',run_askRoom,hf3,hf2,hzv,newRow,run_newObj,World.alloc_eq,grownCap,Bool.not_false,if_true]
   simp only [Array.append_assoc];rfl
 . intro hroom
   simp only [Builtin.append_,List.getElem?_toArray,List.getElem?_cons_zero,List.getElem?_cons_succ,Sem.run_bind,h1,Result.andThen_ok,hsz,h1',Sem.run_pure,Builtin.lenOf,Bool.false_eq_true,if_false,
    hroom,if_true,Bool.not_false,hf1]
   cases a <;> simp [lZ]
def kE (P:Program) (h:af) (t t':TypeId) (s x:aa):Option (aa×af) :=
 match aP P t with
 | some i => match i.k with
  | .slice e => match aP P e,aP P t' with
   | some j,some i'=>match i'.k with
    | .slice _=>match fz h x with
     | some src=>if 0<j.size/\j.zero.cells.length=j.size/\gk j.size src=true then
      match s with
      | .full l=>if (l.isEmpty || !src.isEmpty)=true/\gq j.size l=true/\iC (l.length+src.length) j.bytes=true then
       some (.own h.length 0 (l.length+src.length),h++[.arr j.size (l++src) 0]) else none
      | .own o 0 len=>match h[o]? with
       | some (.arr sz es fr)=>if len=es.length/\sz=j.size/\iC (len+src.length) j.bytes=true then
        some (.own o 0 (len+src.length),h.set o (.arr sz (es++src) fr)) else none
       | _=>none
      | _=>none
      else none
     | none=>none
    | _=>none
   | _,_=>none
  | _=>none
 | none=>none
theorem oC {sz:Nat} {l l':List aa} {cs cs':List Value} (he:jQ ρ h w sz l cs) (he':jQ ρ h w sz l' cs') (hl:cs.length=l.length * sz) :
 jQ ρ h w sz (l++l') (cs++cs'):=by
 intro i x j y hx hy;by_cases hi:i<l.length
 . rw [List.getElem?_append_left hi] at hx;obtain ⟨u,h1,h2⟩:=he i x j y hx hy
   grind
 . rw [List.getElem?_append_right oq] at hx;obtain ⟨u,h1,h2⟩:=he' _ x j y hx hy;refine ⟨u,?_,h2⟩
   have e:i * sz+j=cs.length+((i - l.length) * sz+j):=by
    rw [hl,<- Nat.add_assoc,<- Nat.add_mul];congr 2;omega
   grind
theorem jQ.mono {ρ':Ren} {h':af} {w':World} (le:Le ρ h w ρ' h' w') {sz:Nat} {l:List aa} {cs:List Value} (he:jQ ρ h w sz l cs):jQ ρ' h' w' sz l cs :=
 fun i x j y hx hy=>let ⟨u,h1,h2⟩:=he i x j y hx hy;⟨u,h1,h2.mono le⟩
theorem uo {c:Array Value} {cs:List Value} {zs:Array Value} {sz:Nat} {l:List aa} (he:jQ ρ h w sz l cs) (e:c=cs.toArray++zs) :
 ∀ (i:Nat) x (j:Nat) y v,l[i]?=some x->x.cells[j]?=some y->c[0+i * sz+j]?=some v->VR ρ h w y v:=by
 intro i x j y v hx hy hv;obtain ⟨u,h1,h2⟩:=he i x j y hx hy
 grind
theorem ux {t t' ty:TypeId} {s x v':aa} {h':af} (hq:kE P h t t' s x=some (v',h')) (wf:WF ρ h w) (fr:Fr E ρ h w) {vs vx:Value}
 (hs:VR ρ h w s vs) (hx:VR ρ h w x vx) :
 ∃ ρ' w' u,(Builtin.append_ #[t,t'] ty #[vs,vx]).run P w=.ok u w'/\VR ρ' h' w' v' u/\WF ρ' h' w'/\Le ρ h w ρ' h' w'/\Fr E ρ' h' w':=by
 unfold kE at hq;split at hq <;> try (simp at hq;done)
 rename_i i ht;split at hq <;> try (simp at hq;done)
 rename_i e hk;split at hq <;> try (simp at hq;done)
 rename_i j i' hj ht';split at hq <;> try (simp at hq;done)
 rename_i e' hk';split at hq <;> try (simp at hq;done)
 rename_i src hsrc;split at hq <;> try (simp at hq;done)
 rename_i hcnd;obtain ⟨hszp,hzl,hok⟩:=hcnd;obtain ⟨news,hrn,hen⟩:=jT wf hx hsrc (vo hok);have hnl:news.length=src.length * j.size:=by obtain ⟨_,_,_,q,_⟩:=hrn;exact q
 have hone:=Fi hok hen hnl;have hsrcget:=gA (vo hok);split at hq
 . -- onto a full slice: a new array
   rename_i l;split at hq <;> simp at hq;rename_i hc;obtain ⟨hne,hrow,hfit⟩:=hc;obtain ⟨rfl,rfl⟩:=hq;obtain ⟨olds,hro,heo⟩:=jT wf hs (show fz h (.full l)=some l from rfl) hrow;have hol:olds.length=l.length * j.size:=by obtain ⟨_,_,_,q,_⟩:=hro;exact q
   have hro0:=hro;obtain ⟨a,cap,rfl,_,_⟩:=hro;have hcapl:cap=l.length:=by cases hs;rfl
   subst hcapl;have hrun:=mf (P:=P) (w:=w) (ty:=ty) ht hk hj ht' hk' hro0 hrn hfit
   have hlget:∀ (i:Nat) x,(l++src)[i]?=some x->x.cells.length=j.size:=by
    intro i' x' hx';by_cases hi':i'<l.length
    . rw [List.getElem?_append_left hi'] at hx';exact gA hrow i' x' hx'
    . grind
   by_cases hm:src.length=0
   . -- nothing to append: l is empty too
     have hse:src=[]:=List.eq_nil_of_length_eq_zero hm;subst hse;have hle:l=[]:=by simpa using hne
     subst hle;have hnn:news=[]:=List.eq_nil_of_length_eq_zero (by simpa using hnl);subst hnn;have hr:=hrun.2 zq
     have hr':(Builtin.append_ #[t,t'] ty #[.slice a 0 0,vx]).run P w=.ok (.slice a 0 0) w:=by
      simp only [List.length_nil] at hr;rw [hr];cases a <;> simp [lZ,storeCells]
     refine ⟨ρ.put h.length ⟨0,0,0⟩ ρ.I,w,.slice a 0 0,hr',?_⟩
     have hst:=ce (h':=h++[.arr j.size ([]++[]) 0]) (w':=w) wf fr h.length (.arr j.size ([]++[]) 0) ⟨0,0,0⟩ ρ.I (getElem?_append_one _ _) (fun o' ho=>bE _ _ _ ho)
      rfl rfl rfl (Nat.le_refl _) (fun _ _ _=>rfl) zq (fun b j hI=>⟨hI,rfl⟩) (fun b j hI=>.inl hI) (by simp [am.hasBlk]) (by simp [am.hasBlk]) (cy wf)
      (fun le=>⟨by simp,by simp,hszp,by simp,by simp⟩)
     refine ⟨?_,hst⟩;refine .own _ _ _ _ _ _ _ _ _ (getElem?_append_one _ _) ⟨by simp,fun _=>⟨rfl,?_,by simp⟩⟩;rw [Ren.put_same]
   . obtain ⟨C,zs,hC,hzs,hr⟩:=hrun.1 oq;have hzs':zs.size=(C - (l.length+src.length)) * j.size:=by rw [hzs,hzl]
     refine ⟨ρ.put h.length ⟨w.heap.size,0,C⟩ ρ.I,_,_,hr,?_⟩;have hCp:0<C:=by omega
     have hst:=ce (h':=h++[.arr j.size (l++src) 0]) (w':=w.drew.alloc (.cells (olds.toArray++news.toArray++zs) e)) wf fr h.length (.arr j.size (l++src) 0) ⟨w.heap.size,0,C⟩ ρ.I (getElem?_append_one _ _) (fun o' ho=>bE _ _ _ ho)
      rfl rfl rfl zq (fun b hb _=>heap_alloc_old w.drew _ b hb) zq
      (fun b j hI=>⟨hI,bB (heap_alloc_old w.drew _ b (wf.immlt b j hI)) j⟩) (fun b j hI=>.inl hI)
      (fun _=>.inl ⟨Nat.le_refl _,by simp⟩) (fun j _ hI=>absurd (wf.immlt _ j hI) zq) (cy wf)
      (fun le=>⟨Nat.zero_le _,by simpa using hC,hszp,hlget,fun _=>⟨_,e,heap_alloc_new w.drew _,?_,?_⟩⟩)
     . refine ⟨?_,hst⟩;refine .own _ _ _ _ _ _ _ _ _ (getElem?_append_one _ _) ⟨by simp,fun _=>⟨rfl,?_,fun _=>?_⟩⟩
       . rw [Ren.put_same];simp
       . rw [Ren.put_same];simp
     . simp only [Array.size_append,List.size_toArray,hol,hnl,hzs',Nat.zero_add,<- Nat.add_mul];apply Nat.le_of_eq;congr 1;omega
     . exact uo (cs:=olds++news) (zs:=zs) ((oC heo hen hol).mono le) zq
 . -- onto an own array
   rename_i o len;split at hq <;> try (simp at hq;done)
   rename_i sz es fr0 ho;split at hq <;> simp at hq;rename_i hc;obtain ⟨htip,rfl,hfit⟩:=hc;obtain ⟨rfl,rfl⟩:=hq;obtain ⟨g1,g2,g3,g4,g5⟩:=wf.obj o _ ho
   have hrowes:gq j.size es=true:=by
    unfold gq;rw [List.all_eq_true];intro y hy;obtain ⟨k,hk⟩:=List.getElem?_of_mem hy;simp [g4 k y hk]
   have hae:fz h (.own o 0 len)=some es:=by simp [fz,ho,htip]
   obtain ⟨olds,hro,heo⟩:=jT wf hs hae hrowes;have hol:olds.length=es.length * j.size:=by obtain ⟨_,_,_,q,_⟩:=hro;exact q
   have hro0:=hro;cases hs with
   | own _ _ _ a n cap sz' es' fr' ho' hv =>
   rw [ho] at ho';cases ho';obtain ⟨rfl,hcap,ha⟩:=hv.2 oq;have hcap':cap=(ρ.loc o).cap:=by omega
   rw [<- htip] at hro0;have hrun:=mf (P:=P) (w:=w) (ty:=ty) ht hk hj ht' hk' hro0 hrn hfit;have holen:o<h.length:=(List.getElem?_eq_some_iff.1 ho).1
   have hlget:∀ (i:Nat) x,(es++src)[i]?=some x->x.cells.length=j.size:=by
    intro i' x' hx';by_cases hi':i'<es.length
    . rw [List.getElem?_append_left hi'] at hx';exact g4 i' x' hx'
    . rw [List.getElem?_append_right oq] at hx';exact hsrcget _ x' hx'
   by_cases hroom:n+src.length<=cap
   . have hr:=hrun.2 hroom;by_cases hc0:cap=0
     . -- no room,nothing there and nothing to append
       have hm:src=[]:=List.eq_nil_of_length_eq_zero oq;subst hm;have hnn:news=[]:=List.eq_nil_of_length_eq_zero (by simpa using hnl);subst hnn
       have hr':(Builtin.append_ #[t,t'] ty #[.slice a n cap,vx]).run P w=.ok (.slice a n cap) w:=by
        rw [hr];cases a <;> simp [lZ,storeCells]
       refine ⟨ρ.put o (ρ.loc o) ρ.I,w,_,hr',?_⟩
       have hst:=ce (h':=h.set o (.arr j.size (es++[]) fr0)) (w':=w) wf fr o (.arr j.size (es++[]) fr0) (ρ.loc o) ρ.I (by simp [holen]) (fun o' e=>aY _ _ _ _ e)
        rfl rfl rfl (Nat.le_refl _) (fun _ _ _=>rfl) (fun y hy=>by rw [ho] at hy;cases hy;simp [am.grows]) (fun b j hI=>⟨hI,rfl⟩) (fun b j hI=>.inl hI)
        (fun hb=>.inr ⟨_,ho,hb,rfl⟩) (fun j' hb hI=>wf.imm o (.arr j.size es fr0) j' ho hb hI) (dN wf ho)
        (fun le=>⟨by simpa using g1,by simpa using g2,g3,by simpa using g4,fun hcp=>by omega⟩)
       refine ⟨?_,hst⟩;refine .own _ _ _ _ _ _ _ _ _ (iz h _ o holen) ⟨by simp [htip],fun _=>⟨rfl,?_,fun hp=>by omega⟩⟩;rw [Ren.put_same];omega
     . rw [ha oq] at hr ⊢;obtain ⟨c,ty',q1,q2,q3⟩:=g5 oq
       have hrowlen:n * j.size+src.length * j.size<=(ρ.loc o).cap * j.size:=by
        rw [<- Nat.add_mul];exact Nat.mul_le_mul_right _ oq
       simp only [Nat.zero_mul,Nat.add_zero,gn,lZ] at hr;have hstc:=run_storeCells_at P (ρ.loc o).blk ((ρ.loc o).base+n * j.size) ty' news 0 c w q1 oq hone;simp only [Nat.add_zero] at hstc;rw [hstc] at hr;simp only [Result.andThen_ok] at hr;have hblk:(am.arr j.size es fr0).hasBlk (ρ.loc o)=true:=by simp [am.hasBlk];omega
       simp only [Nat.zero_mul,Nat.add_zero];refine ⟨ρ.put o (ρ.loc o) ρ.I,_,_,hr,?_⟩
       have hst:=ce (h':=h.set o (.arr j.size (es++src) fr0))
        (w':=w.setRow (ρ.loc o).blk (c.toList.take ((ρ.loc o).base+n * j.size)++news++c.toList.drop ((ρ.loc o).base+n * j.size+news.length)).toArray)
        wf fr o (.arr j.size (es++src) fr0) (ρ.loc o) ρ.I (by simp [holen]) (fun o' e=>aY _ _ _ _ e)
        rfl rfl rfl zq (fun b hb hne=>dW _ _ _ _ (Ne.symm (hne _ ho hblk)))
        (fun y hy=>by rw [ho] at hy;cases hy;simp [am.grows]) ?_ (fun b j hI=>.inl hI)
        (fun hb=>.inr ⟨_,ho,hblk,rfl⟩) (fun j' hb hI=>wf.imm o (.arr j.size es fr0) j' ho hblk hI) (dN wf ho) ?_
       . refine ⟨?_,hst⟩;refine .own _ _ _ _ _ _ _ _ _ (iz h _ o holen) ⟨by simp [htip],fun _=>⟨rfl,?_,fun hp=>?_⟩⟩
         . rw [Ren.put_same];omega
         . rw [Ren.put_same];simp
       . intro b j' hI;refine ⟨hI,?_⟩;by_cases hb:b=(ρ.loc o).blk
         . subst hb;have hnm:=wf.imm o _ j' ho hblk hI;simp only [am.muts] at hnm;have:fr0 * j.size<=n * j.size:=Nat.mul_le_mul_right _ oq;rw [cell_of_row _ _ _ _ _ _ (setRow_heap w _ c _ ty' _ q1),cell_of_row _ _ _ _ _ _ q1,eJ _ _ _ oq,if_neg oq]
         . exact bB (dW _ _ _ _ hb) j'
       . intro le;refine ⟨by simp;omega,by simp;omega,g3,hlget,fun _=>⟨_,ty',setRow_heap w _ c _ ty' _ q1,by simp;omega,?_⟩⟩;intro i' x' j' y' v hx' hy' hv';rw [eJ _ _ _ oq] at hv';have hjs:j'<j.size:=by rw [<- hlget i' x' hx'];exact (List.getElem?_eq_some_iff.1 hy').1
         by_cases hi':i'<es.length
         . rw [List.getElem?_append_left hi'] at hx';have:i' * j.size+j.size<=n * j.size:=by rw [<- Nat.succ_mul];exact Nat.mul_le_mul_right _ oq
           rw [if_neg oq] at hv';exact (q3 i' x' j' y' v hx' hy' hv').mono le
         . rw [List.getElem?_append_right oq] at hx';have hi2:i' - es.length<src.length:=(List.getElem?_eq_some_iff.1 hx').1;have e1:i' * j.size=n * j.size+(i' - es.length) * j.size:=by rw [<- Nat.add_mul];congr 1;omega
           have e2:(i' - es.length) * j.size+j.size<=src.length * j.size:=by rw [<- Nat.succ_mul];exact Nat.mul_le_mul_right _ hi2
           rw [if_pos oq] at hv';obtain ⟨u,r1,r2⟩:=hen _ x' j' y' hx' hy';have e3:(ρ.loc o).base+i' * j.size+j' - ((ρ.loc o).base+n * j.size)=(i' - es.length) * j.size+j':=by omega
           rw [e3,r1] at hv';cases hv'
           exact r2.mono le
   . obtain ⟨C,zs,hC,hzs,hr⟩:=hrun.1 oq;have hzs':zs.size=(C - (n+src.length)) * j.size:=by rw [hzs,hzl]
     refine ⟨ρ.put o ⟨w.heap.size,0,C⟩ ρ.I,_,_,hr,?_⟩
     have hst:=ce (h':=h.set o (.arr j.size (es++src) fr0)) (w':=w.drew.alloc (.cells (olds.toArray++news.toArray++zs) e)) wf fr o (.arr j.size (es++src) fr0) ⟨w.heap.size,0,C⟩ ρ.I (by simp [holen]) (fun o' e=>aY _ _ _ _ e)
      rfl rfl rfl zq (fun b hb _=>heap_alloc_old w.drew _ b hb)
      (fun y hy=>by rw [ho] at hy;cases hy;refine ⟨by simp,fun e=>?_⟩;simp only [List.length_append] at e;omega)
      (fun b j hI=>⟨hI,bB (heap_alloc_old w.drew _ b (wf.immlt b j hI)) j⟩) (fun b j hI=>.inl hI)
      (fun _=>.inl ⟨Nat.le_refl _,by simp⟩) (fun j _ hI=>absurd (wf.immlt _ j hI) zq) (dN wf ho)
      (fun le=>⟨by simp;omega,by simp;omega,g3,hlget,fun _=>⟨_,e,heap_alloc_new w.drew _,?_,?_⟩⟩)
     . refine ⟨?_,hst⟩;refine .own _ _ _ _ _ _ _ _ _ (iz h _ o holen) ⟨by simp [htip],fun _=>⟨rfl,?_,fun _=>?_⟩⟩
       . rw [Ren.put_same];simp
       . rw [Ren.put_same];simp
     . simp only [Array.size_append,List.size_toArray,hol,hnl,hzs',Nat.zero_add,<- Nat.add_mul];apply Nat.le_of_eq;congr 1;omega
     . exact uo (cs:=olds++news) (zs:=zs) ((oC heo hen hol).mono le) zq
 . simp at hq
theorem i9 (wf:WF ρ h w) (fr:Fr E ρ h w) {o sz fr0:Nat} {es:List aa} (ho:h[o]?=some (.arr sz es fr0)) :
 ∃ ρ',WF ρ' (h.set o (.arr sz es es.length)) w/\Le ρ h w ρ' (h.set o (.arr sz es es.length)) w/\Fr E ρ' (h.set o (.arr sz es es.length)) w /\
  ∀ off len v,off+len=es.length->VR ρ h w (.own o off len) v->VR ρ' (h.set o (.arr sz es es.length)) w (.imm (es.drop off)) v:=by
 obtain ⟨g1,g2,g3,g4,g5⟩:=wf.obj o _ ho;have holen:o<h.length:=(List.getElem?_eq_some_iff.1 ho).1
 let I':Nat->Nat->Prop:=fun b j=>ρ.I b j\/((am.arr sz es fr0).hasBlk (ρ.loc o)=true/\b=(ρ.loc o).blk/\(ρ.loc o).base<=j/\j<(ρ.loc o).base+es.length * sz)
 have hst:=ce (h':=h.set o (.arr sz es es.length)) (w':=w) wf fr o (.arr sz es es.length) (ρ.loc o) I' (by simp [holen]) (fun o' e=>aY _ _ _ _ e)
  rfl rfl rfl (Nat.le_refl _) (fun _ _ _=>rfl) (fun y hy=>by rw [ho] at hy;cases hy;simp [am.grows]) (fun b j hI=>⟨.inl hI,rfl⟩)
  (fun b j hI=>by
   rcases hI with hI|⟨hb,rfl,_⟩
   . exact .inl hI
   . exact .inr (.inr ⟨_,ho,hb,rfl⟩))
  (fun hb=>.inr ⟨_,ho,hb,rfl⟩)
  (fun j hb hI=>by
   rcases hI with hI|⟨_,_,q1,q2⟩
   . have:=wf.imm o _ j ho hb hI;simp only [am.muts] at this ⊢;have:fr0 * sz<=es.length * sz:=Nat.mul_le_mul_right _ g1;omega
   . simp only [am.muts];omega)
  (dN wf ho)
  (fun le=>⟨Nat.le_refl _,g2,g3,g4,fun hc=>by
   obtain ⟨c,t,q1,q2,q3⟩:=g5 hc;exact ⟨c,t,q1,q2,fun i x j y v a b d=>(q3 i x j y v a b d).mono le⟩⟩)
 refine ⟨_,hst.1,hst.2.1,hst.2.2,?_⟩;intro off len v htip hv;cases hv with
 | own _ _ _ a n cap sz' es' fr' ho' hv =>
 rw [ho] at ho';cases ho';obtain ⟨rfl,hcap,ha⟩:=hv.2 htip;have hlen:(es.drop off).length=n:=by simp;omega
 rw [<- hlen]
 have key:∀ (i:Nat) x (j:Nat) y,(es.drop off)[i]?=some x->x.cells[j]?=some y ->
  ∃ u,w.cell? ⟨(ρ.loc o).blk,(ρ.loc o).base+off * sz+i * sz+j,none⟩=some u/\VR ρ h w y u/\I' (ρ.loc o).blk ((ρ.loc o).base+off * sz+i * sz+j):=by
  intro i x j y hx hy;rw [List.getElem?_drop] at hx;have hi:off+i<es.length:=(List.getElem?_eq_some_iff.1 hx).1;have hj:j<sz:=by rw [<- g4 _ x hx];exact (List.getElem?_eq_some_iff.1 hy).1
  have hcp:0<(ρ.loc o).cap:=by omega
  obtain ⟨c,ty,q1,q2,q3⟩:=g5 hcp;have hrow:(off+i) * sz+sz<=es.length * sz:=by rw [<- Nat.succ_mul];exact Nat.mul_le_mul_right _ oq
  have hrow2:es.length * sz<=(ρ.loc o).cap * sz:=Nat.mul_le_mul_right _ g2;have e4:(ρ.loc o).base+off * sz+i * sz+j=(ρ.loc o).base+(off+i) * sz+j:=by rw [Nat.add_mul];omega
  have hb:(ρ.loc o).base+(off+i) * sz+j<c.size:=by omega
  rw [e4];refine ⟨c[(ρ.loc o).base+(off+i) * sz+j],by simp [World.cell?,q1,hb],q3 (off+i) x j y _ hx hy (by rw [Array.getElem?_eq_getElem hb]),.inr ⟨by simp [am.hasBlk,hcp],rfl,by omega,by omega⟩⟩
 refine .imm _ a cap sz (ρ.loc o).blk ((ρ.loc o).base+off * sz) (fun i j=>(w.cell? ⟨(ρ.loc o).blk,(ρ.loc o).base+off * sz+i * sz+j,none⟩).getD undef) oq (fun hp=>ha oq) ?_ ?_ ?_
 . intro i x hx;rw [List.getElem?_drop] at hx;exact g4 _ x hx
 . intro i x j y hx hy;obtain ⟨u,r1,r2,r3⟩:=key i x j y hx hy;exact ⟨r3,by simp [r1]⟩
 . intro i x j y hx hy;obtain ⟨u,r1,r2,r3⟩:=key i x j y hx hy;simp only [r1,Option.getD_some];exact r2.mono hst.2.1
end
end
section
section
variable {E:Ent} {ρ:Ren} {h:af} {w:World} {P:Program}
theorem m6 {α β:Type} (f:α->Sem β) (g:α->β):∀ (l:List α),(∀ x∈l,(f x).run P w=.ok (g x) w)->(l.mapM f).run P w=.ok (l.map g) w
 | [],_=>by simp
 | x::l,hx=>by
  rw [List.mapM_cons];simp [hx x zq,m6 f g l (fun y hy=>hx y (by simp [hy]))]
theorem tO {α β:Type} (f:α->Sem β) (g:α->β) (a:Array α) (hx:∀ x∈a.toList,(f x).run P w=.ok (g x) w):(a.mapM f).run P w=.ok (a.map g) w:=by
 rw [Array.mapM_eq_mapM_toList];have:=m6 (P:=P) (w:=w) f g a.toList hx;rw [Sem.run_map,this];simp only [Result.andThen_ok];congr 1;apply Array.ext';simp
def CR (ρ:Ren) (h:af) (w:World) (cs:List aa) (c:Array Value):Prop :=
 c.size=cs.length/\∀ (i:Nat) x v,cs[i]?=some x->c[i]?=some v->VR ρ h w x v
theorem vG (off:Nat):∀ (l:List Value) (k:Nat) (c:Array Value),off+k+l.length<=c.size ->
 ((l.zipIdx k).foldl (fun (cs:Array Value) (p:Value×Nat)=>cs.setIfInBounds (off+p.2) p.1) c).size=c.size /\
 ∀ i:Nat,((l.zipIdx k).foldl (fun (cs:Array Value) (p:Value×Nat)=>cs.setIfInBounds (off+p.2) p.1) c)[i]?=if off+k<=i/\i<off+k+l.length then l[i - (off+k)]? else c[i]?
 | [],k,c,_=>by simp;omega
 | v::l,k,c,hl=>by
  simp only [List.zipIdx_cons,List.foldl_cons];simp only [List.length_cons] at hl;obtain ⟨h1,h2⟩:=vG off l (k+1) (c.setIfInBounds (off+k) v) (by simp;omega)
  grind
theorem vl (v:Value) (off:Nat) (c:Array Value) (hl:off+v.cells.size<=c.size) :
 (v.cells.zipIdx.foldl (fun (cs:Array Value) (p:Value×Nat)=>cs.setIfInBounds (off+p.2) p.1) c).size=c.size /\
 ∀ i:Nat,(v.cells.zipIdx.foldl (fun (cs:Array Value) (p:Value×Nat)=>cs.setIfInBounds (off+p.2) p.1) c)[i]?=if off<=i/\i<off+v.cells.size then v.cells[i - off]? else c[i]?:=by
 have:=vG off v.cells.toList 0 c (by simpa using hl);rw [<- Array.foldl_toList,Array.toList_zipIdx];simpa using this
def aa.isAny:aa->Bool
 | .any=>true
 | _=>false
theorem r5 {x:aa} (hx:x.isAny=false):x≠.any:=by rintro rfl;simp [aa.isAny] at hx
def vY (place:Nat->Option (Nat×Nat)) (cs:List aa):List (Nat×aa)->Option (List aa)
 | []=>some cs
 | (i,x)::rest =>
  match place i with
  | some (off,size)=>if x.cells.length=size/\off+size<=cs.length/\x.isAny=false then vY place (e6 cs off x.cells) rest else none
  | none=>none
theorem me (place:Nat->Option (Nat×Nat)):∀ (parts:List (Nat×aa)) (vparts:List (Nat×Value)) (cs cs':List aa) (c:Array Value),
 vY place cs parts=some cs'->CR ρ h w cs c->parts.map (·.1)=vparts.map (·.1) ->
 (∀ (i:Nat) p q,parts[i]?=some p->vparts[i]?=some q->VR ρ h w p.2 q.2) ->
 ∃ c',Instr.fill place c vparts=some c'/\CR ρ h w cs' c'
 | [],[],cs,cs',c,hf,hc,_,_=>by simp [vY] at hf;subst hf;exact ⟨c,rfl,hc⟩
 | [],q::vparts,cs,cs',c,hf,hc,hm,_=>by simp at hm
 | p::parts,[],cs,cs',c,hf,hc,hm,_=>by simp at hm
 | (i,x)::parts,(i',v)::vparts,cs,cs',c,hf,hc,hm,hv=>by
  simp at hm;obtain ⟨rfl,hm⟩:=hm;simp only [vY] at hf;split at hf <;> try (simp at hf;done)
  rename_i off size hp;split at hf <;> try (simp at hf;done)
  rename_i hcnd;obtain ⟨hxl,hle,hna⟩:=hcnd;have hxv:VR ρ h w x v:=hv 0 _ _ rfl rfl;obtain ⟨g1,g2⟩:=hxv.cells (r5 hna);obtain ⟨c1,c2⟩:=hc;obtain ⟨p1,p2⟩:=vl v off c oq
  have hcr:CR ρ h w (e6 cs off x.cells) (v.cells.zipIdx.foldl (fun (cs:Array Value) (p:Value×Nat)=>cs.setIfInBounds (off+p.2) p.1) c):=by
   refine ⟨by rw [p1,jR _ _ _ oq,c1],fun k y u hy hu=>?_⟩;rw [kQ _ _ _ oq] at hy
   grind
  obtain ⟨c',q1,q2⟩:=me place parts vparts _ cs' _ hf hcr hm (fun k p q a b=>hv (k+1) p q (by simpa using a) (by simpa using b));refine ⟨c',?_,q2⟩;simp only [Instr.fill,hp]
  grind
def yM (P:Program) (fs:List (Nat×Nat)) (i:Nat):Option (Nat×Nat) :=
 match fs[i]? with
 | some (off,ft)=>(aP P ft).map fun j=>(off,j.size)
 | none=>none
def B3 (P:Program) (t:TypeId) (parts:List (Nat×aa)):Option aa :=
 match aP P t with
 | some i=>match i.k with
  | .struct fs=>if (fs.all fun f=>(aP P f.2).isSome)=true then (vY (yM P fs) i.zero.cells parts).map .agg else none
  | .array _ e=>match aP P e with
   | some j=>(vY (fun i=>some (i * j.size,j.size)) i.zero.cells parts).map .agg
   | none=>none
  | _=>none
 | none=>none
theorem ff {t:TypeId} {i:TyI} (ht:aP P t=some i):∃ z,(zeroValue t).run P w=.ok z w/\CR ρ h w i.zero.cells z.cells:=by
 obtain ⟨z,h1,h2⟩:=ne ht w;have hv:VR ρ h w i.zero z:=kH h2 _ _ _
 have hna:i.zero≠.any:=by
  intro e0;rw [e0] at h2;unfold fU at h2;split at h2
  . simp at h2
  . unfold pk at h2;split at h2 <;> simp at h2
 exact ⟨z,h1,hv.cells hna⟩
theorem yL {t:TypeId} {parts:List (Nat×aa)} {q:aa} {vparts:Array (Nat×Value)} (hq:B3 P t parts=some q) (hm:parts.map (·.1)=vparts.toList.map (·.1))
 (hv:∀ (i:Nat) p q,parts[i]?=some p->vparts.toList[i]?=some q->VR ρ h w p.2 q.2):∃ u,(Instr.build t vparts).run P w=.ok u w/\VR ρ h w q u:=by
 unfold B3 at hq;split at hq <;> try (simp at hq;done)
 rename_i i ht;split at hq <;> try (simp at hq;done)
 . rename_i fs hk;split at hq <;> simp at hq;rename_i hall;obtain ⟨cs',hf,rfl⟩:=hq;obtain ⟨d,h1,h2⟩:=run_underlying ht w;obtain ⟨l,rfl,rfl⟩:=nj (h2.trans hk);obtain ⟨z,hz,hcz⟩:=ff (ρ:=ρ) (h:=h) (w:=w) ht
   have hpl:=tO (P:=P) (w:=w) (fun (f:Field)=>(do pure (f.offset,<- sizeOf f.type):Sem (Nat×Nat))) (fun f=>(f.offset,((aP P f.type).map (·.size)).getD 0)) l (by
    intro f hfm;rw [List.all_eq_true] at hall;have:=hall (f.offset,f.type) (List.mem_map.2 ⟨f,hfm,rfl⟩);obtain ⟨j,hj⟩:=Option.isSome_iff_exists.1 this;simp [b7 hj w,hj])
   have hplace:∀ k,(l.map (fun (f:Field)=>(f.offset,((aP P f.type).map (·.size)).getD 0)))[k]?=yM P (l.toList.map fun f=>(f.offset,f.type)) k:=by
    intro k;unfold yM;simp only [Array.getElem?_map,List.getElem?_map,Array.getElem?_toList];cases hl:l[k]? with
    | none=>rfl
    | some f =>
     rw [List.all_eq_true] at hall;have:=hall (f.offset,f.type) (List.mem_map.2 ⟨f,by simpa using Array.mem_of_getElem? hl,rfl⟩);obtain ⟨j,hj⟩:=Option.isSome_iff_exists.1 this;simp at hj;simp [hj]
   obtain ⟨c',g1,g2⟩:=me (ρ:=ρ) (h:=h) (w:=w) _ parts vparts.toList _ cs' z.cells hf hcz hm hv;have hfun:(fun k=>(l.map (fun (f:Field)=>(f.offset,((aP P f.type).map (·.size)).getD 0)))[k]?)=yM P (l.toList.map fun f=>(f.offset,f.type)):=funext hplace;refine ⟨.agg c',?_,.agg _ _ g2.1 g2.2⟩;simp only [Instr.build,Sem.run_bind,hz,Result.andThen_ok,h1,hpl,hfun,g1,Sem.run_pure]
 . rename_i n e hk;split at hq <;> simp at hq;rename_i j hj;obtain ⟨cs',hf,rfl⟩:=hq;obtain ⟨d,h1,h2⟩:=run_underlying ht w;have:=mN (h2.trans hk);subst this;obtain ⟨z,hz,hcz⟩:=ff (ρ:=ρ) (h:=h) (w:=w) ht;obtain ⟨c',g1,g2⟩:=me (ρ:=ρ) (h:=h) (w:=w) _ parts vparts.toList _ cs' z.cells hf hcz hm hv;refine ⟨.agg c',?_,.agg _ _ g2.1 g2.2⟩;simp only [Instr.build,Sem.run_bind,hz,Result.andThen_ok,h1,b7 hj w,g1,Sem.run_pure]
def tE (sz:Nat) (l:List aa):List (Nat×aa)->Option (List aa)
 | []=>some l
 | (i,x)::rest=>if x.cells.length=sz/\i<l.length/\x.isAny=false then tE sz (l.set i x) rest else none
def SR (ρ:Ren) (h:af) (w:World) (sz:Nat) (l:List aa) (c:Array Value):Prop :=
 c.size=l.length * sz/\(∀ (i:Nat) x,l[i]?=some x->x.cells.length=sz) /\
 ∀ (i:Nat) x (j:Nat) y v,l[i]?=some x->x.cells[j]?=some y->c[i * sz+j]?=some v->VR ρ h w y v
theorem kF (sz:Nat):∀ (parts:List (Nat×aa)) (vparts:List (Nat×Value)) (l l':List aa) (c:Array Value),
 tE sz l parts=some l'->SR ρ h w sz l c->parts.map (·.1)=vparts.map (·.1) ->
 (∀ (i:Nat) p q,parts[i]?=some p->vparts[i]?=some q->VR ρ h w p.2 q.2) ->
 ∃ c',Instr.fill (fun i=>some (i * sz,sz)) c vparts=some c'/\SR ρ h w sz l' c'/\l'.length=l.length
 | [],[],l,l',c,hf,hc,_,_=>by simp [tE] at hf;subst hf;exact ⟨c,rfl,hc,rfl⟩
 | [],q::vparts,l,l',c,hf,hc,hm,_=>by simp at hm
 | p::parts,[],l,l',c,hf,hc,hm,_=>by simp at hm
 | (i,x)::parts,(i',v)::vparts,l,l',c,hf,hc,hm,hv=>by
  simp at hm;obtain ⟨rfl,hm⟩:=hm;simp only [tE] at hf;split at hf <;> try (simp at hf;done)
  rename_i hcnd;obtain ⟨hxl,hi,hna⟩:=hcnd;have hxv:VR ρ h w x v:=hv 0 _ _ rfl rfl;obtain ⟨g1,g2⟩:=hxv.cells (r5 hna);obtain ⟨c1,c2,c3⟩:=hc;have hrow:i * sz+sz<=l.length * sz:=by rw [<- Nat.succ_mul];exact Nat.mul_le_mul_right _ hi
  obtain ⟨p1,p2⟩:=vl v (i * sz) c oq
  have hsr:SR ρ h w sz (l.set i x) (v.cells.zipIdx.foldl (fun (cs:Array Value) (p:Value×Nat)=>cs.setIfInBounds (i * sz+p.2) p.1) c):=by
   refine ⟨by rw [p1,c1];simp,?_,?_⟩
   . grind
   . intro k y j z u hy hz hu;rw [p2,g1,hxl] at hu;by_cases e:k=i
     . grind
     . rw [aY _ _ _ _ e] at hy;have hj:j<sz:=by rw [<- c2 k y hy];exact (List.getElem?_eq_some_iff.1 hz).1
       rw [if_neg ?_] at hu
       . grind
       . rintro ⟨q1,q2⟩;have:k * sz+j=i * sz+(k * sz+j - i * sz):=by omega
         exact e (Du hj oq this).1
  obtain ⟨c',q1,q2,q3⟩:=kF sz parts vparts _ l' _ hf hsr hm (fun k p q a b=>hv (k+1) p q (by simpa using a) (by simpa using b));refine ⟨c',?_,q2,by rw [q3];simp⟩;simp only [Instr.fill];have e1:¬ (v.cells.size≠sz):=by omega
  have e2:¬ (i * sz+v.cells.size > c.size):=by omega
  simp only [e1,e2,decide_false,Bool.or_self,Bool.false_eq_true,if_false];exact q1
def gQ (P:Program) (t:TypeId) (len:Nat) (parts:List (Nat×aa)):Option aa :=
 match aP P t with
 | some i=>match i.k with
  | .slice e=>match aP P e with
   | some j=>if 0<j.size/\j.zero.cells.length=j.size/\len * j.size<=16777216 then (tE j.size (List.replicate len j.zero) parts).map .full else none
   | none=>none
  | _=>none
 | none=>none
theorem oR {t:TypeId} {len:Nat} {parts:List (Nat×aa)} {q:aa} {vparts:Array (Nat×Value)} (hq:gQ P t len parts=some q) (wf:WF ρ h w) (fr:Fr E ρ h w)
 (hm:parts.map (·.1)=vparts.toList.map (·.1)) (hv:∀ (i:Nat) p q,parts[i]?=some p->vparts.toList[i]?=some q->VR ρ h w p.2 q.2) :
 ∃ ρ' w' u,(Instr.buildSlice t len vparts).run P w=.ok u w'/\VR ρ' h w' q u/\WF ρ' h w'/\Le ρ h w ρ' h w'/\Fr E ρ' h w':=by
 unfold gQ at hq;split at hq <;> try (simp at hq;done)
 rename_i i ht;split at hq <;> try (simp at hq;done)
 rename_i e hk;split at hq <;> try (simp at hq;done)
 rename_i j hj;split at hq <;> simp at hq;rename_i hcnd;obtain ⟨hszp,hzl,hle⟩:=hcnd;obtain ⟨l',hf,rfl⟩:=hq;obtain ⟨d,h1,h2⟩:=run_underlying ht w;have:=cH (h2.trans hk);subst this;have hsz:=b7 hj w;obtain ⟨z,hz,hcz1,hcz2⟩:=ff (ρ:=ρ) (h:=h) (w:=w) hj
 let c0:Array Value:=(Array.range (len * j.size)).map fun k=>(if len * j.size=0 then #[] else z.cells)[k % (if len * j.size=0 then #[] else z.cells).size]!
 have hzs:z.cells.size=j.size:=by omega
 have hsr0:SR ρ h w j.size (List.replicate len j.zero) c0:=by
  refine ⟨by simp [c0],?_,?_⟩
  . grind
  . intro k x j' y v hx hy hu
    have hkl:k<len:=by
     grind
    have hxe:=List.mem_of_getElem? hx;simp at hxe;obtain ⟨_,rfl⟩:=hxe;have hj':j'<j.size:=by rw [<- hzl];exact (List.getElem?_eq_some_iff.1 hy).1
    have hrow:k * j.size+j.size<=len * j.size:=by rw [<- Nat.succ_mul];exact Nat.mul_le_mul_right _ hkl
    have hne:len * j.size≠0:=by omega
    have hlt:k * j.size+j'<len * j.size:=by omega
    have hmod:(k * j.size+j') % j.size=j':=by rw [Nat.mul_comm,Nat.mul_add_mod,Nat.mod_eq_of_lt hj']
    grind
 obtain ⟨c',g1,g2,g3⟩:=kF (ρ:=ρ) (h:=h) (w:=w) j.size parts vparts.toList _ l' c0 hf hsr0 hm hv;simp only [List.length_replicate] at g3;obtain ⟨s1,s2,s3⟩:=g2
 have hrun:(Instr.buildSlice t len vparts).run P w=.ok (.slice (some ⟨w.heap.size,0,none⟩) len len) (w.alloc (.cells c' e)):=by
  have hlim:¬ (len * j.size > 2 ^ 24):=by omega
  simp only [Instr.buildSlice,Sem.run_bind,h1,Result.andThen_ok,hsz,hlim,if_false,Sem.run_pure,Sem.run_ite];have:Instr.fill (fun i=>some (i * j.size,j.size)) ((Array.range (len * j.size)).map fun k=>(if len * j.size=0 then #[] else z.cells)[k % (if len * j.size=0 then #[] else z.cells).size]!) vparts.toList=some c':=g1;by_cases h0:len * j.size=0
  . simp only [h0,if_true] at this ⊢;rw [this];simp [newRow]
  . simp only [h0,if_false,hz,Result.andThen_ok] at this ⊢;simp [this,newRow]
 have hst:=l6 (w':=w.alloc (.cells c' e)) wf fr (fun b k=>ρ.I b k\/b=w.heap.size) rfl rfl rfl zq (fun b hb=>heap_alloc_old w _ b hb) (fun b k hI=>.inl hI)
  (fun b k hI=>by rcases hI with hI|rfl;exact .inl hI;exact .inr ⟨Nat.le_refl _,by simp⟩)
 refine ⟨_,_,_,hrun,?_,hst⟩
 have hfull:VR ⟨ρ.loc,fun b k=>ρ.I b k\/b=w.heap.size⟩ h (w.alloc (.cells c' e)) (.full l') (.slice (some ⟨w.heap.size,0,none⟩) l'.length l'.length):=by
  refine .full l' _ j.size w.heap.size 0 (fun a b=>(c'[a * j.size+b]?).getD undef) (fun _=>rfl) s2 ?_ ?_
  . intro k x b y hx hy;have hk':k<l'.length:=(List.getElem?_eq_some_iff.1 hx).1;have hb:b<j.size:=by rw [<- s2 k x hx];exact (List.getElem?_eq_some_iff.1 hy).1
    have hrow:k * j.size+j.size<=l'.length * j.size:=by rw [<- Nat.succ_mul];exact Nat.mul_le_mul_right _ hk'
    have hlt:k * j.size+b<c'.size:=by omega
    refine ⟨.inr rfl,?_⟩;rw [Nat.zero_add];simp [hlt]
  . intro k x b y hx hy;have hk':k<l'.length:=(List.getElem?_eq_some_iff.1 hx).1;have hb:b<j.size:=by rw [<- s2 k x hx];exact (List.getElem?_eq_some_iff.1 hy).1
    have hrow:k * j.size+j.size<=l'.length * j.size:=by rw [<- Nat.succ_mul];exact Nat.mul_le_mul_right _ hk'
    have hlt:k * j.size+b<c'.size:=by omega
    have:=s3 k x b y _ hx hy (Array.getElem?_eq_getElem hlt);simp only [Array.getElem?_eq_getElem hlt,Option.getD_some];exact this.mono hst.2.1
 rwa [g3] at hfull
def JR (x y:aa):Option aa :=
 match x,y with
 | .int k a,.int _ b=>some (.int k (if b<a then b else a))
 | _,_=>none
def J0 (x y:aa):Option aa :=
 match x,y with
 | .int k a,.int _ b=>some (.int k (if b > a then b else a))
 | _,_=>none
theorem zo {x y q:aa} {vx vy:Value} (hq:JR x y=some q) (hx:VR ρ h w x vx) (hy:VR ρ h w y vy) (ats:Array TypeId) (ty:TypeId) :
 ∃ u,(Builtin.min_ ats ty #[vx,vy]).run P w=.ok u w/\VR ρ h w q u:=by
 unfold JR at hq;split at hq <;> simp at hq;subst hq;cases hx;cases hy
 exact ⟨_,by simp [Builtin.min_,Builtin.min2],.int _ _⟩
theorem AZ {x y q:aa} {vx vy:Value} (hq:J0 x y=some q) (hx:VR ρ h w x vx) (hy:VR ρ h w y vy) (ats:Array TypeId) (ty:TypeId) :
 ∃ u,(Builtin.max_ ats ty #[vx,vy]).run P w=.ok u w/\VR ρ h w q u:=by
 unfold J0 at hq;split at hq <;> simp at hq;subst hq;cases hx;cases hy
 exact ⟨_,by simp [Builtin.max_,Builtin.max2],.int _ _⟩
end
end
section
section
variable {E:Ent} {ρ:Ren} {h:af} {w:World} {P:Program}
theorem CT (a b:List UInt8):((⟨a.toArray⟩:ByteArray)==⟨b.toArray⟩)=(a==b):=by
 show ((⟨a.toArray⟩:ByteArray).data==(⟨b.toArray⟩:ByteArray).data)=_;simp
def fG:aa->aa->Option Bool
 | .int k a,.int k' b=>if k=k' then some (a==b) else none
 | .str a,.str b=>some (a==b)
 | .bool a,.bool b=>some (a==b)
 | _,_=>none
def TyK.keyOk:TyK->aa->Bool
 | .int _,.int _ _=>true
 | .str,.str _=>true
 | .bool,.bool _=>true
 | _,_=>false
def jG (k:aa):List (aa×aa)->Nat->Option (Option (Nat×aa))
 | [],_=>some none
 | e::es,i=>match fG k e.1 with
  | some true=>some (some (i,e.2))
  | some false=>jG k es (i+1)
  | none=>none
theorem BI {d:TypeDesc} {i:TyK} {k k':aa} {v v':Value} {b:Bool} (hd:kOf d=i) (hk:i.keyOk k=true) (he:fG k k'=some b) (hv:VR ρ h w k v) (hv':VR ρ h w k' v') :
 Instr.sameNow d v v'=some b:=by
 unfold fG at he;split at he <;> try (simp at he;done)
 . split at he <;> simp at he;rename_i e;subst e;obtain ⟨kk,hkk⟩:∃ kk,i=.int kk:=by revert hk;cases i <;> simp [TyK.keyOk]
   have:=r9 (hd.trans hkk);subst this;cases hv;cases hv'
   simp [Instr.sameNow,he]
 . simp at he;have hkk:i=.str:=by revert hk;cases i <;> simp [TyK.keyOk]
   have:=kJ (hd.trans hkk);subst this;cases hv;cases hv'
   rename_i a b';simp only [Instr.sameNow,CT];rw [<- he]
 . simp at he;have hkk:i=.bool:=by revert hk;cases i <;> simp [TyK.keyOk]
   have:=nX (hd.trans hkk);subst this;cases hv;cases hv'
   simp [Instr.sameNow,he]
theorem nL {d:TypeDesc} {i:TyK} {k:aa} {v:Value} (hd:kOf d=i) (hk:i.keyOk k=true) (hv:VR ρ h w k v) :
 ∀ (es:List (aa×aa)) (ms:List MapEntry) (n:Nat) (r:Option (Nat×aa)),jG k es n=some r->ms.length=es.length ->
  (∀ (i:Nat) kv e,es[i]?=some kv->ms[i]?=some e->VR ρ h w kv.1 e.key/\VR ρ h w kv.2 e.val) ->
  ∃ r',Instr.findNow d v ms n=some r'/\(match r,r' with
   | none,none=>True
   | some (a,x),some (b,u)=>a=b/\VR ρ h w x u/\n<=a/\∃ kv,es[a - n]?=some kv/\kv.2=x/\fG k kv.1=some true
   | _,_=>False)
 | [],[],n,r,hf,_,_=>by simp [jG] at hf;subst hf;exact ⟨none,rfl,trivial⟩
 | [],m::ms,n,r,hf,hl,_=>by simp at hl
 | e::es,[],n,r,hf,hl,_=>by simp at hl
 | e::es,m::ms,n,r,hf,hl,hv'=>by
  simp only [jG] at hf;have h0:=hv' 0 e m rfl rfl;cases hke:fG k e.1 with
  | none=>rw [hke] at hf;simp at hf
  | some b =>
   rw [hke] at hf;have hs:=BI (ρ:=ρ) (h:=h) (w:=w) hd hk hke hv h0.1;cases b with
   | true =>
    simp at hf;subst hf;exact ⟨some (n,m.val),by simp [Instr.findNow,hs],rfl,h0.2,Nat.le_refl _,e,by simp,rfl,hke⟩
   | false =>
    simp at hf;obtain ⟨r',g1,g2⟩:=nL hd hk hv es ms (n+1) r hf (by simpa using hl) (fun i kv e a b=>hv' (i+1) kv e (by simpa using a) (by simpa using b));refine ⟨r',by simp [Instr.findNow,hs,g1],?_⟩
    grind
theorem oE {t:TypeId} {i:TyI} (ht:aP P t=some i) {k:aa} {v:Value} (hk:i.k.keyOk k=true) (hv:VR ρ h w k v) (e:Bool):(Instr.checkKey e 10000 t v).run P w=.ok () w:=by
 obtain ⟨d,h1,h2⟩:=run_underlying ht w;have:Instr.checkKey e 10000 t v=Instr.checkKey e (9999+1) t v:=rfl;rw [this];generalize 9999=n;simp only [Instr.checkKey,Sem.run_bind,h1,Result.andThen_ok];cases k <;> simp [TyK.keyOk] at hk
 . have hkk:i.k=.bool:=by revert hk;cases i.k <;> simp
   have:=nX (h2.trans hkk);subst this;cases hv;rfl
 . obtain ⟨kk,hkk⟩:∃ kk,i.k=.int kk:=by revert hk;cases i.k <;> simp
   have:=r9 (h2.trans hkk);subst this;cases hv;rfl
 . have hkk:i.k=.str:=by revert hk;cases i.k <;> simp
   have:=kJ (h2.trans hkk);subst this;cases hv;rfl
def ir (P:Program) (h:af) (t:TypeId) (m k:aa) (ok:Bool):Option aa :=
 match aP P t with
 | some i => match i.k with
  | .map kt et=>match aP P kt,aP P et with
   | some ki,some ei =>
    if ki.k.keyOk k=true then
     match (match m with
      | .nilm=>some []
      | .map o=>match h[o]? with
       | some (.map es)=>some es
       | _=>none
      | _=>none) with
     | some es=>match jG k es 0 with
      | some (some (_,v))=>some (if ok then .tup [v,.bool true] else v)
      | some none=>some (if ok then .tup [ei.zero,.bool false] else ei.zero)
      | none=>none
     | none=>none
    else none
   | _,_=>none
  | _=>none
 | none=>none
theorem VR.tup2 {x y:aa} {u v:Value} (hx:VR ρ h w x u) (hy:VR ρ h w y v):VR ρ h w (.tup [x,y]) (.tuple #[u,v]):=by
 refine .tup _ _ rfl ?_
 grind
theorem vf {t:TypeId} {m k q:aa} {ok:Bool} {vm vk:Value} (hq:ir P h t m k ok=some q) (wf:WF ρ h w) (hm:VR ρ h w m vm) (hk:VR ρ h w k vk) :
 ∃ u,(Instr.lookup t vm vk ok).run P w=.ok u w/\VR ρ h w q u:=by
 unfold ir at hq;split at hq <;> try (simp at hq;done)
 rename_i i ht;split at hq <;> try (simp at hq;done)
 rename_i kt et hkk;split at hq <;> try (simp at hq;done)
 rename_i ki ei hki hei;split at hq <;> try (simp at hq;done)
 rename_i hok;split at hq <;> try (simp at hq;done)
 rename_i es hes;obtain ⟨d,h1,h2⟩:=run_underlying ht w;have:=oL (h2.trans hkk);subst this;obtain ⟨dk,h3,h4⟩:=run_underlying hki w;obtain ⟨z,hz,hcz⟩:=ne hei w;have hzv:VR ρ h w ei.zero z:=kH hcz _ _ _;have hck:∀ b,(Instr.checkKey b 10000 kt vk).run P w=.ok () w:=oE hki hok hk
 obtain ⟨ms,hms,hrel⟩:∃ ms:Array MapEntry,((vm=.map none/\ms=#[])\/∃ b clock,vm=.map (some b)/\(getObj b).run P w=.ok (.map ms clock) w)/\ms.toList.length=es.length /\
  (∀ (i:Nat) kv e,es[i]?=some kv->ms.toList[i]?=some e->VR ρ h w kv.1 e.key/\VR ρ h w kv.2 e.val):=by
  split at hes <;> try (simp at hes;done)
  . simp at hes;subst hes;cases hm
    exact ⟨#[],.inl ⟨rfl,rfl⟩,rfl,by simp⟩
  . split at hes <;> simp at hes;rename_i o _ es' ho;subst hes;cases hm
    obtain ⟨ms,clock,g1,g2,g3,g4⟩:=wf.obj o _ ho;refine ⟨ms,.inr ⟨_,clock,rfl,?_⟩,by simpa using g2,fun i kv e a b=>?_⟩
    . simp [getObj,Sem.run,g1]
    . grind
 have hlk:∀ r,jG k es 0=some r->∃ r',(Instr.findKey kt vk ms.toList).run P w=.ok r' w/\(match r,r' with
  | none,none=>True
  | some (_,x),some (_,u)=>VR ρ h w x u
  | _,_=>False):=by
  intro r hr;obtain ⟨r',g1,g2⟩:=nL (ρ:=ρ) (h:=h) (w:=w) h4 hok hk es ms.toList 0 r hr hrel.1 hrel.2;refine ⟨r',by simp [Instr.findKey,h3,g1],?_⟩
  grind
 have hrun:∀ r',(Instr.findKey kt vk ms.toList).run P w=.ok r' w->(Instr.lookup t vm vk ok).run P w =
  .ok (match r' with|some (_,v)=>(if ok then .tuple #[v,.bool true] else v)|none=>(if ok then .tuple #[z,.bool false] else z)) w:=by
  intro r' hr';rcases hms with ⟨rfl,rfl⟩|⟨b,clock,rfl,hg⟩
  . simp only [Instr.lookup,Sem.run_bind,h1,Result.andThen_ok,Sem.run_pure,hck,hr'];cases r' with
    | none=>simp [hz]
    | some p=>simp
  . simp only [Instr.lookup,Sem.run_bind,h1,Result.andThen_ok,Sem.run_pure,hg,hck,hr'];cases r' with
    | none=>simp [hz]
    | some p=>simp
 split at hq
 . rename_i n v hf;simp at hq;subst hq;obtain ⟨r',g1,g2⟩:=hlk _ hf;cases r' <;> simp at g2
   rename_i p;refine ⟨_,hrun _ g1,?_⟩;cases ok
   . exact g2
   . exact .tup2 g2 (.bool true)
 . rename_i hf;simp at hq;subst hq;obtain ⟨r',g1,g2⟩:=hlk _ hf;cases r' <;> simp at g2
   refine ⟨_,hrun _ g1,?_⟩;cases ok
   . exact hzv
   . exact .tup2 hzv (.bool false)
 . simp at hq
def Bv (h:af) (o:Nat):Bool:=h.all fun x=>match x with
 | .iter m _=>m != o
 | _=>true
theorem G0 {o:Nat} (hn:Bv h o=true):∀ (o' m:Nat) left,o'≠o->h[o']?=some (.iter m left)->m≠o:=by
 intro o' m left _ ho;have:=List.all_eq_true.1 hn _ (List.mem_of_getElem? ho);simpa using this
def cW (P:Program) (h:af) (t:TypeId) (m k v:aa):Option af :=
 match aP P t with
 | some i => match i.k with
  | .map kt _=>match aP P kt with
   | some ki =>
    match m with
    | .map o=>match h[o]? with
     | some (.map es)=>if ki.k.keyOk k=true/\Bv h o=true then
      match jG k es 0 with
      | some (some (n,_))=>some (h.set o (.map (es.set n (k,v))))
      | some none=>some (h.set o (.map (es++[(k,v)])))
      | none=>none
      else none
     | _=>none
    | _=>none
   | none=>none
  | _=>none
 | none=>none
theorem CO {k k':aa} {v v':Value} (he:fG k k'=some true) (hv:VR ρ h w k v) (hv':VR ρ h w k' v') (n:Nat):Instr.sameBits n v' v=true:=by
 unfold fG at he;split at he <;> try (simp at he;done)
 . split at he <;> simp at he;rename_i e;subst e;subst he;cases hv;cases hv';simp [Instr.sameBits]
 . simp at he;subst he;cases hv;cases hv';simp [Instr.sameBits,CT]
 . simp at he;subst he;cases hv;cases hv';simp [Instr.sameBits]
theorem q8 (w:World) (b b':Nat) (o:Obj):({ w with heap:=w.heap.setIfInBounds b o }:World).heap[b']?=if b'=b/\b<w.heap.size then some o else w.heap[b']?:=by
 grind
theorem jZ {t:TypeId} {m k v:aa} {h':af} {vm vk vv:Value} (hq:cW P h t m k v=some h') (wf:WF ρ h w) (fr:Fr E ρ h w) (hm:VR ρ h w m vm) (hk:VR ρ h w k vk) (hv:VR ρ h w v vv) :
 ∃ ρ' w',(Instr.mapUpdate t vm vk vv).run P w=.ok () w'/\WF ρ' h' w'/\Le ρ h w ρ' h' w'/\Fr E ρ' h' w':=by
 unfold cW at hq;split at hq <;> try (simp at hq;done)
 rename_i i ht;split at hq <;> try (simp at hq;done)
 rename_i kt et hkk;split at hq <;> try (simp at hq;done)
 rename_i ki hki;split at hq <;> try (simp at hq;done)
 rename_i o;split at hq <;> try (simp at hq;done)
 rename_i es ho;split at hq <;> try (simp at hq;done)
 rename_i hcnd;obtain ⟨hok,hni⟩:=hcnd;obtain ⟨d,h1,h2⟩:=run_underlying ht w;have:=oL (h2.trans hkk);subst this;obtain ⟨dk,h3,h4⟩:=run_underlying hki w;have hck:(Instr.checkKey false 10000 kt vk).run P w=.ok () w:=oE hki hok hk false;cases hm
 obtain ⟨ms,clock,g1,g2,g3,g4⟩:=wf.obj o _ ho;have hblt:(ρ.loc o).blk<w.heap.size:=wf.lt o _ ho rfl;have holen:o<h.length:=(List.getElem?_eq_some_iff.1 ho).1;have hgo:(getObj (ρ.loc o).blk).run P w=.ok (.map ms clock) w:=by simp [getObj,Sem.run,g1]
 have hset:∀ x,(setObj (ρ.loc o).blk x).run P w=.ok () { w with heap:=w.heap.setIfInBounds (ρ.loc o).blk x }:=by intro x;simp [setObj,Sem.run,g1]
 have step:∀ (es':List (aa×aa)) (ms':Array MapEntry) (clock':Nat),ms'.size=es'.length ->
  (∀ (i:Nat) kv e,es'[i]?=some kv->ms'[i]?=some e->VR ρ h w kv.1 e.key/\VR ρ h w kv.2 e.val/\e.born<clock') ->
  (∀ (i j:Nat) e e',ms'[i]?=some e->ms'[j]?=some e'->e.born=e'.born->i=j) ->
  ∃ ρ',WF ρ' (h.set o (.map es')) { w with heap:=w.heap.setIfInBounds (ρ.loc o).blk (.map ms' clock') } /\
   Le ρ h w ρ' (h.set o (.map es')) { w with heap:=w.heap.setIfInBounds (ρ.loc o).blk (.map ms' clock') } /\
   Fr E ρ' (h.set o (.map es')) { w with heap:=w.heap.setIfInBounds (ρ.loc o).blk (.map ms' clock') }:=by
  intro es' ms' clock' q1 q2 q3;refine ⟨ρ.put o (ρ.loc o) ρ.I,?_⟩;refine ce (h':=h.set o (.map es')) wf fr o (.map es') (ρ.loc o) ρ.I (iz h _ o holen) (fun o' e=>aY _ _ _ _ e) rfl rfl rfl zq ?_ ?_ ?_ (fun b j hI=>.inl hI) (fun _=>.inr ⟨_,ho,rfl,rfl⟩) ?_ (G0 hni) ?_
  . intro b hb hne;rw [q8,if_neg];rintro ⟨rfl,_⟩;exact hne _ ho rfl rfl
  . intro y hy;rw [ho] at hy;cases hy;rfl
  . intro b j hI;refine ⟨hI,?_⟩
    have hb:b≠(ρ.loc o).blk:=by
     rintro rfl;exact wf.imm o _ j ho rfl hI trivial
    apply bB
    grind
  . intro j _ hI;exact absurd trivial (wf.imm o _ j ho rfl hI)
  . intro le;refine ⟨ms',clock',by rw [q8,if_pos ⟨rfl,hblt⟩],q1,fun i kv e a b=>⟨(q2 i kv e a b).1.mono le,(q2 i kv e a b).2.1.mono le,(q2 i kv e a b).2.2⟩,q3⟩
 have hfind:∀ r,jG k es 0=some r->_:=fun r hr=>nL (ρ:=ρ) (h:=h) (w:=w) h4 hok hk es ms.toList 0 r hr (by simpa using g2) (fun i kv e a b=>⟨(g3 i kv e a (by simpa using b)).1,(g3 i kv e a (by simpa using b)).2.1⟩)
 split at hq
 . rename_i n x hf;simp at hq;subst hq;obtain ⟨r',q1,q2⟩:=hfind _ hf;cases r' with
   | none=>simp at q2
   | some p =>
   obtain ⟨n',u⟩:=p;simp at q2;obtain ⟨rfl,q3,k1,x1,q4,q5,q6⟩:=q2;have hn:n<es.length:=(List.getElem?_eq_some_iff.1 q4).1;have hnm:n<ms.size:=by omega
   have hmn:=Array.getElem?_eq_getElem hnm;have hold:=g3 n _ _ q4 hmn;have hsb:=CO (ρ:=ρ) (h:=h) (w:=w) q6 hk hold.1 10000;have hfk:(Instr.findKey kt vk ms.toList).run P w=.ok (some (n,u)) w:=by simp [Instr.findKey,h3,q1]
   have st1:∀ (i:Nat) kv e,(es.set n (k,v))[i]?=some kv->(ms.modify n fun e=>{ e with key:=vk,val:=vv })[i]?=some e->VR ρ h w kv.1 e.key/\VR ρ h w kv.2 e.val/\e.born<clock:=by
    grind
   have st2:∀ (i j:Nat) e e',(ms.modify n fun e=>{ e with key:=vk,val:=vv })[i]?=some e->(ms.modify n fun e=>{ e with key:=vk,val:=vv })[j]?=some e'->e.born=e'.born->i=j:=by
    grind
   obtain ⟨ρ',s⟩:=step (es.set n (k,v)) (ms.modify n fun e=>{ e with key:=vk,val:=vv }) clock (by simpa using g2) st1 st2;refine ⟨ρ',_,?_,s⟩;simp only [Instr.mapUpdate,Sem.run_bind,h1,Result.andThen_ok,hgo,hck,hfk]
   have hkk2:(Instr.keyThatStays (((ms[n]?).map (·.key)).getD vk) vk).run P w=.ok vk w:=by
    simp [Instr.keyThatStays,hmn,hsb]
   simp only [hkk2,Result.andThen_ok,hset]
 . rename_i hf;simp at hq;subst hq;obtain ⟨r',q1,q2⟩:=hfind _ hf;cases r' with
   | some p=>simp at q2
   | none =>
   have hfk:(Instr.findKey kt vk ms.toList).run P w=.ok none w:=by simp [Instr.findKey,h3,q1]
   have st1:∀ (i:Nat) kv e,(es++[(k,v)])[i]?=some kv->(ms.push { key:=vk,val:=vv,born:=clock })[i]?=some e->VR ρ h w kv.1 e.key/\VR ρ h w kv.2 e.val/\e.born<clock+1:=by
    intro a kv' e ha hb;by_cases e1:a<es.length
    . rw [List.getElem?_append_left e1] at ha;rw [Array.getElem?_push_lt oq] at hb;have:=g3 a kv' e ha (by rw [Array.getElem?_eq_getElem oq];exact hb);exact ⟨this.1,this.2.1,by omega⟩
    . have e2:a=es.length:=by
       have:=(List.getElem?_eq_some_iff.1 ha).1;simp at this;omega
      subst e2;simp at ha;subst ha;rw [<- g2] at hb;simp at hb;subst hb;exact ⟨hk,hv,by simp⟩
   have st2:∀ (i j:Nat) e e',(ms.push { key:=vk,val:=vv,born:=clock })[i]?=some e->(ms.push { key:=vk,val:=vv,born:=clock })[j]?=some e'->e.born=e'.born->i=j:=by
    intro a b e e' ha hb he
    have born:∀ (c:Nat) (e:MapEntry),(ms.push { key:=vk,val:=vv,born:=clock })[c]?=some e->(c<ms.size/\ms[c]?=some e/\e.born<clock)\/(c=ms.size/\e.born=clock):=by
     intro c e hc;by_cases e1:c<ms.size
     . rw [Array.getElem?_push_lt e1] at hc;have hc':ms[c]?=some e:=by rw [Array.getElem?_eq_getElem e1];exact hc
       exact .inl ⟨e1,hc',(g3 c _ e (List.getElem?_eq_getElem oq) hc').2.2⟩
     . have e2:c=ms.size:=by
        have:=(Array.getElem?_eq_some_iff.1 hc).1;simp at this;omega
       subst e2;simp at hc;subst hc;exact .inr ⟨rfl,rfl⟩
    rcases born a e ha with ⟨r1,r2,r3⟩|⟨r1,r2⟩ <;> rcases born b e' hb with ⟨s1,s2,s3⟩|⟨s1,s2⟩
    . exact g4 a b e e' r2 s2 he
    . omega
    . omega
    . omega
   obtain ⟨ρ',s⟩:=step (es++[(k,v)]) (ms.push { key:=vk,val:=vv,born:=clock }) (clock+1) (by simp [g2]) st1 st2;refine ⟨ρ',_,?_,s⟩;simp only [Instr.mapUpdate,Sem.run_bind,h1,Result.andThen_ok,hgo,hck,hfk,hset]
 . simp at hq
end
end
section
structure Cx where
 P:Program
 G:Nat->Option (List aa)
abbrev Tm:=List (Nat×aa)
def Tm.get:List (Nat×aa)->Nat->aa
 | [],_=>.any
 | p::T,t=>if p.1=t then p.2 else Tm.get T t
def aev (G:Nat->Option (List aa)) (T:Tm):Operand->aa
 | .tmp t=>Tm.get T t
 | .const v=>match fU v with
  | some x=>x
  | none=>.any
 | .global g=>match G g with
  | some cs=>.pimm cs 0
  | none=>.any
 | .func f=>.fn (.func f) [] []
def eG (ev:Operand->aa):List (Nat×Operand)->List (Nat×aa)
 | []=>[]
 | p::ps=>(p.1,ev p.2)::eG ev ps
def ju (ev:Operand->aa):List Operand->List aa
 | []=>[]
 | x::xs=>ev x::ju ev xs
def o4 (ev:Operand->aa):Option Operand->Option aa
 | none=>none
 | some x=>some (ev x)
def dI (h:af):Option aa->Option (aa×af)
 | some v=>some (v,h)
 | none=>none
def rK:Option af->Option (aa×af)
 | some h=>some (.any,h)
 | none=>none
def dT (P:Program) (h:af) (b:Builtin) (ats:List TypeId) (xs:List aa):Option (aa×af) :=
 match b,ats,xs with
 | .len,[t],[x]=>match aP P t with
  | some i=>if i.k.lenOk x=true then
   match xN h x with
   | some n=>some (.int .i64 n,h)
   | none=>none
   else none
  | none=>none
 | .append,[t,t'],[s,x]=>kE P h t t' s x
 | .min,_,[x,y]=>dI h (JR x y)
 | .max,_,[x,y]=>dI h (J0 x y)
 | _,_,_=>none
def oa (P:Program) (xs ys:aa):List (Nat×Nat)->Option Bool
 | []=>some true
 | p::fs=>match apart P p.2 xs p.1,apart P p.2 ys p.1,aP P p.2 with
  | some x,some y,some j=>if j.k.keyOk x=true/\j.k.keyOk y=true then (match fG x y with
   | some true=>oa P xs ys fs
   | some false=>some false
   | none=>none) else none
  | _,_,_=>none
def l8 (P:Program) (t:TypeId):aa->aa->Option Bool
 | .agg xs,.agg ys=>match P.underlying t with
  | some (.struct l) => if (l.toList.all fun f => !(f.name == "_")) = true ∧ P.stoodInHeld t = false ∧ P.eqGuardType P.depth t = false then oa P (.agg xs) (.agg ys) (l.toList.map fun f => (f.offset, f.type)) else none
  | _=>none
 | _,_=>none
def we (P:Program) (op:BinOp) (t:TypeId):aa->aa->Option aa
 | .agg xs,.agg ys=>match l8 P t (.agg xs) (.agg ys),op with
  | some b,.eql=>some (.bool b)
  | some b,.neq=>some (.bool !b)
  | _,_=>none
 | x,y=>pe P op t x y
def aop (P:Program) (h:af) (ev:Operand->aa):Op->Option (aa×af)
 | .move x=>some (ev x,h)
 | .assign x=>some (ev x,h)
 | .pick c a b=>match ev c with
  | .bool t=>some (if t then ev a else ev b,h)
  | _=>none
 | .alloc t=>match aP P t with
  | some i=>some (.ptr h.length 0,h++[.box i.zero.cells])
  | none=>none
 | .box _ x=>if (ev x).isAny=true then none else some (.ptr h.length 0,h++[.box (ev x).cells])
 | .build t ps=>dI h (B3 P t (eG ev ps.toList))
 | .buildSlice t n ps=>dI h (gQ P t n (eG ev ps.toList))
 | .load t a=>match nV h (ev a) with
  | some (cs,off)=>dI h (lh P t cs off)
  | none=>none
 | .store t a x=>rK (fc P h t (ev a) (ev x))
 | .nilCheck x=>match ev x with
  | .ptr o off=>some (.ptr o off,h)
  | .pimm cs off=>some (.pimm cs off,h)
  | .fn (.func f) xs ys=>some (.fn (.func f) xs ys,h)
  | _=>none
 | .binOp op t x y _=>dI h (we P op t (ev x) (ev y))
 | .unOp op _ x=>dI h (aun op (ev x))
 | .convert s d x=>dI h (ER P s d (ev x))
 | .makeFunc f xs ys=>some (.fn f (ju ev xs.toList) (ju ev ys.toList),h)
 | .makeMap _ none=>some (.map h.length,h++[.map []])
 | .slice t x lo hi none=>dI h (iS P h t (ev x) (o4 ev lo) (o4 ev hi))
 | .fieldAddr s x f=>dI h (gm P h s (ev x) f)
 | .field t x f=>dI h (Cn P t (ev x) f)
 | .indexAddr t x i=>match ev i with
  | .int _ n=>dI h (dD P h t (ev x) n)
  | _=>none
 | .index t x i=>match ev i with
  | .int _ n=>dI h (Cz P t (ev x) n)
  | _=>none
 | .lookup t m k ok=>dI h (ir P h t (ev m) (ev k) ok)
 | .mapUpdate t m k x=>rK (cW P h t (ev m) (ev k) (ev x))
 | .insert t m k x=>rK (cW P h t (ev m) (ev k) (ev x))
 | .extract t i=>dI h (tn (ev t) i)
 | .call { callee:=.builtin b,args,argTypes }=>dT P h b argTypes.toList (ju ev args.toList)
 | _=>none
section
variable {E:Ent} {ρ:Ren} {h:af} {w:World} {P:Program}
theorem nJ (ev:Operand->aa):∀ ps:List (Nat×Operand),eG ev ps=ps.map fun p=>(p.1,ev p.2)
 | []=>rfl
 | p::ps=>by simp [eG,nJ ev ps]
theorem ji (ev:Operand->aa):∀ xs:List Operand,ju ev xs=xs.map ev
 | []=>rfl
 | x::xs=>by simp [ju,ji ev xs]
theorem a8 {o:Option aa} {v:aa} {h':af} (hq:dI h o=some (v,h')):o=some v/\h'=h:=by
 cases o <;> simp [dI] at hq
 grind
theorem eR {o:Option af} {v:aa} {h':af} (hq:rK o=some (v,h')):o=some h'/\v=.any:=by
 cases o <;> simp [rK] at hq
 grind
theorem cC.of_value (wf:WF ρ h w) (fr:Fr E ρ h w) {v:aa} {s:Sem Value} (hs:∃ u,s.run P w=.ok u w/\VR ρ h w v u) :
 cC E ρ h w v h ((do pure (.value (<- s)):Sem Next).run P w):=by
 obtain ⟨u,h1,h2⟩:=hs;exact cC.same wf fr h1 h2
theorem cC.of_unit {h':af} {s:Sem Unit} (hs:∃ ρ' w',s.run P w=.ok () w'/\WF ρ' h' w'/\Le ρ h w ρ' h' w'/\Fr E ρ' h' w') :
 cC E ρ h w .any h' ((do s;pure .skip:Sem Next).run P w):=by
 obtain ⟨ρ',w',h1,h2,h3,h4⟩:=hs;exact ⟨ρ',w',undef,.inr ⟨by simp [h1],rfl⟩,.any _,h2,h3,h4⟩
theorem cC.of_value' {h':af} {v:aa} {s:Sem Value} (hs:∃ ρ' w' u,s.run P w=.ok u w'/\VR ρ' h' w' v u/\WF ρ' h' w'/\Le ρ h w ρ' h' w'/\Fr E ρ' h' w') :
 cC E ρ h w v h' ((do pure (.value (<- s)):Sem Next).run P w):=by
 obtain ⟨ρ',w',u,h1,h2,h3,h4,h5⟩:=hs;exact ⟨ρ',w',u,.inl (by simp [h1]),h2,h3,h4,h5⟩
theorem tF {b:Builtin} {ats:Array TypeId} {xs:List aa} {vs:Array Value} {v:aa} {h':af} {ty:TypeId} {cs:Array Bool} (hq:dT P h b ats.toList xs=some (v,h')) (wf:WF ρ h w) (fr:Fr E ρ h w)
 (hl:vs.size=xs.length) (hv:∀ (i:Nat) x u,xs[i]?=some x->vs[i]?=some u->VR ρ h w x u):cC E ρ h w v h' ((builtin b ats ty cs vs).run P w):=by
 unfold dT at hq;split at hq <;> try (simp at hq;done)
 . rename_i t x e1;split at hq <;> try (simp at hq;done)
   rename_i i ht;split at hq <;> try (simp at hq;done)
   rename_i hk;split at hq <;> simp at hq;rename_i n hn;obtain ⟨rfl,rfl⟩:=hq
   obtain ⟨u,rfl⟩:∃ u,vs=#[u]:=by
    have:vs.size=1:=hl
    exact ⟨vs[0], by apply Array.ext;simpa using this;intro i h1 h2;have:i=0:=by omega
                     subst this;rfl⟩
   have hat:ats[0]?=some t:=by rw [<- Array.getElem?_toList,e1];rfl
   exact cC.of_value wf fr ⟨_,Ci wf ht hk hn hat (hv 0 x u rfl rfl),.int _ _⟩
 . rename_i t t' s x e1
   obtain ⟨u1,u2,rfl⟩:∃ u1 u2,vs=#[u1,u2]:=by
    have:vs.size=2:=hl
    exact ⟨vs[0], vs[1], by apply Array.ext;simpa using this;intro i h1 h2;have:i=0\/i=1:=by omega
                            rcases this with rfl|rfl <;> rfl⟩
   have hat:ats=#[t,t']:=by apply Array.ext';rw [e1]
   subst hat;exact cC.of_value' (ux hq wf fr (hv 0 s u1 rfl rfl) (hv 1 x u2 rfl rfl))
 . rename_i x y
   obtain ⟨u1,u2,rfl⟩:∃ u1 u2,vs=#[u1,u2]:=by
    have:vs.size=2:=hl
    exact ⟨vs[0], vs[1], by apply Array.ext;simpa using this;intro i h1 h2;have:i=0\/i=1:=by omega
                            rcases this with rfl|rfl <;> rfl⟩
   obtain ⟨q1,rfl⟩:=a8 hq;exact cC.of_value wf fr (zo q1 (hv 0 x u1 rfl rfl) (hv 1 y u2 rfl rfl) _ _)
 . rename_i x y
   obtain ⟨u1,u2,rfl⟩:∃ u1 u2,vs=#[u1,u2]:=by
    have:vs.size=2:=hl
    exact ⟨vs[0], vs[1], by apply Array.ext;simpa using this;intro i h1 h2;have:i=0\/i=1:=by omega
                            rcases this with rfl|rfl <;> rfl⟩
   obtain ⟨q1,rfl⟩:=a8 hq;exact cC.of_value wf fr (AZ q1 (hv 0 x u1 rfl rfl) (hv 1 y u2 rfl rfl) _ _)
theorem ra {ft:TypeId} {j:TyI} {x y:aa} {u v:Value} {b:Bool} (hj:aP P ft=some j) (hx:j.k.keyOk x=true) (hy:j.k.keyOk y=true) (he:fG x y=some b) (hu:VR ρ h w x u) (hv:VR ρ h w y v) (d:Nat) :
 (Op.equalIn (d+1) ft u v).run P w=.ok b w:=by
 obtain ⟨dd,h1,h2⟩:=run_underlying hj w;unfold fG at he;split at he <;> try (simp at he;done)
 . split at he <;> simp at he;rename_i e;subst e;subst he;cases hu;cases hv
   obtain ⟨k,hk⟩:∃ k,j.k=.int k:=by revert hx;cases j.k <;> simp [TyK.keyOk]
   have:=r9 (h2.trans hk);subst this;simp [Op.equalIn,h1]
 . simp at he;subst he;cases hu;cases hv
   have hk:j.k=.str:=by revert hx;cases j.k <;> simp [TyK.keyOk]
   have:=kJ (h2.trans hk);subst this;simp only [Op.equalIn,Sem.run_bind,h1,Result.andThen_ok,Sem.run_pure,CT]
 . simp at he;subst he;cases hu;cases hv
   have hk:j.k=.bool:=by revert hx;cases j.k <;> simp [TyK.keyOk]
   have:=nX (h2.trans hk);subst this;simp [Op.equalIn,h1]
theorem qZ {xs ys:List aa} {us vs:Array Value} (hul:us.size=xs.length) (huv:∀ (i:Nat) x v,xs[i]?=some x->us[i]?=some v->VR ρ h w x v) (hvl:vs.size=ys.length) (hvv:∀ (i:Nat) x v,ys[i]?=some x->vs[i]?=some v->VR ρ h w x v) (d:Nat) :
 ∀ (fl : List Field) (b : Bool), oa P (.agg xs) (.agg ys) (fl.map fun f => (f.offset, f.type)) = some b → (fl.all fun f => !(f.name == "_")) = true →
  (forIn (m:=Sem) fl ((none,()):Option Bool×Unit) fun f _ =>
   if f.name ≠ "_" then do
    let x <- part f.type us f.offset
    let y <- part f.type vs f.offset
    let r <- Op.equalIn (d+1) f.type x y
    if (!r)=true then pure (ForInStep.done (some false,())) else pure (ForInStep.yield (none,()))
   else pure (ForInStep.yield (none,()))).run P w=.ok ((if b then none else some false),()) w
 | [],b,hq,_=>by
  simp only [List.map_nil,oa,Option.some.injEq] at hq;subst hq;simp
 | f::fl,b,hq,hn=>by
  simp only [List.all_cons,Bool.and_eq_true] at hn
  have hne : f.name ≠ "_" := by simpa using hn.1
  simp only [List.map_cons,oa] at hq;split at hq <;> try (simp at hq;done)
  rename_i x y j hx hy hj;split at hq <;> try (simp at hq;done)
  rename_i hk;obtain ⟨u,p1,p2⟩:=jw (P:=P) (show lh P f.type xs f.offset=some x from hx) hul huv;obtain ⟨v,q1,q2⟩:=jw (P:=P) (show lh P f.type ys f.offset=some y from hy) hvl hvv;rw [List.forIn_cons];simp only [if_pos hne,Sem.run_bind,p1,q1,Result.andThen_ok];split at hq <;> try (simp at hq;done)
  . rename_i he;rw [ra hj hk.1 hk.2 he p2 q2 d];simp only [Result.andThen_ok,Bool.not_true,Bool.false_eq_true,if_false,Sem.run_pure];exact qZ hul huv hvl hvv d fl b hq hn.2
  . rename_i he;simp only [Option.some.injEq] at hq;subst hq;rw [ra hj hk.1 hk.2 he p2 q2 d];simp
theorem qG {op:BinOp} {t:TypeId} {x y:aa} {b:Bool} {vx vy:Value} (hq:l8 P t x y=some b) (hx:VR ρ h w x vx) (hy:VR ρ h w y vy) (d:Nat) :
 (Op.equalIn (d+2) t vx vy).run P w=.ok b w:=by
 unfold l8 at hq;split at hq <;> try (simp at hq;done)
 rename_i xs ys;split at hq <;> try (simp at hq;done)
 rename_i l hl;split at hq <;> try (simp at hq;done)
 rename_i hc;obtain ⟨c1,c2,c3⟩:=hc;cases hx with
 | agg _ us hul huv =>
 cases hy with
 | agg _ vs hvl hvv =>
 have hu:(underlying t).run P w=.ok (.struct l) w:=by simp [underlying,hl]
 rw [show d+2=(d+1)+1 from rfl];unfold Op.equalIn;simp only [Sem.run_bind,hu,Result.andThen_ok,run_program,c2,Bool.false_eq_true,if_false];rw [<- Array.forIn_toList,qZ hul huv hvl hvv d l.toList b hq c1];cases b <;> simp
theorem ld {op:BinOp} {t:TypeId} (ox oy:Operand) {u v:Array Value} (hg:P.eqGuardType P.depth t=false):(eqGuard op t ox oy (.agg u) (.agg v)).run P w=.ok () w:=by
 unfold eqGuard;cases op <;> simp [hg]
theorem zf {op:BinOp} {t:TypeId} {x y z:aa} (hz:we P op t x y=some z) {vx vy:Value} (hx:VR ρ h w x vx) (hy:VR ρ h w y vy) (ox oy:Operand) :
 ∃ vz,(do eqGuard op t ox oy vx vy;binOp op t vx vy:Sem Value).run P w=.ok vz w/\z.flat=some vz:=by
 unfold we at hz;split at hz
 . rename_i xs ys
   have key:∀ b,l8 P t (.agg xs) (.agg ys)=some b->∃ us vs,vx=.agg us/\vy=.agg vs/\(∀ o,(eqGuard o t ox oy (.agg us) (.agg vs)).run P w=.ok () w)/\(Op.equal t (.agg us) (.agg vs)).run P w=.ok b w:=by
    intro b hb;have hs:=qG (op:=op) hb hx hy 9998;have hb':=hb;unfold l8 at hb';dsimp only at hb';split at hb' <;> try (simp at hb';done)
    split at hb' <;> try (simp at hb';done)
    rename_i hc;obtain ⟨us,rfl⟩:∃ us,vx=.agg us:=by cases hx;exact ⟨_,rfl⟩
    obtain ⟨vs,rfl⟩:∃ vs,vy=.agg vs:=by cases hy;exact ⟨_,rfl⟩
    exact ⟨us,vs,rfl,rfl,fun o=>ld ox oy hc.2.2,hs⟩
   split at hz <;> try (simp at hz;done)
   . rename_i b hb;simp only [Option.some.injEq] at hz;subst hz;obtain ⟨us,vs,rfl,rfl,e3,e4⟩:=key b hb;refine ⟨.bool b,?_,rfl⟩;rw [Sem.run_bind,e3];simp only [Result.andThen_ok,binOp];simp [e4]
   . rename_i b hb;simp only [Option.some.injEq] at hz;subst hz;obtain ⟨us,vs,rfl,rfl,e3,e4⟩:=key b hb;refine ⟨.bool !b,?_,rfl⟩;rw [Sem.run_bind,e3];simp only [Result.andThen_ok,binOp];simp [e4]
 . exact Cd hz hx hy ox oy
theorem vw {ev:Operand->aa} {cev:Operand->Value} {o:Oper} {v:aa} {h':af} (hq:aop P h ev o.op=some (v,h')) (wf:WF ρ h w) (fr:Fr E ρ h w)
 (hev:∀ x,VR ρ h w (ev x) (cev x)):cC E ρ h w v h' ((execOp cev o).run P w):=by
 obtain ⟨dst,op,ty,pos,after,guard⟩:=o
 have hparts:∀ ps:Array (Nat×Operand),(eG ev ps.toList).map (·.1)=(ps.map fun (i,x)=>(i,cev x)).toList.map (·.1) /\
  ∀ (i:Nat) p q,(eG ev ps.toList)[i]?=some p->(ps.map fun (i,x)=>(i,cev x)).toList[i]?=some q->VR ρ h w p.2 q.2:=by
  intro ps;rw [nJ];refine ⟨by simp,fun i p q hp hq=>?_⟩
  grind
 have horel:∀ x:Option Operand,oF ρ h w (o4 ev x) (x.map cev):=by
  intro x;cases x
  . trivial
  . exact hev _
 cases op <;> simp only [aop] at hq <;> try (simp at hq;done)
 case move x=>simp at hq;obtain ⟨rfl,rfl⟩:=hq;exact ⟨ρ,w,_,.inl rfl,hev x,wf,Le.refl _ _ _,fr⟩
 case assign x=>simp at hq;obtain ⟨rfl,rfl⟩:=hq;exact ⟨ρ,w,_,.inl rfl,hev x,wf,Le.refl _ _ _,fr⟩
 case pick c a b =>
  split at hq <;> simp at hq;rename_i t ht;obtain ⟨rfl,rfl⟩:=hq;have hc:=hev c;rw [ht] at hc;cases hce:cev c <;> rw [hce] at hc <;> cases hc
  refine ⟨ρ,w,(if t then cev a else cev b),.inl ?_,?_,wf,Le.refl _ _ _,fr⟩
  . simp [execOp,hce,asBool]
  . grind
 case alloc t =>
  split at hq <;> simp at hq;rename_i i ht;obtain ⟨rfl,rfl⟩:=hq;obtain ⟨z,hz,hcz⟩:=ff (ρ:=ρ) (h:=h) (w:=w) ht;obtain ⟨ρ',g1,g2,g3,g4⟩:=AK wf fr i.zero.cells z.cells t hcz.1 hcz.2;refine cC.of_value' (s:=Instr.alloc t true (.tuple #[])) ⟨ρ',_,.pointer (some ⟨w.heap.size,0,none⟩),?_,?_,g1,g2,g3⟩
  . simp [Instr.alloc,hz,newVar,newRow]
  . rw [<- g4];exact .ptr _ _ _ (getElem?_append_one _ _)
 case box t x =>
  split at hq <;> simp at hq;rename_i hna;obtain ⟨rfl,rfl⟩:=hq;have hc:=(hev x).cells (r5 (by simpa using hna));obtain ⟨ρ',g1,g2,g3,g4⟩:=AK wf fr (ev x).cells (cev x).cells t hc.1 hc.2;refine cC.of_value' (s:=Instr.box t (cev x)) ⟨ρ',_,.pointer (some ⟨w.heap.size,0,none⟩),?_,?_,g1,g2,g3⟩
  . simp [Instr.box,newVar,newRow]
  . rw [<- g4];exact .ptr _ _ _ (getElem?_append_one _ _)
 case build t ps =>
  obtain ⟨q1,rfl⟩:=a8 hq;exact cC.of_value wf fr (yL q1 (hparts ps).1 (hparts ps).2)
 case buildSlice t n ps =>
  obtain ⟨q1,rfl⟩:=a8 hq;exact cC.of_value' (oR q1 wf fr (hparts ps).1 (hparts ps).2)
 case load t a =>
  split at hq <;> try (simp at hq;done)
  rename_i cs off hv;obtain ⟨q1,rfl⟩:=a8 hq;obtain ⟨b,base,hb,hc⟩:=qw wf (hev a) hv;obtain ⟨u,g1,g2⟩:=rl (P:=P) q1 hc;exact cC.of_value wf fr (s:=Instr.loadAt t (cev a)) ⟨u,by rw [hb];exact g1,g2⟩
 case store t a x =>
  obtain ⟨q1,rfl⟩:=eR hq;exact cC.of_unit (xF q1 wf fr (hev a) (hev x))
 case nilCheck x =>
  have hx:=hev x;split at hq <;> simp at hq
  . rename_i o off he;obtain ⟨rfl,rfl⟩:=hq;rw [he] at hx;refine ⟨ρ,w,cev x,.inl ?_,hx,wf,Le.refl _ _ _,fr⟩;cases hce:cev x <;> rw [hce] at hx <;> cases hx
    simp [execOp,hce]
  . rename_i cs off he;obtain ⟨rfl,rfl⟩:=hq;rw [he] at hx;refine ⟨ρ,w,cev x,.inl ?_,hx,wf,Le.refl _ _ _,fr⟩;cases hce:cev x <;> rw [hce] at hx <;> cases hx
    simp [execOp,hce]
  . rename_i f xs ys he;obtain ⟨rfl,rfl⟩:=hq;rw [he] at hx;refine ⟨ρ,w,cev x,.inl ?_,hx,wf,Le.refl _ _ _,fr⟩;cases hce:cev x <;> rw [hce] at hx <;> cases hx
    simp [execOp,hce]
 case binOp op t x y t2 =>
  obtain ⟨q1,rfl⟩:=a8 hq;obtain ⟨u,g1,g2⟩:=zf q1 (hev x) (hev y) x y;exact cC.of_value wf fr ⟨u,g1,rX g2 _ _ _⟩
 case unOp op t x =>
  obtain ⟨q1,rfl⟩:=a8 hq;obtain ⟨u,g1,g2⟩:=GX (P:=P) q1 (hev x);exact cC.of_value wf fr ⟨u,g1,rX g2 _ _ _⟩
 case convert s d x =>
  obtain ⟨q1,rfl⟩:=a8 hq;obtain ⟨u,g1,g2⟩:=Bk (P:=P) q1 (hev x);exact cC.of_value wf fr ⟨u,g1,rX g2 _ _ _⟩
 case makeFunc f xs ys =>
  simp at hq;obtain ⟨rfl,rfl⟩:=hq;refine cC.of_value wf fr (s:=Instr.makeFunc f (xs.map cev) (ys.map cev)) ⟨_,rfl,?_⟩;rw [ji,ji];refine .fn f _ _ _ _ zq zq ?_ ?_
  . grind
  . grind
 case makeMap t r =>
  cases r <;> simp at hq
  obtain ⟨rfl,rfl⟩:=hq;obtain ⟨ρ',g1,g2,g3,g4⟩:=J7 wf fr;refine cC.of_value' (s:=Instr.makeMap t none) ⟨ρ',_,.map (some w.heap.size),?_,?_,g1,g2,g3⟩
  . simp [Instr.makeMap]
  . rw [<- g4];exact .map _ _ (getElem?_append_one _ _)
 case slice t x lo hi mx =>
  cases mx <;> simp at hq
  obtain ⟨q1,rfl⟩:=a8 hq;exact cC.of_value wf fr (w3 wf q1 (hev x) (horel lo) (horel hi))
 case fieldAddr s x f =>
  obtain ⟨q1,rfl⟩:=a8 hq;exact cC.of_value wf fr (pn q1 (hev x))
 case field s x f =>
  obtain ⟨q1,rfl⟩:=a8 hq;exact cC.of_value wf fr (yh q1 (hev x))
 case indexAddr t x i =>
  split at hq <;> try (simp at hq;done)
  rename_i k n hi;obtain ⟨q1,rfl⟩:=a8 hq;have hx:=hev i;rw [hi] at hx;have hce:cev i=.int k n:=by cases hce:cev i <;> rw [hce] at hx <;> cases hx;rfl
  have:=pp (P:=P) wf (k:=k) q1 (hev x);rw [<- hce] at this;exact cC.of_value wf fr this
 case index t x i =>
  split at hq <;> try (simp at hq;done)
  rename_i k n hi;obtain ⟨q1,rfl⟩:=a8 hq;have hx:=hev i;rw [hi] at hx;have hce:cev i=.int k n:=by cases hce:cev i <;> rw [hce] at hx <;> cases hx;rfl
  have:=yJ (P:=P) (k:=k) q1 (hev x);rw [<- hce] at this;exact cC.of_value wf fr this
 case lookup t m k ok =>
  obtain ⟨q1,rfl⟩:=a8 hq;exact cC.of_value wf fr (vf q1 wf (hev m) (hev k))
 case mapUpdate t m k x =>
  obtain ⟨q1,rfl⟩:=eR hq;exact cC.of_unit (jZ q1 wf fr (hev m) (hev k) (hev x))
 case insert t m k x =>
  obtain ⟨q1,rfl⟩:=eR hq;exact cC.of_unit (jZ q1 wf fr (hev m) (hev k) (hev x))
 case extract t i =>
  obtain ⟨q1,rfl⟩:=a8 hq;exact cC.of_value wf fr (s5 q1 (hev t))
 case call c =>
  obtain ⟨callee,args,ats⟩:=c;cases callee <;> simp only at hq <;> try (simp at hq;done)
  rename_i b;rw [ji] at hq
  have hrun:∀ cs,cC E ρ h w v h' ((builtin b ats ty cs (args.map cev)).run P w):=fun cs=>tF (ty:=ty) (cs:=cs) (vs:=args.map cev) hq wf fr zq (by
   intro i x u hx hu;simp at hx hu;obtain ⟨a,h1,rfl⟩:=hx;obtain ⟨b,h2,rfl⟩:=hu;rw [h1] at h2;cases h2;exact hev _)
  simp only [execOp,resolve,invoke,Sem.run_bind,Sem.run_pure,Result.andThen_ok];exact hrun _
end
end
section
def BR (h:af):aa->Option (List Bool)
 | .imm l=>some (bif l.isEmpty then [true,false] else [false])
 | .full l=>some (bif l.isEmpty then [true,false] else [false])
 | .own o off len=>match h[o]? with
  | some (.arr _ es _)=>some (bif Nat.beq (off+len) es.length && Nat.blt 0 len then [false] else [true,false])
  | _=>none
 | _=>none
def BF:Operand->Bool
 | .const (.slice none 0 0)=>true
 | _=>false
def mv (P:Program) (h:af) (t:TypeId) (lo hi:Option aa):aa->Option (aa×af)
 | .own o off len=>match aP P t with
  | some i=>match i.k with
   | .slice e=>match aP P e,h[o]? with
    | some j,some (.arr sz es _)=>if off+len=es.length/\sz=j.size then (match d5 len lo hi with
     | some (a,b)=>some (.imm (((es.drop off).take b).drop a),h.set o (.arr sz es es.length))
     | none=>none) else none
    | _,_=>none
   | _=>none
  | none=>none
 | _=>none
def iA (sz:Nat):aa:=bif Nat.beq sz 1 then .any else .agg (List.replicate sz .any)
def pu (P:Program) (h:af) (t:TypeId):aa->Option af
 | .own o off len=>match aP P t with
  | some i=>match i.k with
   | .slice e=>match aP P e with
    | some ei=>match h[o]? with
     | some (.arr sz es fr)=>if off+len=es.length/\fr<=off/\ei.zero.cells.length=sz/\ei.zero.cells.all aa.cellOk=true then some (h.set o (.arr sz (es.take off++List.replicate len (iA sz)) fr)) else none
     | _=>none
    | none=>none
   | _=>none
  | none=>none
 | _=>none
def RW (P:Program) (h:af) (b:Builtin) (ats:List TypeId) (xs:List aa):Option (List (aa×af)) :=
 match b,ats,xs with
 | .clear,[t],[x]=>(pu P h t x).map fun h'=>[(.tup [],h')]
 | _,_,_=>none
def anx (P:Program) (h:af) (ev:Operand->aa):Op->Option (List (aa×af))
 | .binOp op t x y _=>bif BF y then (match aP P t with
  | some i=>match i.k,op with
   | .slice _,.eql=>(BR h (ev x)).map fun l=>l.map fun b=>(.bool b,h)
   | .slice _,.neq=>(BR h (ev x)).map fun l=>l.map fun b=>(.bool !b,h)
   | _,_=>none
  | none=>none) else (match l8 P t (ev x) (ev y),op with
  | some b,.eql=>some [(.bool b,h)]
  | some b,.neq=>some [(.bool !b,h)]
  | _,_=>none)
 | .range t x=>match aP P t with
  | some i=>match i.k,ev x with
   | .map _ _,.map m=>match h[m]? with
    | some (.map es)=>some [(.itr h.length,h++[.iter m (List.range es.length,none)])]
    | _=>none
   | _,_=>none
  | none=>none
 | .next it false=>match ev it with
  | .itr o=>match h[o]? with
   | some (.iter m left)=>match h[m]? with
    | some (.map es)=>match left.1 with
     | []=>some [(.tup [.bool false],h)]
     | i::l=>some ((i::l).filterMap fun i=>(es[i]?).map fun kv=>(.tup [.bool true,kv.1,kv.2],h.set o (.iter m (left.1.filter (fun j=>!(Nat.beq j i)),some i))))
    | _=>none
   | _=>none
  | _=>none
 | .entry it=>match ev it with
  | .itr o=>match h[o]? with
   | some (.iter m (_,some i))=>match h[m]? with
    | some (.map es)=>match es[i]? with
     | some kv=>some [(.tup [kv.1,kv.2],h)]
     | none=>none
    | _=>none
   | _=>none
  | _=>none
 | .call { callee:=.builtin b,args,argTypes }=>RW P h b argTypes.toList (ju ev args.toList)
 | .slice t x lo hi none=>(mv P h t (o4 ev lo) (o4 ev hi) (ev x)).map fun r=>[r]
 | _=>none
section
variable {E:Ent} {ρ:Ren} {h:af} {w:World} {P:Program}
theorem ro (wf:WF ρ h w) {o m:Nat} {left:List Nat×Option Nat} (hb:h[o]?=some (.iter m left)):∀ (o' m':Nat) left',o'≠o->h[o']?=some (.iter m' left')->m'≠o:=by
 intro o' m' left' _ ho e;obtain ⟨_,_,_,_,es,_,_,g,_⟩:=wf.obj o' _ ho
 grind
theorem E3 (wf:WF ρ h w) (fr:Fr E ρ h w) {m:Nat} {es:List (aa×aa)} (hm:h[m]?=some (.map es)) {ms:Array MapEntry} {clock:Nat} (hh:w.heap[(ρ.loc m).blk]?=some (.map ms clock)) :
 ∃ ρ',WF ρ' (h++[.iter m (List.range es.length,none)]) (w.alloc (.mapIter (some (ρ.loc m).blk) clock #[] clock))/\Le ρ h w ρ' (h++[.iter m (List.range es.length,none)]) (w.alloc (.mapIter (some (ρ.loc m).blk) clock #[] clock))/\Fr E ρ' (h++[.iter m (List.range es.length,none)]) (w.alloc (.mapIter (some (ρ.loc m).blk) clock #[] clock)) /\
  (ρ'.loc h.length).blk=w.heap.size:=by
 have hlt:m<h.length:=(List.getElem?_eq_some_iff.1 hm).1;have hblt:(ρ.loc m).blk<w.heap.size:=wf.lt m _ hm rfl;obtain ⟨ms',clock',q1,q2,q3,q4⟩:=wf.obj m _ hm;rw [hh] at q1;cases q1;refine ⟨ρ.put h.length ⟨w.heap.size,0,0⟩ ρ.I,?_⟩;have hne:m≠h.length:=by omega
 have:=ce (h':=h++[.iter m (List.range es.length,none)]) (w':=w.alloc (.mapIter (some (ρ.loc m).blk) clock #[] clock)) wf fr h.length (.iter m (List.range es.length,none)) ⟨w.heap.size,0,0⟩ ρ.I (getElem?_append_one _ _) (fun o' ho=>bE _ _ _ ho)
  rfl rfl rfl zq (fun b hb _=>heap_alloc_old w _ b hb) zq
  (fun b j hI=>⟨hI,bB (heap_alloc_old w _ b (wf.immlt b j hI)) j⟩) (fun b j hI=>.inl hI)
  (fun _=>.inl ⟨Nat.le_refl _,by simp⟩) (fun j _ hI=>absurd (wf.immlt _ j hI) zq)
  (cy wf)
  (fun le=>by
   refine ⟨clock,#[],clock,by rw [Ren.put_other _ _ _ _ _ hne];exact heap_alloc_new w _,es,ms,clock,by rw [bE _ _ _ hne];exact hm,?_,rfl,Nat.le_refl _,by simp,?_,by simp,?_⟩
   . rw [Ren.put_other _ _ _ _ _ hne,heap_alloc_old w _ _ hblt];exact hh
   . intro i e he;have:i<ms.size:=(Array.getElem?_eq_some_iff.1 he).1;simp;omega
   . intro i hi;simp at hi;omega)
 exact ⟨this.1,this.2.1,this.2.2,by rw [Ren.put_same]⟩
theorem zi {ms:Array MapEntry} {clock:Nat} (hb:∀ (i:Nat) e,ms[i]?=some e->e.born<clock) (p:MapEntry->Bool):(ms.filter p).filter (fun e=>decide (e.born<clock))=ms.filter p/\(ms.filter p).filter (fun e=>decide (e.born >= clock))=#[]:=by
 have hm:∀ e∈ms,e.born<clock:=by
  intro e he;obtain ⟨i,hi,rfl⟩:=Array.getElem_of_mem he;exact hb i _ (Array.getElem?_eq_getElem hi)
 constructor
 . rw [Array.filter_eq_self]
   grind
 . rw [Array.filter_eq_empty_iff]
   grind
theorem lJ (P:Program) (w:World) (n:Nat) (hn:0<n):∃ c w1,(choose (.mapNext n)).run P w=.ok c w1/\c<n/\(w1=w\/w1=w.drew):=by
 simp only [choose,Sem.run];split
 . grind
 . exact ⟨_,_,rfl,Nat.mod_lt _ hn,.inr rfl⟩
theorem nbf {a b:Nat} (h:a≠b):Nat.beq a b=false:=by
 cases hb:Nat.beq a b
 . rfl
 . exact absurd (Nat.eq_of_beq_eq_true hb) h
theorem s7 (wf:WF ρ h w) {x:aa} {v:Value} (hx:VR ρ h w x v) {l:List Bool} (hl:BR h x=some l):∃ a n c,v=.slice a n c/\a.isNone∈l:=by
 cases hx with
 | imm xs a cap sz b off val hcap ha _ _ _ =>
  simp only [BR,Option.some.injEq] at hl;subst hl;refine ⟨a,_,_,rfl,?_⟩;cases xs with
  | nil=>cases a <;> simp
  | cons y ys=>rw [ha zq];simp
 | full xs a sz b off val ha _ _ _ =>
  simp only [BR,Option.some.injEq] at hl;subst hl;refine ⟨a,_,_,rfl,?_⟩;cases xs with
  | nil=>cases a <;> simp
  | cons y ys=>rw [ha zq];simp
 | own o off len a n cap sz es fr ho hv =>
  simp only [BR,ho,Option.some.injEq] at hl;subst hl;refine ⟨a,_,_,rfl,?_⟩;cases hb:Nat.beq (off+len) es.length && Nat.blt 0 len with
  | false=>cases a <;> simp
  | true =>
   simp only [Bool.and_eq_true,Nat.blt_eq] at hb;have e:off+len=es.length:=Nat.eq_of_beq_eq_true hb.1;obtain ⟨_,h2⟩:=hv;obtain ⟨rfl,h3,h4⟩:=h2 e;obtain ⟨g1,g2,_⟩:=wf.obj o _ ho;rw [h4 oq];simp
 | _=>simp [BR] at hl
theorem kd {P:Program} (w:World) (d:Nat) (t e:TypeId) (a:Option Addr) (n c:Nat) (h:P.underlying t=some (.slice e)) :
 (Op.equalIn (d+1) t (.slice a n c) (.slice none 0 0)).run P w=.ok a.isNone w:=by
 cases a <;> simp [Op.equalIn,Go.run_underlying h]
theorem Ow {a b:Nat} (h:a=b):Nat.beq a b=true:=by subst h;exact Nat.beq_refl a
theorem uR {t:TypeId} {x q:aa} {lo hi:Option aa} {h':af} {v:Value} {vlo vhi:Option Value} (hq:mv P h t lo hi x=some (q,h')) (wf:WF ρ h w) (fr:Fr E ρ h w) (hx:VR ρ h w x v) (hl:oF ρ h w lo vlo) (hh:oF ρ h w hi vhi) :
 ∃ ρ' u,(Instr.sliceAt t v vlo vhi none).run P w=.ok u w/\VR ρ' h' w q u/\WF ρ' h' w/\Le ρ h w ρ' h' w/\Fr E ρ' h' w:=by
 unfold mv at hq;split at hq <;> try (simp at hq;done)
 rename_i o off len;split at hq <;> try (simp at hq;done)
 rename_i i ht;split at hq <;> try (simp at hq;done)
 rename_i e hk;split at hq <;> try (simp at hq;done)
 rename_i j sz es fr0 hj ho;split at hq <;> try (simp at hq;done)
 rename_i hc;obtain ⟨htip,hsz⟩:=hc;split at hq <;> simp at hq;rename_i a b hb;obtain ⟨rfl,rfl⟩:=hq;obtain ⟨d,h1,h2⟩:=run_underlying ht w;have:=cH (h2.trans hk);subst this;have hs:=b7 hj w;cases hx with
 | own _ _ _ ad m cap sz' es' fr' ho' hv =>
 rw [ho] at ho';cases ho';obtain ⟨rfl,hcap,ha⟩:=hv.2 htip;obtain ⟨_,q2,_,q4,_⟩:=wf.obj o _ ho;obtain ⟨g1,g2,g3⟩:=dE (P:=P) (cap:=cap) hb hl hh true oq;obtain ⟨ρ',r1,r2,r3,r4⟩:=i9 wf fr ho;have hi:=r4 off m (.slice ad m cap) htip (.own o off m ad m cap sz es fr0 ho ⟨by omega,fun _=>⟨rfl,hcap,ha⟩⟩);have hlen:(es.drop off).length=m:=by simp;omega
 rw [<- hlen] at hi;refine ⟨ρ',.slice (if cap=a then ad else ad.map (·.add (a * j.size))) (b - a) (cap - a),?_,?_,r1,r2,r3⟩
 . simp [Instr.sliceAt,h1,Instr.slice,g1,hs]
 . exact sd hi a b g2 oq j.size fun i x hx=>by
    grind
theorem yu {t ty:TypeId} {x:aa} {h':af} {v:Value} (hs:pu P h t x=some h') (wf:WF ρ h w) (fr:Fr E ρ h w) (hx:VR ρ h w x v) :
 ∃ ρ' w',(Builtin.clear_ #[t] ty #[v]).run P w=.ok (.tuple #[]) w'/\WF ρ' h' w'/\Le ρ h w ρ' h' w'/\Fr E ρ' h' w':=by
 unfold pu at hs;split at hs <;> try (simp at hs;done)
 rename_i o off len;split at hs <;> try (simp at hs;done)
 rename_i i ht;split at hs <;> try (simp at hs;done)
 rename_i e hk;split at hs <;> try (simp at hs;done)
 rename_i ei hei;split at hs <;> try (simp at hs;done)
 rename_i sz es fr0 ho;split at hs <;> simp at hs;rename_i hc;obtain ⟨htip,hfr,hz1,hz2⟩:=hc;subst hs;cases hx with
 | own _ _ _ a n cap sz' es' fr' ho' hv' =>
 rw [ho] at ho';cases ho';obtain ⟨hn,hcp,ha⟩:=hv'.2 htip;subst hn;obtain ⟨d,h1,h2⟩:=run_underlying ht w;have:=cH (h2.trans hk);subst this;have holen:o<h.length:=(List.getElem?_eq_some_iff.1 ho).1;rcases Nat.eq_zero_or_pos n with h0|hpos
 . subst h0;refine ⟨ρ,w,?_,?_⟩
   . cases a <;> simp [Builtin.clear_,h1]
   . have e1:h.set o (.arr sz (es.take off++List.replicate 0 (iA sz)) fr0)=h:=by
      have:es.take off=es:=List.take_of_length_le oq;rw [this,List.replicate_zero,List.append_nil];obtain ⟨_,hg⟩:=List.getElem?_eq_some_iff.1 ho;rw [<- hg];exact List.set_getElem_self holen
     rw [e1];exact ⟨wf,Le.refl _ _ _,fr⟩
 . obtain ⟨g1,g2,g3,g4,g5⟩:=wf.obj o _ ho;have hcap:0<(ρ.loc o).cap:=by omega
   have ha:=ha oq;subst ha;obtain ⟨c,ct,q1,q2,q3⟩:=g5 hcap;obtain ⟨z,hz,hcz⟩:=ff (ρ:=ρ) (h:=h) (w:=w) hei;have hzs:z.cells.size=sz:=by rw [hcz.1,hz1]
   have hblk:(am.arr sz es fr0).hasBlk (ρ.loc o)=true:=by simp [am.hasBlk,hcap]
   have hZl:(Builtin.zeroCells z.cells n).toList.length=n * sz:=by simp [Builtin.zeroCells,hzs]
   have hone:∀ u∈(Builtin.zeroCells z.cells n).toList,u.oneCell'=true:=by
    intro u hu;simp only [Builtin.zeroCells,Array.toList_map,List.mem_map] at hu;obtain ⟨k,hk',rfl⟩:=hu;have hl:k % z.cells.size<z.cells.size:=Nat.mod_lt _ oq;have hzl:k % z.cells.size<ei.zero.cells.length:=by omega
    have e1:(z.cells[k % z.cells.size]!)=(z.cells[k % z.cells.size]):=by simp [hl]
    rw [e1];have:=hcz.2 (k % z.cells.size) _ _ (List.getElem?_eq_getElem hzl) (Array.getElem?_eq_getElem hl);exact this.one (List.all_eq_true.1 hz2 _ (List.getElem_mem hzl))
   have hrow:off * sz+n * sz<=(ρ.loc o).cap * sz:=by rw [<- Nat.add_mul];exact Nat.mul_le_mul_right _ oq
   have hfrow:fr0 * sz<=off * sz:=Nat.mul_le_mul_right _ hfr;have hst:=run_storeCells_at P (ρ.loc o).blk ((ρ.loc o).base+off * sz) ct (Builtin.zeroCells z.cells n).toList 0 c w q1 (by rw [hZl];omega) hone;simp only [Nat.add_zero] at hst;refine ⟨ρ.put o (ρ.loc o) ρ.I,w.setRow (ρ.loc o).blk (c.toList.take ((ρ.loc o).base+off * sz)++(Builtin.zeroCells z.cells n).toList++c.toList.drop ((ρ.loc o).base+off * sz+(Builtin.zeroCells z.cells n).toList.length)).toArray,?_,?_⟩
   . obtain ⟨m,rfl⟩:∃ m,n=m+1:=⟨n - 1,by omega⟩;simp only [Builtin.clear_,List.getElem?_toArray,List.getElem?_cons_zero,Sem.run_bind,h1,Result.andThen_ok,hz,hst,Sem.run_pure]
   . refine ce (h':=h.set o (.arr sz (es.take off++List.replicate n (iA sz)) fr0)) (w':=w.setRow (ρ.loc o).blk (c.toList.take ((ρ.loc o).base+off * sz)++(Builtin.zeroCells z.cells n).toList++c.toList.drop ((ρ.loc o).base+off * sz+(Builtin.zeroCells z.cells n).toList.length)).toArray) wf fr o (.arr sz (es.take off++List.replicate n (iA sz)) fr0) (ρ.loc o) ρ.I (by simp [holen]) (fun o' e=>aY _ _ _ _ e)
      rfl rfl rfl zq (fun b hb hne=>dW _ _ _ _ (Ne.symm (hne _ ho hblk))) ?_ ?_ (fun b j hI=>.inl hI) (fun _=>.inr ⟨_,ho,hblk,rfl⟩) ?_ (dN wf ho) ?_
     . intro y' hy';rw [ho] at hy';cases hy';simp [am.grows];omega
     . intro b j hI;refine ⟨hI,?_⟩;by_cases hb:b=(ρ.loc o).blk
       . subst hb;have hnm:=wf.imm o _ j ho hblk hI;simp only [am.muts] at hnm;rw [cell_of_row _ _ _ _ _ _ (setRow_heap w _ c _ ct _ q1),cell_of_row _ _ _ _ _ _ q1,eJ _ _ _ (by rw [hZl];omega),if_neg oq]
       . exact bB (dW _ _ _ _ hb) j
     . intro j _ hI;exact wf.imm o (.arr sz es fr0) j ho hblk hI
     . intro le;refine ⟨by simp;omega,by simp;omega,g3,?_,fun _=>⟨_,ct,setRow_heap w _ c _ ct _ q1,by simp [hZl];omega,?_⟩⟩
       . intro i' x' hx';rw [List.getElem?_append] at hx';split at hx'
         . rw [List.getElem?_take] at hx';split at hx'
           . exact g4 i' x' hx'
           . cases hx'
         . rw [List.getElem?_replicate] at hx';split at hx' <;> cases hx';unfold iA;by_cases h1:sz=1
           . rw [Ow h1];simp [aa.cells,h1]
           . rw [nbf h1];simp [aa.cells]
       . intro i' x' j y' u hx' hy' hu;rw [eJ _ _ _ (by rw [hZl];omega),hZl] at hu;rw [List.getElem?_append] at hx';split at hx'
         . rename_i hlt;rw [List.length_take] at hlt;rw [List.getElem?_take,if_pos oq] at hx';have hj:j<sz:=by rw [<- g4 i' x' hx'];exact (List.getElem?_eq_some_iff.1 hy').1
           have hir:i' * sz+sz<=off * sz:=by rw [<- Nat.succ_mul];exact Nat.mul_le_mul_right _ oq
           rw [if_neg oq] at hu;exact (q3 i' x' j y' u hx' hy' hu).mono le
         . rw [List.getElem?_replicate] at hx';split at hx' <;> cases hx'
           have:y'=.any:=by
            unfold iA at hy';by_cases h1:sz=1
            . rw [Ow h1] at hy';have:=List.mem_of_getElem? hy';simpa [aa.cells] using this
            . rw [nbf h1] at hy';have:=List.mem_of_getElem? hy';simp only [cond_false,aa.cells] at this;exact (List.eq_of_mem_replicate this)
           subst this;exact .any _
theorem FT {ev:Operand->aa} {cev:Operand->Value} {o:Oper} {l:List (aa×af)} (hq:anx P h ev o.op=some l) (wf:WF ρ h w) (fr:Fr E ρ h w)
 (hev:∀ x,VR ρ h w (ev x) (cev x)) (hcst:∀ v,cev (.const v)=v):∃ r∈l,cC E ρ h w r.1 r.2 ((execOp cev o).run P w):=by
 obtain ⟨dst,op,ty,pos,after,guard⟩:=o;dsimp only at hq;unfold anx at hq;split at hq <;> try (simp at hq;done)
 . -- a slice held against nil
   rename_i op t x y t2;cases hn:BF y with
   | false =>
    rw [hn] at hq;simp only [cond_false] at hq
    have key:∀ b,l8 P t (ev x) (ev y)=some b->∃ us vs,cev x=.agg us/\cev y=.agg vs/\(eqGuard op t x y (.agg us) (.agg vs)).run P w=.ok () w/\(Op.equal t (.agg us) (.agg vs)).run P w=.ok b w:=by
     intro b hb;have hs:=qG (op:=op) hb (hev x) (hev y) 9998;have hb':=hb;unfold l8 at hb';split at hb' <;> try (simp at hb';done)
     rename_i xs ys ex ey;split at hb' <;> try (simp at hb';done)
     split at hb' <;> try (simp at hb';done)
     rename_i hc;have vx:=hev x;have vy:=hev y;rw [ex] at vx;rw [ey] at vy;obtain ⟨us,hus⟩:∃ us,cev x=.agg us:=by cases hce:cev x <;> rw [hce] at vx <;> cases vx;exact ⟨_,rfl⟩
     obtain ⟨vs,hvs⟩:∃ vs,cev y=.agg vs:=by cases hce:cev y <;> rw [hce] at vy <;> cases vy;exact ⟨_,rfl⟩
     rw [hus,hvs] at hs;exact ⟨us,vs,hus,hvs,ld x y hc.2.2,hs⟩
    split at hq <;> try (simp at hq;done)
    . rename_i b hb;simp only [Option.some.injEq] at hq;subst hq;obtain ⟨us,vs,e1,e2,e3,e4⟩:=key b hb;refine ⟨_,List.mem_singleton.2 rfl,cC.of_value (P:=P) (s:=(do eqGuard .eql t x y (cev x) (cev y);binOp .eql t (cev x) (cev y):Sem Value)) wf fr ⟨.bool b,?_,.bool _⟩⟩;rw [e1,e2,Sem.run_bind,e3];simp only [Result.andThen_ok,binOp];simp [e4]
    . rename_i b hb;simp only [Option.some.injEq] at hq;subst hq;obtain ⟨us,vs,e1,e2,e3,e4⟩:=key b hb;refine ⟨_,List.mem_singleton.2 rfl,cC.of_value (P:=P) (s:=(do eqGuard .neq t x y (cev x) (cev y);binOp .neq t (cev x) (cev y):Sem Value)) wf fr ⟨.bool !b,?_,.bool _⟩⟩;rw [e1,e2,Sem.run_bind,e3];simp only [Result.andThen_ok,binOp];simp [e4]
   | true =>
    rw [hn] at hq;simp only [cond_true] at hq
    have hy:y=.const (.slice none 0 0):=by
     unfold BF at hn
     grind
    subst hy;split at hq <;> try (simp at hq;done)
    rename_i i ht;split at hq <;> try (simp at hq;done)
    . rename_i e hk;simp only [Option.map_eq_some_iff] at hq;obtain ⟨bs,hb,rfl⟩:=hq;obtain ⟨a,n,c,hce,hm⟩:=s7 wf (hev x) hb;refine ⟨_,List.mem_map.2 ⟨_,hm,rfl⟩,?_⟩;obtain ⟨info,d',z,g1,g2,_,_,_,_,g7⟩:=iB ht;have hd:=cH (g7.trans hk);subst hd;have he:=kd (P:=P) w 9999 t e a n c g2;refine cC.of_value (P:=P) (s:=(do eqGuard .eql t x (.const (.slice none 0 0)) (cev x) (cev (.const (.slice none 0 0)));binOp .eql t (cev x) (cev (.const (.slice none 0 0))):Sem Value)) wf fr ⟨.bool a.isNone,?_,.bool _⟩;rw [hcst,hce,Sem.run_bind,bq P w .eql t x _ _ _ zq zq];simp only [Result.andThen_ok,binOp];simp [Op.equal,Op.maxDepth,he]
    . rename_i e hk;simp only [Option.map_eq_some_iff] at hq;obtain ⟨bs,hb,rfl⟩:=hq;obtain ⟨a,n,c,hce,hm⟩:=s7 wf (hev x) hb;refine ⟨_,List.mem_map.2 ⟨_,hm,rfl⟩,?_⟩;obtain ⟨info,d',z,g1,g2,_,_,_,_,g7⟩:=iB ht;have hd:=cH (g7.trans hk);subst hd;have he:=kd (P:=P) w 9999 t e a n c g2;refine cC.of_value (P:=P) (s:=(do eqGuard .neq t x (.const (.slice none 0 0)) (cev x) (cev (.const (.slice none 0 0)));binOp .neq t (cev x) (cev (.const (.slice none 0 0))):Sem Value)) wf fr ⟨.bool !a.isNone,?_,.bool _⟩;rw [hcst,hce,Sem.run_bind,bq P w .neq t x _ _ _ zq zq];simp only [Result.andThen_ok,binOp];simp [Op.equal,Op.maxDepth,he]
 . -- range
   rename_i t x;split at hq <;> try (simp at hq;done)
   rename_i i ht;split at hq <;> try (simp at hq;done)
   rename_i kt et m hk hx;split at hq <;> simp at hq;rename_i es hm;subst hq;refine ⟨_,List.mem_singleton.2 rfl,?_⟩;obtain ⟨d,h1,h2⟩:=run_underlying ht w;have:=oL (h2.trans hk);subst this;have hv:=hev x;rw [hx] at hv
   obtain ⟨es',hce⟩:∃ es',h[m]?=some (.map es')/\cev x=.map (some (ρ.loc m).blk):=by
    cases hce:cev x <;> rw [hce] at hv <;> cases hv
    grind
   obtain ⟨_,hce⟩:=hce;obtain ⟨ms,clock,q1,q2,q3,q4⟩:=wf.obj m _ hm;obtain ⟨ρ',p1,p2,p3,p4⟩:=E3 wf fr hm q1;refine cC.of_value' ⟨ρ',_,.pointer (some ⟨(ρ'.loc h.length).blk,0,none⟩),?_,?_,p1,p2,p3⟩
   . rw [p4];simp [Instr.range,h1,hce,getObj,Sem.run,q1,newObj]
   . exact .itr _ _ _ (getElem?_append_one _ _)
 . -- next
   rename_i it;split at hq <;> try (simp at hq;done)
   rename_i o hx;split at hq <;> try (simp at hq;done)
   rename_i m left ho;split at hq <;> try (simp at hq;done)
   rename_i es hm;have hv:=hev it;rw [hx] at hv
   have hce:cev it=.pointer (some ⟨(ρ.loc o).blk,0,none⟩):=by
    cases hce:cev it <;> rw [hce] at hv <;> cases hv
    rfl
   obtain ⟨since,seen,last,g1,es',ms,clock,g2,g3,rfl,g5,g6,g7,g8,g9⟩:=wf.obj o _ ho;rw [hm] at g2;cases g2;obtain ⟨ms',clock',q1,q2,q3,q4⟩:=wf.obj m _ hm;rw [g3] at q1;cases q1
   have hborn:∀ (i:Nat) e,ms[i]?=some e->e.born<since:=by
    intro i e he;have hlt:i<es.length:=by rw [<- q2];exact (Array.getElem?_eq_some_iff.1 he).1
    exact (q3 i _ e (List.getElem?_eq_getElem hlt) he).2.2
   have hchk:(!seen.isEmpty && !ms.isEmpty && ms.all (fun e=>decide (e.born >= last)))=false:=by
    cases hse:seen.isEmpty with
    | true=>simp
    | false =>
     have hl:=g6 hse;subst hl;cases hme:ms.isEmpty with
     | true=>simp
     | false =>
      have hpos:0<ms.size:=by
       grind
      grind
   obtain ⟨f1,f2⟩:=zi hborn (fun e=>!seen.contains e.born);have hgo:(getObj (ρ.loc o).blk).run P w=.ok (.mapIter (some (ρ.loc m).blk) since seen last) w:=by simp [getObj,Sem.run,g1]
   have hgm:(getObj (ρ.loc m).blk).run P w=.ok (.map ms since) w:=by simp [getObj,Sem.run,g3]
   obtain ⟨msg,hrun⟩:∃ msg:String,(Instr.next (cev it) false ty).run P w=(((choose (.mapNext ((if (ms.filter (fun e:MapEntry=>!seen.contains e.born)).isEmpty then #[none] else #[])++(ms.filter (fun e:MapEntry=>!seen.contains e.born)).map some).size)).run P w).andThen fun c w1 =>
    (match ((if (ms.filter (fun e:MapEntry=>!seen.contains e.born)).isEmpty then #[none] else #[])++(ms.filter (fun e:MapEntry=>!seen.contains e.born)).map some)[c]? with
     | some (some e)=>do
      setObj (ρ.loc o).blk (.mapIter (some (ρ.loc m).blk) since (seen.push e.born) since)
      pure (.tuple #[.bool true,e.key,e.val])
     | some none=>pure (.tuple #[.bool false])
     | none=>stuck msg:Sem Value).run P w1):=by
    apply Exists.intro;rw [hce];simp only [Instr.next,Sem.run_bind,hgo,hgm,Result.andThen_ok,hchk,f1,f2,Bool.false_eq_true,if_false,Array.append_empty];rfl
   generalize hF:ms.filter (fun e=>!seen.contains e.born)=F at hrun
   have hmem:∀ e,e∈F->∃ k,ms[k]?=some e/\k∈left.1:=by
    intro e he;rw [<- hF,Array.mem_filter] at he;obtain ⟨k,hk,rfl⟩:=Array.getElem_of_mem he.1
    grind
   split at hq
   . -- the end
     rename_i hl;simp at hq;subst hq;refine ⟨_,List.mem_singleton.2 rfl,?_⟩
     have hFe:F=#[]:=by
      rcases Nat.eq_zero_or_pos F.size with e|e
      . grind
      . obtain ⟨k,_,hk⟩:=hmem F[0] (Array.getElem_mem e)
        grind
     subst hFe;obtain ⟨c,w1,hc,hlt,hw1⟩:=lJ P w 1 oq;have hc0:c=0:=by omega
     subst hc0;have hst:=l6 (w':=w1) wf fr ρ.I (by rcases hw1 with rfl|rfl <;> rfl) (by rcases hw1 with rfl|rfl <;> rfl) (by rcases hw1 with rfl|rfl <;> rfl) (by rcases hw1 with rfl|rfl <;> exact Nat.le_refl _) (by rcases hw1 with rfl|rfl <;> exact fun _ _=>rfl) (fun _ _ h=>h) (fun _ _ h=>.inl h);refine cC.of_value' ⟨ρ,w1,.tuple #[.bool false],?_,?_,hst.1,hst.2.1,hst.2.2⟩
     . rw [hrun];simp only [Array.isEmpty_empty,if_true,Array.map_empty,Array.append_empty];rw [show (#[none]:Array (Option MapEntry)).size=1 from rfl,hc];rfl
     . refine .tup _ _ rfl fun j x v hx hv=>?_
       match j with
       | 0=>simp at hx hv;subst hx hv;exact .bool _
       | j+1=>simp at hx
   . rename_i i0 l0 hl;simp only [Option.some.injEq] at hq;subst hq
     have hne:F.isEmpty=false:=by
      cases hfe:F.isEmpty with
      | false=>rfl
      | true =>
       have hFe:F=#[]:=by simpa using hfe
       have hi0:i0∈left.1:=by rw [hl];simp
       have hlt:=g9 i0 hi0;have h0:=(g7 i0 _ (Array.getElem?_eq_getElem hlt)).2 hi0
       have:ms[i0]∈F:=by
        rw [<- hF,Array.mem_filter];exact ⟨Array.getElem_mem hlt,by rw [h0];rfl⟩
       rw [hFe] at this;simp at this
     have hpos:0<F.size:=by
      rcases Nat.eq_zero_or_pos F.size with e|e
      . have:F=#[]:=Array.eq_empty_of_size_eq_zero e;rw [this] at hne;simp at hne
      . exact e
     obtain ⟨c,w1,hc,hlt,hw1⟩:=lJ P w F.size hpos;obtain ⟨k,hk1,hk2⟩:=hmem F[c] (Array.getElem_mem hlt);have hkes:k<es.length:=by rw [<- q2];exact (Array.getElem?_eq_some_iff.1 hk1).1
     have hkv:=List.getElem?_eq_getElem hkes;obtain ⟨v1,v2,_⟩:=q3 k _ _ hkv hk1;refine ⟨(.tup [.bool true,es[k].1,es[k].2],h.set o (.iter m (left.1.filter (fun j=>!(Nat.beq j k)),some k))),?_,?_⟩
     . rw [<- hl];exact List.mem_filterMap.2 ⟨k,hk2,by rw [hkv];rfl⟩
     . have hw1h:w1.heap=w.heap:=by rcases hw1 with rfl|rfl <;> rfl
       have holen:o<h.length:=(List.getElem?_eq_some_iff.1 ho).1;have hmo:m≠o:=by intro e;rw [e,ho] at hm;cases hm
       have hst:=ce (h':=h.set o (.iter m (left.1.filter (fun j=>!(Nat.beq j k)),some k))) (w':={ w1 with heap:=w1.heap.setIfInBounds (ρ.loc o).blk (.mapIter (some (ρ.loc m).blk) since (seen.push F[c].born) since) }) wf fr o (.iter m (left.1.filter (fun j=>!(Nat.beq j k)),some k)) (ρ.loc o) ρ.I (by simp [holen]) (fun o' e=>aY _ _ _ _ e)
        (by rcases hw1 with rfl|rfl <;> rfl) (by rcases hw1 with rfl|rfl <;> rfl) (by rcases hw1 with rfl|rfl <;> rfl) (by simp [hw1h])
        (fun b hb hne=>by
         have:=hne _ ho rfl;simp [hw1h,Array.getElem?_setIfInBounds_ne this])
        (by intro y hy;rw [ho] at hy;cases hy;rfl)
        (fun b j hI=>by
         refine ⟨hI,bB ?_ j⟩
         have hne:(ρ.loc o).blk≠b:=by
          rintro rfl;exact wf.imm o _ j ho rfl hI trivial
         simp [hw1h,Array.getElem?_setIfInBounds_ne hne])
        (fun b j hI=>.inl hI) (fun _=>.inr ⟨_,ho,rfl,rfl⟩)
        (fun j _ hI=>absurd trivial (wf.imm o _ j ho rfl hI)) (ro wf ho)
        (fun le=>by
         have hblt:(ρ.loc o).blk<w.heap.size:=wf.lt o _ ho rfl
         have hbne:(ρ.loc o).blk≠(ρ.loc m).blk:=by
          intro e;exact hmo (wf.inj o _ m _ ho hm rfl rfl e).symm
         refine ⟨since,seen.push F[c].born,since,?_,es,ms,since,?_,?_,rfl,Nat.le_refl _,fun _=>rfl,?_,?_,?_⟩
         . rw [Ren.put_other _ _ _ _ _ hmo];simp [hw1h,hblt]
         . rw [aY _ _ _ _ hmo];exact hm
         . rw [Ren.put_other _ _ _ _ _ hmo];simp [hw1h,Array.getElem?_setIfInBounds_ne hbne];exact g3
         . intro i e he;rw [Array.contains_push];simp only [List.mem_filter,Bool.or_eq_false_iff];rw [<- g7 i e he];constructor
           . rintro ⟨b,a⟩;refine ⟨b,?_⟩;simp only [Bool.not_eq_true'];refine nbf ?_;rintro rfl;rw [he] at hk1;cases hk1;simp at a
           . rintro ⟨a,b⟩;refine ⟨a,?_⟩;simp only [Bool.not_eq_true'] at b;simp only [beq_eq_false_iff_ne,ne_eq];intro e2;have:=q4 i k e _ he hk1 e2;subst this;rw [Nat.beq_refl] at b;simp at b
         . intro i hi;simp at hi;subst hi;exact ⟨F[c],hk1,by simp⟩
         . intro i hi;exact g9 i (List.mem_filter.1 hi).1)
       refine cC.of_value' ⟨_,_,.tuple #[.bool true,F[c].key,F[c].val],?_,?_,hst.1,hst.2.1,hst.2.2⟩
       . rw [hrun];have hsz:((if F.isEmpty=true then #[none] else #[])++Array.map some F).size=F.size:=by rw [hne];simp
         rw [hsz,hc];have hget:((if F.isEmpty=true then #[none] else #[])++Array.map some F)[c]?=some (some F[c]):=by rw [hne];simp [hlt]
         simp only [Result.andThen_ok,hget];have hg1:w1.heap[(ρ.loc o).blk]?=some (.mapIter (some (ρ.loc m).blk) since seen last):=by rw [hw1h];exact g1
         simp [setObj,Sem.run,hg1]
       . refine (VR.tup _ _ rfl fun j x v hx hv=>?_).mono hst.2.1
         match j with
         | 0=>simp at hx hv;subst hx hv;exact .bool _
         | 1=>simp at hx hv;subst hx hv;exact v1
         | 2=>simp at hx hv;subst hx hv;exact v2
         | j+3=>simp at hx
 . -- entry
   rename_i it;split at hq <;> try (simp at hq;done)
   rename_i o hx;split at hq <;> try (simp at hq;done)
   rename_i m left i ho;split at hq <;> try (simp at hq;done)
   rename_i es hm;split at hq <;> simp at hq;rename_i kv hkv;subst hq;refine ⟨_,List.mem_singleton.2 rfl,?_⟩;have hv:=hev it;rw [hx] at hv
   have hce:cev it=.pointer (some ⟨(ρ.loc o).blk,0,none⟩):=by
    cases hce:cev it <;> rw [hce] at hv <;> cases hv
    rfl
   obtain ⟨since,seen,last,g1,es',ms,clock,g2,g3,rfl,g5,g6,g7,g8,g9⟩:=wf.obj o _ ho;rw [hm] at g2;cases g2;obtain ⟨ms',clock',q1,q2,q3,q4⟩:=wf.obj m _ hm;rw [g3] at q1;cases q1;obtain ⟨e,he,hback⟩:=g8 i rfl
   have hne:seen.isEmpty=false:=by
    cases hse:seen.isEmpty with
    | false=>rfl
    | true =>
     have:seen=#[]:=by simpa using hse
     rw [this] at hback;simp at hback
   have hl:=g6 hne;subst hl
   have hfind:ms.find? (fun x=>x.born==e.born)=some e:=by
    rw [Array.find?_eq_some_iff_getElem];obtain ⟨hi,he'⟩:=Array.getElem?_eq_some_iff.1 he;refine ⟨by simp,i,hi,he',fun j hj=>?_⟩;simp only [Bool.not_eq_true',beq_eq_false_iff_ne,ne_eq];intro hb;have:=q4 j i _ e (Array.getElem?_eq_getElem oq) he hb;omega
   have hgo:(getObj (ρ.loc o).blk).run P w=.ok (.mapIter (some (ρ.loc m).blk) last seen last) w:=by simp [getObj,Sem.run,g1]
   have hgm:(getObj (ρ.loc m).blk).run P w=.ok (.map ms last) w:=by simp [getObj,Sem.run,g3]
   obtain ⟨v1,v2,_⟩:=q3 i kv e hkv he;refine cC.of_value wf fr ⟨.tuple #[e.key,e.val],?_,?_⟩
   . rw [hce];simp only [Instr.entry,Sem.run_bind,hgo,hgm,Result.andThen_ok,hback,hfind,bne_self_eq_false,Bool.false_eq_true,if_false,Sem.run_pure]
   . refine .tup _ _ rfl fun j x v hx hv=>?_
     match j with
     | 0=>simp at hx hv;subst hx hv;exact v1
     | 1=>simp at hx hv;subst hx hv;exact v2
     | j+2=>simp at hx
 . -- clear
   rename_i b args ats;unfold RW at hq;split at hq <;> try (simp at hq;done)
   rename_i t x e1 e2;simp only [Option.map_eq_some_iff] at hq;obtain ⟨h',hc,rfl⟩:=hq;refine ⟨_,List.mem_singleton.2 rfl,?_⟩;rw [ji] at e2;have hat:ats=#[t]:=by apply Array.ext';rw [e1]
   subst hat
   obtain ⟨y,hy⟩:∃ y,args=#[y]:=by
    have:args.toList.length=1:=by
     have:=congrArg List.length e2;simpa using this
    match hl:args.toList,this with
    | [y],_=>exact ⟨y,by apply Array.ext';rw [hl]⟩
   subst hy;simp only [List.map_cons,List.map_nil,List.cons.injEq,and_true] at e2;obtain ⟨ρ',w',g1,g2,g3,g4⟩:=yu (ty:=ty) hc wf fr (e2▸hev y);exact cC.of_value' (s:=Builtin.clear_ #[t] ty (#[y].map cev)) ⟨ρ',w',.tuple #[],by simpa using g1,.tup _ _ rfl zq,g2,g3,g4⟩
 . -- a part of an own array
   rename_i t x lo hi;simp only [Option.map_eq_some_iff] at hq;obtain ⟨r,hr,rfl⟩:=hq;refine ⟨_,List.mem_singleton.2 rfl,?_⟩
   have horel:∀ x:Option Operand,oF ρ h w (o4 ev x) (x.map cev):=by
    intro x;cases x
    . trivial
    . exact hev _
   obtain ⟨ρ',u,g1,g2,g3,g4,g5⟩:=uR hr wf fr (hev x) (horel lo) (horel hi);exact cC.of_value' (s:=Instr.sliceAt t (cev x) (lo.map cev) (hi.map cev) none) ⟨ρ',w,u,g1,g2,g3,g4,g5⟩
def RR (P:Program) (h:af) (t:TypeId) (len:Nat) (parts:List (Nat×aa)):Option (aa×af) :=
 match gQ P t len parts with
 | some (.full l)=>match aP P t with
  | some i=>match i.k with
   | .slice e=>match aP P e with
    | some j=>if 0<l.length then some (.own h.length 0 l.length,h++[.arr j.size l 0]) else none
    | none=>none
   | _=>none
  | none=>none
 | _=>none
theorem C7 {t:TypeId} {len:Nat} {parts:List (Nat×aa)} {q:aa×af} {vparts:Array (Nat×Value)} (hq0:RR P h t len parts=some q) (wf:WF ρ h w) (fr:Fr E ρ h w)
 (hm:parts.map (·.1)=vparts.toList.map (·.1)) (hv:∀ (i:Nat) p q,parts[i]?=some p->vparts.toList[i]?=some q->VR ρ h w p.2 q.2) :
 ∃ ρ' w' u,(Instr.buildSlice t len vparts).run P w=.ok u w'/\VR ρ' q.2 w' q.1 u/\WF ρ' q.2 w'/\Le ρ h w ρ' q.2 w'/\Fr E ρ' q.2 w':=by
 unfold RR at hq0;split at hq0 <;> try (simp at hq0;done)
 rename_i l' hq;unfold gQ at hq;split at hq <;> try (simp at hq;done)
 rename_i i ht;split at hq <;> try (simp at hq;done)
 rename_i e hk;split at hq <;> try (simp at hq;done)
 rename_i j hj;split at hq <;> simp at hq;rename_i hcnd;obtain ⟨hszp,hzl,hle⟩:=hcnd;simp only [ht,hk,hj] at hq0;split at hq0 <;> simp at hq0;rename_i hpos;subst hq0;obtain ⟨d,h1,h2⟩:=run_underlying ht w;have:=cH (h2.trans hk);subst this;have hsz:=b7 hj w;obtain ⟨z,hz,hcz1,hcz2⟩:=ff (ρ:=ρ) (h:=h) (w:=w) hj
 let c0:Array Value:=(Array.range (len * j.size)).map fun k=>(if len * j.size=0 then #[] else z.cells)[k % (if len * j.size=0 then #[] else z.cells).size]!
 have hzs:z.cells.size=j.size:=by omega
 have hsr0:SR ρ h w j.size (List.replicate len j.zero) c0:=by
  refine ⟨by simp [c0],?_,?_⟩
  . grind
  . intro k x j' y v hx hy hu
    have hkl:k<len:=by
     grind
    have hxe:=List.mem_of_getElem? hx;simp at hxe;obtain ⟨_,rfl⟩:=hxe;have hj':j'<j.size:=by rw [<- hzl];exact (List.getElem?_eq_some_iff.1 hy).1
    have hrow:k * j.size+j.size<=len * j.size:=by rw [<- Nat.succ_mul];exact Nat.mul_le_mul_right _ hkl
    have hne:len * j.size≠0:=by omega
    have hlt:k * j.size+j'<len * j.size:=by omega
    have hmod:(k * j.size+j') % j.size=j':=by rw [Nat.mul_comm,Nat.mul_add_mod,Nat.mod_eq_of_lt hj']
    grind
 obtain ⟨c',g1,g2,g3⟩:=kF (ρ:=ρ) (h:=h) (w:=w) j.size parts vparts.toList _ l' c0 hq hsr0 hm hv;simp only [List.length_replicate] at g3;obtain ⟨s1,s2,s3⟩:=g2
 have hrun:(Instr.buildSlice t len vparts).run P w=.ok (.slice (some ⟨w.heap.size,0,none⟩) len len) (w.alloc (.cells c' e)):=by
  have hlim:¬ (len * j.size > 2 ^ 24):=by omega
  simp only [Instr.buildSlice,Sem.run_bind,h1,Result.andThen_ok,hsz,hlim,if_false,Sem.run_pure,Sem.run_ite];have:Instr.fill (fun i=>some (i * j.size,j.size)) ((Array.range (len * j.size)).map fun k=>(if len * j.size=0 then #[] else z.cells)[k % (if len * j.size=0 then #[] else z.cells).size]!) vparts.toList=some c':=g1;by_cases h0:len * j.size=0
  . simp only [h0,if_true] at this ⊢;rw [this];simp [newRow]
  . simp only [h0,if_false,hz,Result.andThen_ok] at this ⊢;simp [this,newRow]
 refine ⟨ρ.put h.length ⟨w.heap.size,0,len⟩ ρ.I,_,_,hrun,?_⟩
 have hst:=ce (h':=h++[.arr j.size l' 0]) (w':=w.alloc (.cells c' e)) wf fr h.length (.arr j.size l' 0) ⟨w.heap.size,0,len⟩ ρ.I (getElem?_append_one _ _) (fun o' ho=>bE _ _ _ ho)
  rfl rfl rfl zq (fun b hb _=>heap_alloc_old w _ b hb) zq
  (fun b j hI=>⟨hI,bB (heap_alloc_old w _ b (wf.immlt b j hI)) j⟩) (fun b j hI=>.inl hI)
  (fun _=>.inl ⟨Nat.le_refl _,by simp⟩) (fun j _ hI=>absurd (wf.immlt _ j hI) zq) (cy wf)
  (fun le=>⟨Nat.zero_le _,by simp [g3],hszp,s2,fun _=>⟨_,e,heap_alloc_new w _,?_,?_⟩⟩)
 . refine ⟨?_,hst⟩;rw [<- g3];refine .own _ _ _ _ _ _ _ _ _ (getElem?_append_one _ _) ⟨by simp,fun _=>⟨rfl,?_,fun _=>?_⟩⟩
   . rw [Ren.put_same,g3];simp
   . rw [Ren.put_same,g3];simp
 . simp [s1,g3]
 . intro k x b y v hx hy hv;exact (s3 k x b y v hx hy (by simpa using hv)).mono le
def bso (P:Program) (h:af) (ev:Operand->aa):Op->Option (aa×af)
 | .buildSlice t n ps=>RR P h t n (eG ev ps.toList)
 | _=>none
theorem FD {ev:Operand->aa} {cev:Operand->Value} {o:Oper} {r:aa×af} (hq:bso P h ev o.op=some r) (wf:WF ρ h w) (fr:Fr E ρ h w)
 (hev:∀ x,VR ρ h w (ev x) (cev x)):cC E ρ h w r.1 r.2 ((execOp cev o).run P w):=by
 obtain ⟨dst,op,ty,pos,after,guard⟩:=o;dsimp only at hq;unfold bso at hq;split at hq <;> try (simp at hq;done)
 rename_i t n ps
 have hparts:(eG ev ps.toList).map (·.1)=(ps.map fun (i,x)=>(i,cev x)).toList.map (·.1) /\
  ∀ (i:Nat) p q,(eG ev ps.toList)[i]?=some p->(ps.map fun (i,x)=>(i,cev x)).toList[i]?=some q->VR ρ h w p.2 q.2:=by
  rw [nJ];refine ⟨by simp,fun i p q hp hq=>?_⟩
  grind
 exact cC.of_value' (C7 hq wf fr hparts.1 hparts.2)
end
end
end Go.Proofs.YtcpklndelobigaaGreatDoor.Abs
