/- A part of the proof: plain lemmas and walks. No condition. -/
import Derived.Test.YtcpklndelobigaaGreatDoorE1
set_option linter.all false
namespace Go.Proofs.YtcpklndelobigaaGreatDoor
open Go.Proofs.YtcpklndelobigaaGreatDoor.Abs
set_option maxRecDepth 20000
set_option maxHeartbeats 4000000
def Tb.cs (t:Tb):List aa:=[.str t.name,.imm (t.cols.map Co.v),.imm (t.key.map aa.str),.imm (t.refs.map Rf.v),.int .i64 (t.chk.kind),.str t.chk.name,.int .i64 (t.chk.n),.str t.chk.s,.imm (t.chk.names.map aa.str),.imm (t.chk.binds.map aa.str),.imm (t.chk.kids.map Ex.enc),.int .i64 (t.chk.pos),.int .i64 (t.chk.fin)]
def Dc.cs (d:Dc):List aa:=[.int .i64 (d.kind),.str d.name,.str d.sum.name,.imm (d.sum.ctors.map Ct.v),.str d.tab.name,.imm (d.tab.cols.map Co.v),.imm (d.tab.key.map aa.str),.imm (d.tab.refs.map Rf.v),.int .i64 (d.tab.chk.kind),.str d.tab.chk.name,.int .i64 (d.tab.chk.n),.str d.tab.chk.s,.imm (d.tab.chk.names.map aa.str),.imm (d.tab.chk.binds.map aa.str),.imm (d.tab.chk.kids.map Ex.enc),.int .i64 (d.tab.chk.pos),.int .i64 (d.tab.chk.fin),.imm [],.bool false,.int .i64 0,.str [],.int .i64 0,.imm [],.imm [],.int .i64 0,.str [],.int .i64 0,.str [],.imm [],.imm [],.imm [],.int .i64 0,.int .i64 0,.imm [],.int .i64 (d.na),.int .i64 (d.pos),.int .i64 (d.fin)]
def Dc.v (d:Dc):aa:=.agg d.cs
def Md.v (m:Md):aa:=.agg [.str m.name,.imm (m.decls.map Dc.v)]
def Pb.v (p:Pb):aa:=.agg [.str p.doc,.int .i64 (p.pos),.int .i64 (p.fin),.int .i64 (p.code),.imm (p.names.map aa.str)]
def Ls.v (l:List (List UInt8)):aa:=.imm (l.map .str)
theorem Tb.v_cs (t:Tb):t.v=.agg t.cs:=rfl
theorem cw (k:Nat):∀ (a b:List aa),aC k (a++b)=(aC k a && aC k b)
 | [],b=>rfl
 | x::a,b=>by simp only [List.cons_append,aC,cw k a b,Bool.and_assoc]
theorem cQ:∀ (a b:List aa),aF (a++b)=aF a++aF b
 | [],b=>rfl
 | x::a,b=>by simp only [List.cons_append,aF,cQ a b,List.append_assoc]
@[simp] theorem Tb.cs_bel (k:Nat) (t:Tb):aC k t.cs=true:=by simp [Tb.cs,aC,aa.bel]
@[simp] theorem Tb.cs_frz (h:af) (t:Tb):aN h t.cs=t.cs:=by simp [Tb.cs,aN,aa.frz]
@[simp] theorem Tb.cs_owns (t:Tb):aF t.cs=[]:=by simp [Tb.cs,aF,aa.owns]
@[simp] theorem Dc.cs_bel (k:Nat) (t:Dc):aC k t.cs=true:=by simp [Dc.cs,aC,aa.bel]
@[simp] theorem Dc.cs_frz (h:af) (t:Dc):aN h t.cs=t.cs:=by simp [Dc.cs,aN,aa.frz]
@[simp] theorem Dc.cs_owns (t:Dc):aF t.cs=[]:=by simp [Dc.cs,aF,aa.owns]
@[simp] theorem Dc.frz_v (h:af) (c:Dc):c.v.frz h=c.v:=by simp [Dc.v,aa.frz]
@[simp] theorem Dc.bel_v (k:Nat) (c:Dc):c.v.bel k=true:=by simp [Dc.v,aa.bel]
@[simp] theorem Dc.owns_v (c:Dc):c.v.owns=[]:=by simp [Dc.v,aa.owns]
@[simp] theorem Uv (h:af) (l:List (Dc)):aN h (l.map Dc.v)=l.map Dc.v:=bf h (Dc.frz_v h) l
@[simp] theorem Uq (k:Nat) (l:List (Dc)):aC k (l.map Dc.v)=true:=cG k (Dc.bel_v k) l
@[simp] theorem R5 (l:List (Dc)):aF (l.map Dc.v)=[]:=cj Dc.owns_v l
@[simp] theorem Md.frz_v (h:af) (c:Md):c.v.frz h=c.v:=by simp [Md.v,aa.frz,aN,bf _ (Dc.frz_v _),cG _ (Dc.bel_v _),cj Dc.owns_v]
@[simp] theorem Md.bel_v (k:Nat) (c:Md):c.v.bel k=true:=by simp [Md.v,aa.bel,aC,bf _ (Dc.frz_v _),cG _ (Dc.bel_v _),cj Dc.owns_v]
@[simp] theorem Md.owns_v (c:Md):c.v.owns=[]:=by simp [Md.v,aa.owns,aF,bf _ (Dc.frz_v _),cG _ (Dc.bel_v _),cj Dc.owns_v]
@[simp] theorem US (h:af) (l:List (Md)):aN h (l.map Md.v)=l.map Md.v:=bf h (Md.frz_v h) l
@[simp] theorem zu (k:Nat) (l:List (Md)):aC k (l.map Md.v)=true:=cG k (Md.bel_v k) l
@[simp] theorem R8 (l:List (Md)):aF (l.map Md.v)=[]:=cj Md.owns_v l
@[simp] theorem Pb.frz_v (h:af) (c:Pb):c.v.frz h=c.v:=by simp [Pb.v,aa.frz,aN]
@[simp] theorem Pb.bel_v (k:Nat) (c:Pb):c.v.bel k=true:=by simp [Pb.v,aa.bel,aC]
@[simp] theorem Pb.owns_v (c:Pb):c.v.owns=[]:=by simp [Pb.v,aa.owns,aF]
@[simp] theorem Tv (h:af) (l:List (Pb)):aN h (l.map Pb.v)=l.map Pb.v:=bf h (Pb.frz_v h) l
@[simp] theorem z6 (k:Nat) (l:List (Pb)):aC k (l.map Pb.v)=true:=cG k (Pb.bel_v k) l
@[simp] theorem Sa (l:List (Pb)):aF (l.map Pb.v)=[]:=cj Pb.owns_v l
@[simp] theorem Ls.frz_v (h:af) (c:List (List UInt8)):(Ls.v c).frz h=(Ls.v c):=by simp [Ls.v,aa.frz,aN]
@[simp] theorem Ls.bel_v (k:Nat) (c:List (List UInt8)):(Ls.v c).bel k=true:=by simp [Ls.v,aa.bel,aC]
@[simp] theorem Ls.owns_v (c:List (List UInt8)):(Ls.v c).owns=[]:=by simp [Ls.v,aa.owns,aF]
@[simp] theorem Vt (h:af) (l:List (List (List UInt8))):aN h (l.map Ls.v)=l.map Ls.v:=bf h (Ls.frz_v h) l
@[simp] theorem U7 (k:Nat) (l:List (List (List UInt8))):aC k (l.map Ls.v)=true:=cG k (Ls.bel_v k) l
@[simp] theorem R4 (l:List (List (List UInt8))):aF (l.map Ls.v)=[]:=cj Ls.owns_v l
theorem om (c:Dc):(Dc.v c).cells=c.cs:=rfl
theorem sR (c:Md):(Md.v c).cells=[.str c.name,.imm (c.decls.map Dc.v)]:=rfl
@[simp] theorem VZ (k:Nat) (l:List (List UInt8×Bool)):((ay aa.str aa.bool l).all fun e=>e.1.bel k && e.2.bel k)=true:=by
 simp [ay,aa.bel,List.all_eq_true]
@[simp] theorem VX (k:Nat) (l:Tm_):((ay aa.str Tb.v l).all fun e=>e.1.bel k && e.2.bel k)=true:=by
 simp [ay,aa.bel,List.all_eq_true]
def hpF (Z:List Sm) (M:Tm_) (s:BP):af:=[.box [.imm (Z.map Sm.v),.map 1,.map 2,.own 3 0 s.2.length],.map (ay aa.str Tb.v M),.map (ay aa.str aa.bool s.1),.arr 5 (s.2.map Pb.v) 0]
abbrev LW (d:Dc):=(d.na)+((d.name.length:Nat):Int)
theorem Db (Z:List Sm) (M:Tm_) (s:BP) (doc:List UInt8) (d:Dc) (w:List (List UInt8)) (hb:s.2.length<1000000) (hn:d.name.length<1000000000) (hna:-1000000000000<=d.na/\d.na<=1000000000000):av cx 25 [.ptr 0 0,.str doc,Dc.v d,.imm (w.map aa.str)] (hpF Z M s) (fun v h=>v=(.tup [])/\h=hpF Z M (b9 doc d w s)):=by
 refine fI 34 4 [] Tryz.func25 kq ?_;refine zZ (fun _=>[(0,.ptr 0 0),(1,.str doc),(2,Dc.v d),(3,.imm (w.map aa.str))]) (fun _=>[.box [.imm (Z.map Sm.v),.map 1,.map 2,.own 3 0 s.2.length],.map (ay aa.str Tb.v M),.map (ay aa.str aa.bool s.1),.arr 5 (s.2.map Pb.v) 0]) ?_ ?_;apply zW 1 (mT [(6,.ptr 4 0)] [2]) (mH [] [.box (Dc.cs d)]);apply ai;refine zD cxM kq ax ?_;apply qu 6;refine qD (c5 (o:=2) (ek:=aa.str) (ev:=aa.bool) (l:=s.1) (k:=d.name) (x:=true) eN kq fd ty9 rfl kq kq) ?_ ?_ ?_ ?_;refine bY kq ⟨kq,?_⟩;refine zE (fun _=>[(0,.ptr 0 0),(1,.str doc),(3,.imm (w.map aa.str)),(6,.ptr 4 0)]) (fun _=>[.box [.imm (Z.map Sm.v),.map 1,.map 2,.own 3 0 s.2.length],.map (ay aa.str Tb.v M),.map (ay aa.str aa.bool (bJ d.name true s.1)),.arr 5 (s.2.map Pb.v) 0,.box (Dc.cs d)]) ?_ ?_;refine zD cxM kq Cy ?_;apply qu 13;refine qd (az (a:=(d.na)) (b:=((d.name.length:Nat):Int)) kq oq oq) ?_ ?_ ?_ ?_;apply qu 3;refine qD (aX (o:=3) (len:=s.2.length) (l:=s.2) (xs:=[(Pb.mk doc (d.na) (LW d) 8 w)]) (enc:=Pb.v) (sz:=5) (fr:=0) (x:=(.full [.agg [.str doc,.int .i64 (d.na),.int .i64 (LW d),.int .i64 8,.imm (w.map aa.str)]])) kq Us Wx Us rfl kq rfl (by first|rfl|simp) kq ⟨by decide,(by kernel_rfl)⟩ (fun _=>rfl) (by simp;omega) (by simp;omega)) ?_ ?_ ?_ ?_;apply qu 3;refine bY kq ⟨kq,?_⟩;refine aO (l:=[]) (.inl rfl) kq (by rfl) (by simp [aZ]) (by simp [aZ]) ?_ ?_;refine Eq.trans (b:=[.box [.imm (Z.map Sm.v),.map 1,.map 2,.own 3 0 (s.2++[(Pb.mk doc (d.na) (LW d) 8 w)]).length],.map (ay aa.str Tb.v M),.map (ay aa.str aa.bool (bJ d.name true s.1)),.arr 5 ((s.2++[(Pb.mk doc (d.na) (LW d) 8 w)]).map Pb.v) 0]) kq ?_
 . simp [hpF,b9,L4,cS]
 . simp [am.belO,hpF,b9,cw,aC]
 iterate 17 kernel_rfl
theorem cJ (Z:List Sm) (M:Tm_) (s:BP) (doc:List UInt8) (d:Dc) (w:List (List UInt8)) (hb:s.2.length<1000000) (hn:d.name.length<1000000000) (hna:-1000000000000<=d.na/\d.na<=1000000000000):av cx 25 [.ptr 0 0,.str doc,Dc.v d,.full (w.map .str)] (hpF Z M s) (fun v h=>v=.tup []/\h=hpF Z M (b9 doc d w s)):=by
 refine nv ?_;have:=Db Z M s doc d w hb hn hna;simpa [aN,db,aF,aa.frz,aa.owns] using this
def w9 (n:List UInt8) (b:Bool) (s:BP):BP:=(bJ n b s.1,s.2)
theorem OE {a b:Nat} (h:((b:Nat):Int) > ((a:Nat):Int)):Nat.blt a b=true:=by rw [Nat.blt_eq];omega
theorem OP {a b:Nat} (h:¬ ((b:Nat):Int) > ((a:Nat):Int)):Nat.blt a b=false:=by
 cases e:Nat.blt a b with
 | false=>rfl
 | true=>rw [Nat.blt_eq] at e;omega
theorem wP {α:Type} (p:α->Bool) (d:α):∀ (l:List α) (k:Nat),k<l.length->(∀ i,i<k->p (l.getD i d)=false)->p (l.getD k d)=true->l.find? p=some (l.getD k d)
 | [],k,h,_,_=>by simp at h
 | x::l,0,_,_,hp=>by simp at hp;simp [List.find?,hp]
 | x::l,k+1,h,ha,hp=>by
  have h0:=ha 0 oq;simp at h0;have:=wP p d l k (by simpa using h) (fun i hi=>by have:=ha (i+1) oq;simpa using this) (by simpa using hp);simp only [List.find?,h0];rw [this];simp
theorem DR {α:Type} (p:α->Bool) (d:α) (l:List α) (ha:∀ i,i<l.length->p (l.getD i d)=false):l.find? p=none:=by
 rw [List.find?_eq_none];intro x hx;obtain ⟨i,hi,rfl⟩:=List.getElem_of_mem hx;have:=ha i hi;rw [List.getD_eq_getElem?_getD,List.getElem?_eq_getElem hi] at this;simpa using this
theorem Pt {l:List Co} {n:List UInt8} {k:Nat} (hk:k<l.length) (ha:∀ i,i<k->¬ (l.getD i Co.zero).name=n) (h:(l.getD k Co.zero).name=n):cp l n=l.getD k Co.zero/\aW l n=true:=by
 have:=wP (fun t:Co=>t.name==n) Co.zero l k hk (fun i hi=>by simpa using ha i hi) (by simpa using h);unfold cp aW;rw [this];exact ⟨rfl,rfl⟩
theorem Ph {l:List Co} {n:List UInt8} (ha:∀ i,i<l.length->¬ (l.getD i Co.zero).name=n):cp l n=Co.zero/\aW l n=false:=by
 have:=DR (fun t:Co=>t.name==n) Co.zero l (fun i hi=>by simpa using ha i hi);unfold cp aW;rw [this];exact ⟨rfl,rfl⟩
def k8 (l:List Co):Nat->List (List UInt8×Bool)
 | 0=>[]
 | i+1=>bJ (l.getD i Co.zero).name true (k8 l i)
theorem C0 (l:List Co) (i:Nat) (h:i<l.length) (n:List UInt8):aW (l.take (i+1)) n=(aW (l.take i) n || ((l.getD i Co.zero).name==n)):=by
 unfold aW;rw [cI l Co.zero i h,List.find?_append];cases (l.take i).find? _ with
 | some x=>rfl
 | none =>
  generalize l.getD i Co.zero=c;cases e:c.name==n <;> simp [List.find?,e]
theorem pV (l:List Co) (n:List UInt8):∀ i,i<=l.length->aV (k8 l i) n=aW (l.take i) n
 | 0,_=>rfl
 | i+1,h=>by
  rw [k8,dQ,pV l n i oq,C0 l i oq];by_cases e:n=(l.getD i Co.zero).name
  . rw [if_pos e,e];simp
  . rw [if_neg e,show ((l.getD i Co.zero).name==n)=false by simpa using fun q=>e q.symm,Bool.or_false]
section
variable {O:List UInt8->Bool} {U:Ty->Bool} {fst:List UInt8->Option Tb} {doc:List UInt8} {d:Dc} {s:BP} {i:Nat}
abbrev AE (d:Dc)(i:Nat):=d.tab.cols.getD i Co.zero
theorem pE {b c:Bool} (hb:uE O d i=b) (hc:U (AE d i).type=c):kT O U doc d (i+1) s=(bif c then (bif b then eO d.name (kT O U doc d i s) else kT O U doc d i s) else b9 doc d [(AE d i).name] (bif b then eO d.name (kT O U doc d i s) else kT O U doc d i s)):=by
 rw [kT,hb,hc]
theorem Jd (h:¬ O (AE d i).name=true):uE O d i=true:=by unfold uE;rw [Bool.eq_false_iff.2 h];rfl
theorem Kt (hi:i<d.tab.cols.length) (h:O (AE d i).name=true) (hs:aV (k8 d.tab.cols i) (AE d i).name=true):uE O d i=true:=by
 unfold uE;rw [h,<- pV _ _ _ (Nat.le_of_lt hi),hs];rfl
theorem H5 (hi:i<d.tab.cols.length) (h:O (AE d i).name=true) (hs:¬ aV (k8 d.tab.cols i) (AE d i).name=true):uE O d i=false:=by
 unfold uE;rw [h,<- pV _ _ _ (Nat.le_of_lt hi),Bool.eq_false_iff.2 hs];rfl
theorem tC (O:List UInt8->Bool) (U:Ty->Bool) (doc:List UInt8) (d:Dc) (s:BP):∀ i,(kT O U doc d i s).2.length<=s.2.length+i
 | 0=>Nat.le_refl _
 | i+1=>by
  have:=tC O U doc d s i;rw [kT];cases uE O d i <;> cases U (AE d i).type <;> simp [eO,b9] <;> omega
theorem xR {b c:Bool} (hb:aW d.tab.cols (d.tab.key.getD i [])=b) (hc:(d.tab.key.take i).contains (d.tab.key.getD i [])=c):lB doc d (i+1) s=(bif c then b9 doc d [d.tab.key.getD i []] (bif b then lB doc d i s else eO d.name (lB doc d i s)) else (bif b then lB doc d i s else eO d.name (lB doc d i s))):=by
 rw [lB,hb,hc]
theorem tA (doc:List UInt8) (d:Dc) (s:BP):∀ i,(lB doc d i s).2.length<=s.2.length+i
 | 0=>Nat.le_refl _
 | i+1=>by
  have:=tA doc d s i;rw [lB];cases aW d.tab.cols (d.tab.key.getD i []) <;> cases (d.tab.key.take i).contains (d.tab.key.getD i []) <;> simp [eO,b9] <;> omega
theorem I4 {c:Bool} (hc:fC fst d.tab i=c):cz fst doc d (i+1) s=(bif c then b9 doc d [(d.tab.refs.getD i Rf.zero).col,(d.tab.refs.getD i Rf.zero).tab] (w9 d.name (aV (cz fst doc d i s).1 d.name || pJ fst d i) (cz fst doc d i s)) else w9 d.name (aV (cz fst doc d i s).1 d.name || pJ fst d i) (cz fst doc d i s)):=by
 rw [cz,hc];rfl
theorem sS (fst:List UInt8->Option Tb) (doc:List UInt8) (d:Dc) (s:BP):∀ i,(cz fst doc d i s).2.length<=s.2.length+i
 | 0=>Nat.le_refl _
 | i+1=>by
  have:=sS fst doc d s i;rw [cz];cases fC fst d.tab i <;> simp [b9] <;> omega
end
theorem Ih {t:Tb} (h:((t.key.length:Nat):Int)<1):bn t=true:=by
 unfold bn;rw [show Nat.blt t.key.length 1=true by rw [Nat.blt_eq];omega];rfl
theorem JS {t:Tb} (h:((t.key.length:Nat):Int) > 3):bn t=true:=by
 unfold bn;rw [show Nat.blt 3 t.key.length=true by rw [Nat.blt_eq];omega,Bool.or_true]
theorem Ku {t:Tb} (h:¬ ((t.key.length:Nat):Int)<1) (h2:¬ ((t.key.length:Nat):Int) > 3):bn t=false:=by
 unfold bn;rw [show Nat.blt t.key.length 1=false from Bool.eq_false_iff.2 (by rw [Ne,Nat.blt_eq];omega),show Nat.blt 3 t.key.length=false from Bool.eq_false_iff.2 (by rw [Ne,Nat.blt_eq];omega)];rfl
theorem OA {t:Tb} {w:Ty} (h:¬ ((t.key.length:Nat):Int)=1):tgt t w=false:=by
 unfold tgt;rw [show Nat.beq t.key.length 1=false from Bool.eq_false_iff.2 (by rw [Ne,Nat.beq_eq];omega)];rfl
theorem PA {t:Tb} {w:Ty} (h:((t.key.length:Nat):Int)=1) (h2:¬ aW t.cols (t.key.getD 0 [])=true):tgt t w=false:=by
 unfold tgt;rw [Bool.eq_false_iff.2 h2,Bool.false_and,Bool.and_false]
abbrev xy (t:Tb):=cp t.cols (t.key.getD 0 [])
theorem Ed {t:Tb} {w:Ty} (h:((t.key.length:Nat):Int)=1) (h2:aW t.cols (t.key.getD 0 [])=true):tgt t w=(xy t).type.beq w:=by
 unfold tgt;rw [h2,show Nat.beq t.key.length 1=true by rw [Nat.beq_eq];omega];rfl
theorem qa (t:Co) :ae cx 121 [Co.v t] (.str t.name):=by
 refine fI 5 0 [(ResultVar.tmp 2)] Tryz.func121 kq ?_;refine zZ (fun _=>[(0,Co.v t)]) (fun _=>[]) ?_ ?_;apply zW 2 (mT [(1,.ptr 0 0)] [0]) (mH [] [.box [.str t.name,.int .i64 (t.type.kind),.str t.type.name,.int .i64 (t.type.n),.imm (t.type.names.map aa.str),.imm (t.type.kids.map Ty.enc)]]);refine zW 3 (fun _=>[(2,.str t.name)]) (fun _=>[.box [.str t.name,.int .i64 (t.type.kind),.str t.type.name,.int .i64 (t.type.n),.imm (t.type.names.map aa.str),.imm (t.type.kids.map Ty.enc)]]) ?_ ?_;refine aJ kq ?_;refine AW (s:=t.name) (.inr rfl) kq ?_
 . rfl
 iterate 3 kernel_rfl
theorem bk {p:Prop} (h:p:=by simp [Ty.v,Ex.v,Ct.v,Co.v,Rf.v,Sm.v,Tb.v_cs,Sc.v,Md.v,Pb.v,Ls.v,-List.map_take,-List.map_drop,-List.map_append]):p:=h
abbrev M0 (l:List Co)(k:Nat):List aa:=[.str (l.getD k Co.zero).name,.int .i64 ((l.getD k Co.zero).type.kind),.str (l.getD k Co.zero).type.name,.int .i64 ((l.getD k Co.zero).type.n),.imm ((l.getD k Co.zero).type.names.map aa.str),.imm ((l.getD k Co.zero).type.kids.map Ty.enc)]
abbrev G4 :List aa:=[.str [],.int .i64 0,.str [],.int .i64 0,.full [],.full []]
theorem fB (l:List Co) (n:List UInt8) (hn:l.length<1000000000):ae cx 129 [.imm (l.map Co.v),.fn (.func 121) [] [],.str n] (.tup [Co.v (cp l n),.bool (aW l n)]):=by
 refine fI 25 0 [(ResultVar.cell 6 45),(ResultVar.tmp 7)] Tryz.func129 kq ?_;refine zZ (fun _=>[(0,.imm (l.map Co.v)),(1,.fn (.func 121) [] []),(2,.str n)]) (fun _=>[]) ?_ ?_;apply zW 2 (mU [(6,.ptr 0 0)]) (mH [] [.box G4]);apply ai;apply zV 1;refine qy (aj (l:=l) (enc:=Co.v) kq em) ?_ ?_ ?_;apply zR 1 (mT [(11,.imm (l.map Co.v)),(12,nI l.length),(13,.int .i64 0)] [0]) id;apply qB 0;refine aT (σ:=Nat) (fun k=>[(1,.fn (.func 121) [] []),(2,.str n),(6,.ptr 0 0),(11,.imm (l.map Co.v)),(12,.int .i64 ((l.length:Nat):Int)),(13,.int .i64 ((k:Nat):Int))]) (fun k=>[.box G4]) (fun k=>k<=l.length/\∀ i,i<k->¬ (l.getD i Co.zero).name=n) (fun k=>l.length - k) 0 kq (by exact ⟨Nat.zero_le _,fun i h=>absurd h (Nat.not_lt_zero i)⟩) (fg kq kq aA (by simp [am.belO,aa.bel,aC])) ?_;rintro k ⟨hk,ha⟩;apply zW 1 (mU [(14,.bool (decide (((k:Nat):Int)<((l.length:Nat):Int))))]) id;apply ai;by_cases hb1:((k:Nat):Int)<((l.length:Nat):Int);apply qt (decide_eq_true hb1);apply qK;apply zZ (mT [] [14]) id;apply ai;apply qB 1;refine zO ?_ ?_;refine qy ((au (k:=.i64) (l:=l) (enc:=Co.v) (i:=((k:Nat):Int)) Co.zero kq em j5 (fun _=>rfl) oq oq).trans (congrArg (fun cs=>some (aa.pimm cs 0,_)) (de (l.getD k Co.zero)))) ?_ ?_ ?_;apply zR 3 (mU [(9,.ptr 1 0)]) (mH [] [.box (M0 l k)]);apply zV 2;refine qP (qa (l.getD k Co.zero)) bk bk bk kq ?_;apply zR 2 (mU [(21,.bool ((l.getD k Co.zero).name==n))]) id;by_cases hb2:(l.getD k Co.zero).name=n;apply qt (beq_iff_eq.2 hb2);refine zW 3 (fun _=>[(6,.ptr 0 0),(7,.bool true)]) (fun _=>[.box (M0 l k),.box (M0 l k)]) ?_ ?_;refine aJ kq ?_;apply iR;apply aR;apply aR;apply iR;apply aR;refine cd (l:=[.agg (M0 l k),.bool true]) (.inr rfl) kq ?_
 rotate_left
 iterate 2 kernel_rfl
 apply qf (beq_eq_false_iff_ne.2 hb2);refine qk ?_ ?_;refine ag ?_;apply ab;apply zZ (mT [] [9,21]) id;apply qo;refine qy (az (a:=((k:Nat):Int)) (b:=1) kq oq oq) ?_ ?_ ?_;apply qr 1;apply qe;refine ab ⟨k+1,?_,?_,(fg kq kq aA (by simp [am.belO,aa.bel,aC]))⟩
 . omega
 . refine ⟨by omega,fun i hi=>?_⟩;rcases Nat.lt_succ_iff_lt_or_eq.1 hi with h|h
   . exact ha i h
   . subst h;assumption
 iterate 20 kernel_rfl
 apply qf (decide_eq_false hb1);refine aK 0 kq kq ?_;apply ac;apply ac;refine ao ?_;apply ab;refine zZ (fun _=>[(6,.ptr 0 0)]) id ?_ ?_;apply zW 1 (mU [(10,.ptr 1 0)]) (mH [] [.box G4]);refine zW 3 (fun _=>[(6,.ptr 0 0),(7,.bool false)]) (fun _=>[.box G4,.box G4]) ?_ ?_;refine aJ kq ?_;refine cd (l:=[.agg G4,.bool false]) (.inr rfl) kq ?_
 rotate_left
 iterate 15 kernel_rfl
 all_goals
  first|(rw [(Pt (l:=l) (n:=n) (k:=k) oq ha aq).1,(Pt (l:=l) (n:=n) (k:=k) oq ha aq).2];simp [aZ,aa.frz,aN,Co.v];done)|(rw [(Ph (l:=l) (n:=n) (fun i hi=>ha i oq)).1,(Ph (l:=l) (n:=n) (fun i hi=>ha i oq)).2];simp [aZ,aa.frz,aN,Co.v,Co.zero,Ty.zero,Ty.kind,Ty.name,Ty.n,Ty.names,Ty.kids];done)
def dJ (l:List (List UInt8)) (s:List UInt8):Int:=match l.findIdx? (·==s) with
 | some i=>(i:Nat)
 | none=>-1
theorem pK {l:List (List UInt8)} {s:List UInt8} {k:Nat} (hk:k<l.length) (ha:∀ i,i<k->¬ s=l.getD i []) (h:s=l.getD k []):((k:Nat):Int)=dJ l s:=by
 have e:∀ i (h:i<l.length),l.getD i []=l[i]:=fun i h=>by rw [List.getD_eq_getElem?_getD,List.getElem?_eq_getElem h];rfl
 have:l.findIdx? (·==s)=some k:=by
  rw [List.findIdx?_eq_some_iff_getElem];refine ⟨hk,(by rw [<- e k hk,<- h];simp),fun j hj=>?_⟩;have:=ha j hj;rw [e j oq] at this;simpa using fun h=>this h.symm
 simp [dJ,this]
theorem pf {l:List (List UInt8)} {s:List UInt8} (ha:∀ i,i<l.length->¬ s=l.getD i []):-1=dJ l s:=by
 have:l.findIdx? (·==s)=none:=by
  rw [List.findIdx?_eq_none_iff];intro x hx;obtain ⟨i,hi,rfl⟩:=List.getElem_of_mem hx;have:=ha i hi;rw [List.getD_eq_getElem?_getD,List.getElem?_eq_getElem hi] at this;simpa using fun h:l[i]=s=>this h.symm
 simp [dJ,this]
theorem gB (l:List (List UInt8)) (s:List UInt8):decide (dJ l s >= 0)=l.contains s:=by
 rw [Bool.eq_iff_iff];simp only [decide_eq_true_eq,List.contains_iff_mem];unfold dJ;split
 . rename_i i hi;obtain ⟨h1,h2,_⟩:=List.findIdx?_eq_some_iff_getElem.1 hi;simp at h2;exact ⟨fun _=>h2▸List.getElem_mem h1,fun _=>by omega⟩
 . rename_i hi;rw [List.findIdx?_eq_none_iff] at hi;exact ⟨fun h=>by omega,fun h=>by have:=hi s h;simp at this⟩
theorem ye (l:List (List UInt8)) (s:List UInt8) (hn:l.length<1000000000):ae cx 207 [.imm (l.map aa.str),.str s] (.int .i64 (dJ l s)):=by
 refine fI 19 0 [(ResultVar.tmp 4)] Tryz.func207 kq ?_;refine zZ (fun _=>[(0,.imm (l.map aa.str)),(1,.str s)]) (fun _=>[]) ?_ ?_;apply zW 1 id id;apply ai;apply zV 1;refine qy (aj (l:=l) (enc:=aa.str) kq a6) ?_ ?_ ?_;apply zR 1 (mU [(7,nI l.length),(8,.int .i64 0)]) id;apply qB 0;refine aT (σ:=Nat) (fun k=>[(0,.imm (l.map aa.str)),(1,.str s),(7,.int .i64 ((l.length:Nat):Int)),(8,.int .i64 ((k:Nat):Int))]) (fun k=>[]) (fun k=>k<=l.length/\∀ i,i<k->¬ s=l.getD i []) (fun k=>l.length - k) 0 kq zq (fg kq kq aA zq) ?_;rintro k ⟨hk,ha⟩;apply zW 1 (mU [(9,.bool (decide (((k:Nat):Int)<((l.length:Nat):Int))))]) id;apply ai;by_cases hb1:((k:Nat):Int)<((l.length:Nat):Int);apply qt (decide_eq_true hb1);apply qK;apply zZ (mT [] [9]) id;apply ai;apply qB 1;apply zW 2 (mU [(5,nI k)]) id;apply zV 3;refine qy (au (k:=.i64) (l:=l) (enc:=aa.str) (i:=((k:Nat):Int)) [] kq a6 ty9 (fun _=>rfl) oq oq) ?_ ?_ ?_;refine zR 2 (fun _=>[(0,.imm (l.map aa.str)),(1,.str s),(5,nI k),(7,nI l.length),(8,nI k),(16,.bool (s==(l.getD k [])))]) (fun _=>[]) ?_ ?_;by_cases hb2:s=(l.getD k []);apply qt (beq_iff_eq.2 hb2);apply zV 2;refine qT ?_ ?_;apply iR;apply aR;apply aR;apply iR;apply aR;refine dm (n:=((k:Nat):Int)) (.inr rfl) kq ?_
 rotate_left
 iterate 3 kernel_rfl
 apply qf (beq_eq_false_iff_ne.2 hb2);refine qk ?_ ?_;refine ag ?_;apply ab;apply zZ (mT [] [5,16]) id;apply qo;refine qy (az (a:=((k:Nat):Int)) (b:=1) kq oq oq) ?_ ?_ ?_;apply qr 1;apply qe;refine ab ⟨k+1,?_,?_,(fg kq kq aA zq)⟩
 . omega
 . refine ⟨by omega,fun i hi=>?_⟩;rcases Nat.lt_succ_iff_lt_or_eq.1 hi with h|h
   . exact ha i h
   . subst h;assumption
 iterate 19 kernel_rfl
 apply qf (decide_eq_false hb1);refine aK 0 kq kq ?_;apply ac;apply ac;refine ao ?_;apply ab;refine zZ (fun _=>[]) (fun _=>[]) ?_ ?_;apply zV 1;refine qT ?_ ?_;refine dm (n:=(-1)) (.inr rfl) kq ?_
 rotate_left
 iterate 15 kernel_rfl
 all_goals
  first|exact pK oq ha aq|exact pf (fun i hi=>ha i oq)
theorem lk (l:List (List UInt8)) (s:List UInt8) (hn:l.length<1000000000):ae cx 149 [.imm (l.map aa.str),.str s] (.bool (l.contains s)):=by
 refine fI 9 0 [(ResultVar.tmp 4)] Tryz.func149 kq ?_;refine zZ (fun _=>[(0,.imm (l.map aa.str)),(1,.str s)]) (fun _=>[]) ?_ ?_;refine zW 1 (fun _=>[(0,.imm (l.map aa.str)),(1,.str s)]) (fun _=>[]) ?_ ?_;apply zV 2;refine qP (ye l s (by first|omega|(simp;omega))) bk bk bk kq ?_;refine qX 2 ?_ ?_;refine aD (b:=(decide ((dJ l s) >= 0))) (.inr rfl) kq ?_
 . exact gB l s
 iterate 4 kernel_rfl
theorem Mg {p:Prop} (h:p:=by first|omega|exact hz _):p:=h
theorem qE (t:Tb) (w:Ty) (hc:t.cols.length<1000000000) (hz:∀ n,(cp t.cols n).type.sz<100000000):ae cx 139 [Tb.v t,Ty.v w] (.bool (tgt t w)):=by
 refine fI 28 0 [(ResultVar.tmp 4)] Tryz.func139 kq ?_;refine zZ (fun _=>[(0,Tb.v t),(1,Ty.v w)]) (fun _=>[]) ?_ ?_;apply zW 3 (mT [(2,.ptr 0 0),(3,.ptr 1 0)] [0,1]) (mH [] [.box (Tb.cs t),w.bx]);apply ai;apply zV 2;refine qy (aj (l:=t.key) (enc:=aa.str) kq a6) ?_ ?_ ?_;apply zR 1 (mU [(10,.bool (((t.key.length:Nat):Int) != 1))]) id;by_cases hb1:((t.key.length:Nat):Int)=1;refine qf (x:=(((t.key.length:Nat):Int) != 1)) (bne_eq_false_iff_eq.2 hb1) ?_ ?_;apply qK;apply zZ (mT [] [10]) id;apply ai;refine zD cxM kq ax ?_;apply qu 4;refine qd (au (k:=.i64) (l:=t.key) (enc:=aa.str) (i:=0) [] kq a6 ty9 (fun _=>rfl) Mg Mg) ?_ ?_ ?_ ?_;apply qu 1;refine qQ (fB t.cols (t.key.getD 0 []) Mg) bk bk bk kq ?_;apply qu 6;refine bY kq ⟨kq,?_⟩;refine zE (fun _=>[(3,.ptr 1 0),(5,.ptr 2 0),(6,.bool (aW t.cols (t.key.getD 0 [])))]) (fun _=>[.box (Tb.cs t),w.bx,.box [.str (xy t).name,.int .i64 ((xy t).type.kind),.str (xy t).type.name,.int .i64 ((xy t).type.n),.imm ((xy t).type.names.map aa.str),.imm ((xy t).type.kids.map Ty.enc)]]) ?_ ?_;apply zV 2;by_cases hb2:(aW t.cols (t.key.getD 0 []))=true;refine zm [6,21,22] (hb2) ?_ ?_;apply qr 3;refine qP (jI ((xy t).type) w Mg) bk bk bk kq ?_;refine qX 2 ?_ ?_;refine aD (b:=(((xy t).type).beq w)) (.inr rfl) kq ?_
 rotate_left
 iterate 3 kernel_rfl
 refine zm [6,21,22] (Bool.eq_false_iff.2 hb2) ?_ ?_;refine qX 6 ?_ ?_;refine aD (b:=false) (.inr rfl) kq ?_
 rotate_left
 iterate 14 kernel_rfl
 refine qt (x:=(((t.key.length:Nat):Int) != 1)) (bne_iff_ne.2 hb1) ?_ ?_;apply zV 1;refine qT ?_ ?_;apply aR;refine aD (b:=false) (.inr rfl) kq ?_
 rotate_left
 iterate 10 kernel_rfl
 all_goals
  first|(rw [OA aq];done)|(rw [PA aq aq];done)|(rw [Ed aq aq];done)|(rw [Ed aq aq];assumption)
structure Tb.ok (t:Tb):Prop where
 c:t.cols.length<=100
 k:t.key.length<=100
 r:t.refs.length<=100
 z:∀ c∈t.cols,c.type.sz<100000000
structure Dc.ok (d:Dc):Prop where
 n:d.name.length<1000000000
 a:-1000000000000<=d.na/\d.na<=1000000000000
 t:d.tab.ok
theorem Tb.ok.co {t:Tb} (h:t.ok) (n:List UInt8):(cp t.cols n).type.sz<100000000:=by
 unfold cp;cases e:t.cols.find? (fun c=>c.name==n) with
 | none=>decide
 | some x=>exact h.z x (List.mem_of_find?_eq_some e)
theorem Tb.ok.at {t:Tb} (h:t.ok) (i:Nat):(t.cols.getD i Co.zero).type.sz<100000000:=by
 by_cases hi:i<t.cols.length
 . exact h.z _ (aH _ _ _ hi)
 . rw [List.getD_eq_getElem?_getD,List.getElem?_eq_none oq];decide
abbrev B0 (d:Dc)(k:Nat):List aa:=[.str (d.tab.cols.getD k Co.zero).name,.int .i64 ((d.tab.cols.getD k Co.zero).type.kind),.str (d.tab.cols.getD k Co.zero).type.name,.int .i64 ((d.tab.cols.getD k Co.zero).type.n),.imm ((d.tab.cols.getD k Co.zero).type.names.map aa.str),.imm ((d.tab.cols.getD k Co.zero).type.kids.map Ty.enc)]
abbrev ly (O:List UInt8->Bool)(U:Ty->Bool)(doc:List UInt8)(d:Dc)(k:Nat)(s:BP):=(kT O U doc d k (bif Nat.blt 8 d.tab.cols.length then b9 doc d [] s else s))
abbrev rM (d:Dc)(k:Nat):=(d.tab.cols.getD k Co.zero)
abbrev LA (doc:List UInt8)(d:Dc)(k:Nat):List (Nat×aa):=[(0,.ptr 0 0),(1,.str doc),(5,.ptr 4 0),(6,.map 5),(21,.imm (d.tab.cols.map Co.v)),(22,nI d.tab.cols.length),(23,nI k),(32,.map 5),(33,.ptr 6 0),(34,.str (rM d k).name),(35,.bool (aV (k8 d.tab.cols k) ((rM d k).name)))]
abbrev Ff (doc:List UInt8)(d:Dc)(k:Nat)(O:List UInt8->Bool)(U:Ty->Bool)(s:BP):=(b9 doc d [(rM d k).name] (eO d.name (ly O U doc d k s)))
abbrev Nm (d:Dc)(k:Nat):=(ay aa.str aa.bool (bJ ((rM d k).name) true (k8 d.tab.cols k)))
abbrev gW (M:Tm_):=(ay aa.str Tb.v M)
abbrev Py (doc:List UInt8)(d:Dc)(k:Nat):List (Nat×aa):=[(0,.ptr 0 0),(1,.str doc),(5,.ptr 4 0),(6,.map 5),(8,.ptr 6 0),(21,.imm (d.tab.cols.map Co.v)),(22,nI d.tab.cols.length),(23,nI k),(32,.map 5),(33,.ptr 6 0),(34,.str (rM d k).name),(35,.bool (aV (k8 d.tab.cols k) ((rM d k).name)))]
abbrev OM (Z:List Sm)(d:Dc)(O:List UInt8->Bool)(U:Ty->Bool)(doc:List UInt8)(k:Nat)(s:BP)(M:Tm_):List am:=[.box [.imm (Z.map Sm.v),.map 1,.map 2,.own 3 0 (eO d.name (ly O U doc d k s)).2.length],.map (gW M),.map (ay aa.str aa.bool (eO d.name (ly O U doc d k s)).1),.arr 5 ((eO d.name (ly O U doc d k s)).2.map Pb.v) 0,.box (Dc.cs d),.map (Nm d k),.box (B0 d k)]
abbrev Pj (Z:List Sm)(doc:List UInt8)(d:Dc)(k:Nat)(O:List UInt8->Bool)(U:Ty->Bool)(s:BP)(M:Tm_):List am:=[.box [.imm (Z.map Sm.v),.map 1,.map 2,.own 3 0 (Ff doc d k O U s).2.length],.map (gW M),.map (ay aa.str aa.bool (Ff doc d k O U s).1),.arr 5 ((Ff doc d k O U s).2.map Pb.v) 0,.box (Dc.cs d),.map (ay aa.str aa.bool (k8 d.tab.cols k)),.box (B0 d k)]
abbrev OZ (doc:List UInt8)(d:Dc)(k:Nat):List (Nat×aa):=[(0,.ptr 0 0),(1,.str doc),(5,.ptr 4 0),(6,.map 5),(21,.imm (d.tab.cols.map Co.v)),(22,nI d.tab.cols.length),(23,nI k),(32,.tup []),(33,.tup []),(34,.tup []),(35,.tup [])]
abbrev O7 (Z:List Sm)(doc:List UInt8)(d:Dc)(k:Nat)(O:List UInt8->Bool)(U:Ty->Bool)(s:BP)(M:Tm_):List am:=[.box [.imm (Z.map Sm.v),.map 1,.map 2,.own 3 0 (Ff doc d k O U s).2.length],.map (gW M),.map (ay aa.str aa.bool (Ff doc d k O U s).1),.arr 5 ((Ff doc d k O U s).2.map Pb.v) 0,.box (Dc.cs d),.map (Nm d k),.box (B0 d k)]
abbrev Pz (Z:List Sm)(d:Dc)(O:List UInt8->Bool)(U:Ty->Bool)(doc:List UInt8)(k:Nat)(s:BP):List (Nat×am):=[(0,.box [.imm (Z.map Sm.v),.map 1,.map 2,.own 3 0 (eO d.name (ly O U doc d k s)).2.length]),(2,.map (ay aa.str aa.bool (eO d.name (ly O U doc d k s)).1)),(3,.arr 5 ((eO d.name (ly O U doc d k s)).2.map Pb.v) 0)]
abbrev Ho (Z:List Sm)(s:BP)(M:Tm_):List am:=[.box [.imm (Z.map Sm.v),.map 1,.map 2,.own 3 0 s.2.length],.map (gW M),.map (ay aa.str aa.bool s.1),.arr 5 (s.2.map Pb.v) 0]
abbrev wJ (doc:List UInt8)(d:Dc)(k:Nat)(O:List UInt8->Bool)(U:Ty->Bool)(s:BP):=(b9 doc d [(rM d k).name] (ly O U doc d k s))
abbrev m5 (d:Dc)(k:Nat):=(k8 d.tab.cols k)
abbrev oo (U:Ty->Bool)(d:Dc)(k:Nat):=(!(U ((rM d k).type)))
abbrev l5 (d:Dc)(k:Nat):=((rM d k).name)
theorem bN {p:Prop} (h:p:=by simp [am.belO,hpF,Ty.v,Ex.v,Ct.v,Co.v,Rf.v,Sm.v,Tb.v_cs,Sc.v,Md.v,Pb.v,Ls.v]):p:=h
theorem nQ {p:Prop} (h:p:=by first|omega|exact hd.t.at _):p:=h
theorem u4 {p:Prop} (h:p:=by first|omega|(simp only [eO,w9];omega)):p:=h
abbrev AV (d:Dc)(k:Nat):=d.tab.cols.getD k Co.zero
abbrev cU (Z:List Sm):=Z.map Sm.v
theorem Bj (O:List UInt8->Bool) (U:Ty->Bool) (Z:List Sm) (M:Tm_) (s:BP) (doc:List UInt8) (d:Dc) (hd:d.ok) (hs:s.2.length<100000) (hlow:∀ i,i<d.tab.cols.length->ae cx 70 [.int .i64 2,.str (d.tab.cols.getD i Co.zero).name] (.bool (O (d.tab.cols.getD i Co.zero).name))) (hsto:∀ i,i<d.tab.cols.length->ae cx 136 [.imm (cU Z),(d.tab.cols.getD i Co.zero).type.v] (.bool (U (d.tab.cols.getD i Co.zero).type))):av cx 74 [.ptr 0 0,.str doc,Dc.v d] (hpF Z M s) (fun v h=>v=(.tup [])/\h=hpF Z M (jC O U doc d s)):=by
 have hdc:=hd.t.c;have hs1:(bif Nat.blt 8 d.tab.cols.length then b9 doc d [] s else s).2.length<=s.2.length+1:=by cases Nat.blt 8 d.tab.cols.length <;> simp [b9]
 refine fI 62 4 [] Tryz.func74 kq ?_;refine zZ (fun _=>[(0,.ptr 0 0),(1,.str doc),(2,Dc.v d)]) (fun _=>(Ho Z s M)) ?_ ?_;apply zW 1 (mT [(5,.ptr 4 0)] [2]) (mH [] [.box (Dc.cs d)]);refine lp (σ:=Unit) (fun _=>[(0,.ptr 0 0),(1,.str doc),(5,.ptr 4 0)]) (fun _=>[.box [.imm (cU Z),.map 1,.map 2,.own 3 0 (bif Nat.blt 8 d.tab.cols.length then b9 doc d [] s else s).2.length],.map (ay aa.str Tb.v M),.map (ay aa.str aa.bool (bif Nat.blt 8 d.tab.cols.length then b9 doc d [] s else s).1),.arr 5 ((bif Nat.blt 8 d.tab.cols.length then b9 doc d [] s else s).2.map Pb.v) 0,.box (Dc.cs d)]) (fun _=>True) kq ?_ ?_;apply zV 3;refine qy (aj (l:=d.tab.cols) (enc:=Co.v) kq em) ?_ ?_ ?_;apply zR 1 (mU [(13,.bool (decide (((d.tab.cols.length:Nat):Int) > 8)))]) id;by_cases hb1:((d.tab.cols.length:Nat):Int) > 8;apply qt (decide_eq_true hb1);apply qo;apply qr 3;refine qA (cJ Z M s doc d [] u4 hd.n hd.a) bN bN rfl bN bN kq ?_;apply qe;refine ab ⟨(),?_,(fg kq (hT (by (first|rw [OE aq]|rw [OP aq])) kq) aA bN)⟩
 . trivial
 iterate 4 kernel_rfl
 apply qf (decide_eq_false hb1);refine qk ?_ ?_;refine ab ⟨(),?_,(fg kq (hT (by (first|rw [OE aq]|rw [OP aq])) kq) aA bN)⟩
 . trivial
 iterate 6 kernel_rfl
 rintro _ _;apply zW 2 (mU [(6,.map 5)]) (mH [] [.map (ay aa.str aa.bool ([]:List (List UInt8×Bool)))]);apply zV 3;refine qy (aj (l:=d.tab.cols) (enc:=Co.v) kq em) ?_ ?_ ?_;apply zR 1 (mU [(21,.imm (d.tab.cols.map Co.v)),(22,nI d.tab.cols.length),(23,.int .i64 0)]) id;apply qB 0;refine aT (σ:=Nat) (fun k=>[(0,.ptr 0 0),(1,.str doc),(5,.ptr 4 0),(6,.map 5),(21,.imm (d.tab.cols.map Co.v)),(22,.int .i64 ((d.tab.cols.length:Nat):Int)),(23,.int .i64 ((k:Nat):Int))]) (fun k=>[.box [.imm (cU Z),.map 1,.map 2,.own 3 0 (kT O U doc d k (bif Nat.blt 8 d.tab.cols.length then b9 doc d [] s else s)).2.length],.map (ay aa.str Tb.v M),.map (ay aa.str aa.bool (kT O U doc d k (bif Nat.blt 8 d.tab.cols.length then b9 doc d [] s else s)).1),.arr 5 ((kT O U doc d k (bif Nat.blt 8 d.tab.cols.length then b9 doc d [] s else s)).2.map Pb.v) 0,.box (Dc.cs d),.map (ay aa.str aa.bool (k8 d.tab.cols k))]) (fun k=>k<=d.tab.cols.length) (fun k=>d.tab.cols.length - k) 0 kq (by exact Nat.zero_le _) (fg kq kq aA bN) ?_;rintro k hk;have hcl:=tC O U doc d (bif Nat.blt 8 d.tab.cols.length then b9 doc d [] s else s) k;apply zW 1 (mU [(24,.bool (decide (((k:Nat):Int)<((d.tab.cols.length:Nat):Int))))]) id;apply ai;by_cases hb2:((k:Nat):Int)<((d.tab.cols.length:Nat):Int);apply qt (decide_eq_true hb2);apply qK;apply zZ (mT [] [24]) id;apply ai;apply qB 1;refine zO ?_ ?_;refine qy ((au (k:=.i64) (l:=d.tab.cols) (enc:=Co.v) (i:=((k:Nat):Int)) Co.zero kq em j5 (fun _=>rfl) nQ nQ).trans (congrArg (fun cs=>some (aa.pimm cs 0,_)) (de (rM d k)))) ?_ ?_ ?_;apply zR 3 (mU [(8,.ptr 6 0)]) (mH [] [.box (B0 d k)]);apply ai;apply zV 2;refine qc [.int .i64 2,.str (rM d k).name] (hlow k oq) ?_ ?_;apply qr 2;by_cases hb3:(O ((AV d k).name))=true;refine zm [30,31] (x:=(!(O (l5 d k)))) (congrArg not (hb3)) ?_ ?_;apply qr 3;refine qy (kV (a2:=0) (b2:=0) (ok:=false) (o:=5) (ek:=aa.str) (ev:=aa.bool) (l:=(m5 d k)) (k:=(l5 d k)) eN kq fd ty9 kq ty4 kq false kq) ?_ ?_ ?_;apply zR 1 (mU [(32,.map 5),(33,.ptr 6 0),(34,.str (rM d k).name),(35,.bool (aV (m5 d k) (l5 d k))),(36,.bool (aV (m5 d k) (l5 d k)))]) id;by_cases hb4:(aV (k8 d.tab.cols k) ((AV d k).name))=true;apply qt (hb4);refine zD cxM kq ax ?_;apply qu 6;refine qD (c5 (o:=2) (ek:=aa.str) (ev:=aa.bool) (l:=(ly O U doc d k s).1) (k:=d.name) (x:=true) eN kq fd ty9 rfl kq kq) ?_ ?_ ?_ ?_;refine bY kq ⟨kq,?_⟩;refine zE (mT [] [36]) (mO [(2,.map (ay aa.str aa.bool (bJ d.name true (ly O U doc d k s).1)))]) ?_ ?_;apply zZ id (mO (Pz Z d O U doc k s));apply ai;apply ai;refine zD cxM kq ax ?_;apply qu 6;refine qQ (hsto k oq) bk bk bk kq ?_;apply qu 1;refine bY kq ⟨kq,?_⟩;refine zE (mU [(50,.bool (oo U d k))]) id ?_ ?_;by_cases hb5:(U ((AV d k).type))=true;refine qf (x:=(oo U d k)) (congrArg not (hb5)) ?_ ?_;apply qK;apply zZ (mT [] [50]) id;apply qo;apply qr 3;refine qY (c5 (o:=5) (ek:=aa.str) (ev:=aa.bool) (l:=(m5 d k)) (k:=(l5 d k)) (x:=true) eN kq fd ty9 rfl kq kq) ?_ ?_ ?_;apply qe;refine ag ?_;apply ab;refine zZ (fun _=>(LA doc d k)) (fun _=>(OM Z d O U doc k s M)) ?_ ?_;apply qo;refine qy (az (a:=((k:Nat):Int)) (b:=1) kq nQ nQ) ?_ ?_ ?_;apply qr 1;apply qe;refine ab ⟨k+1,?_,?_,(fg kq (hT (by rw [pE (b:=true) (c:=true) (Kt oq aq aq) aq]) kq) aA bN)⟩
 . omega
 . omega
 iterate 14 kernel_rfl
 refine qt (x:=(oo U d k)) (congrArg not (Bool.eq_false_iff.2 hb5)) ?_ ?_;apply qo;apply qr 6;refine qA (cJ Z M (eO d.name (kT O U doc d k (bif Nat.blt 8 d.tab.cols.length then b9 doc d [] s else s))) doc d [(AV d k).name] u4 hd.n hd.a) bN bN rfl bN bN kq ?_;refine qN (Py doc d k) (Pj Z doc d k O U s M) ?_ ?_;apply qo;apply qr 3;refine qY (c5 (o:=5) (ek:=aa.str) (ev:=aa.bool) (l:=(m5 d k)) (k:=(l5 d k)) (x:=true) eN kq fd ty9 rfl kq kq) ?_ ?_ ?_;apply qe;refine ag ?_;apply ab;refine zZ (fun _=>(LA doc d k)) (fun _=>(O7 Z doc d k O U s M)) ?_ ?_;apply qo;refine qy (az (a:=((k:Nat):Int)) (b:=1) kq nQ nQ) ?_ ?_ ?_;apply qr 1;apply qe;refine ab ⟨k+1,?_,?_,(fg kq (hT (by rw [pE (b:=true) (c:=false) (Kt oq aq aq) (Bool.eq_false_iff.2 aq)]) kq) aA bN)⟩
 . omega
 . omega
 iterate 27 kernel_rfl
 apply qf (Bool.eq_false_iff.2 hb4);apply qK;apply zZ (mT [] [36]) id;apply ai;apply ai;refine zD cxM kq ax ?_;apply qu 6;refine qQ (hsto k oq) bk bk bk kq ?_;apply qu 1;refine bY kq ⟨kq,?_⟩;refine zE (mU [(50,.bool (oo U d k))]) id ?_ ?_;by_cases hb6:(U ((AV d k).type))=true;refine qf (x:=(oo U d k)) (congrArg not (hb6)) ?_ ?_;apply qK;apply zZ (mT [] [50]) id;apply qo;apply qr 3;refine qY (c5 (o:=5) (ek:=aa.str) (ev:=aa.bool) (l:=(m5 d k)) (k:=(l5 d k)) (x:=true) eN kq fd ty9 rfl kq kq) ?_ ?_ ?_;apply qe;refine ag ?_;apply ab;refine zZ (fun _=>(LA doc d k)) (fun _=>[.box [.imm (cU Z),.map 1,.map 2,.own 3 0 (ly O U doc d k s).2.length],.map (gW M),.map (ay aa.str aa.bool (ly O U doc d k s).1),.arr 5 ((ly O U doc d k s).2.map Pb.v) 0,.box (Dc.cs d),.map (Nm d k),.box (B0 d k)]) ?_ ?_;apply qo;refine qy (az (a:=((k:Nat):Int)) (b:=1) kq nQ nQ) ?_ ?_ ?_;apply qr 1;apply qe;refine ab ⟨k+1,?_,?_,(fg kq (hT (by rw [pE (b:=false) (c:=true) (H5 oq aq aq) aq]) kq) aA bN)⟩
 . omega
 . omega
 iterate 14 kernel_rfl
 refine qt (x:=(oo U d k)) (congrArg not (Bool.eq_false_iff.2 hb6)) ?_ ?_;apply qo;apply qr 6;refine qA (cJ Z M (kT O U doc d k (bif Nat.blt 8 d.tab.cols.length then b9 doc d [] s else s)) doc d [(AV d k).name] u4 hd.n hd.a) bN bN rfl bN bN kq ?_;refine qN (Py doc d k) [.box [.imm (cU Z),.map 1,.map 2,.own 3 0 (wJ doc d k O U s).2.length],.map (gW M),.map (ay aa.str aa.bool (wJ doc d k O U s).1),.arr 5 ((wJ doc d k O U s).2.map Pb.v) 0,.box (Dc.cs d),.map (ay aa.str aa.bool (m5 d k)),.box (B0 d k)] ?_ ?_;apply qo;apply qr 3;refine qY (c5 (o:=5) (ek:=aa.str) (ev:=aa.bool) (l:=(m5 d k)) (k:=(l5 d k)) (x:=true) eN kq fd ty9 rfl kq kq) ?_ ?_ ?_;apply qe;refine ag ?_;apply ab;refine zZ (fun _=>(LA doc d k)) (fun _=>[.box [.imm (cU Z),.map 1,.map 2,.own 3 0 (wJ doc d k O U s).2.length],.map (gW M),.map (ay aa.str aa.bool (wJ doc d k O U s).1),.arr 5 ((wJ doc d k O U s).2.map Pb.v) 0,.box (Dc.cs d),.map (Nm d k),.box (B0 d k)]) ?_ ?_;apply qo;refine qy (az (a:=((k:Nat):Int)) (b:=1) kq nQ nQ) ?_ ?_ ?_;apply qr 1;apply qe;refine ab ⟨k+1,?_,?_,(fg kq (hT (by rw [pE (b:=false) (c:=false) (H5 oq aq aq) (Bool.eq_false_iff.2 aq)]) kq) aA bN)⟩
 . omega
 . omega
 iterate 28 kernel_rfl
 refine zm [30,31] (x:=(!(O (l5 d k)))) (congrArg not (Bool.eq_false_iff.2 hb3)) ?_ ?_;apply zR 5 (mU [(32,.tup []),(33,.tup []),(34,.tup []),(35,.tup []),(36,.bool true)]) id;refine ga kq kq ?_;refine zD cxM kq ax ?_;apply qu 6;refine qD (c5 (o:=2) (ek:=aa.str) (ev:=aa.bool) (l:=(ly O U doc d k s).1) (k:=d.name) (x:=true) eN kq fd ty9 rfl kq kq) ?_ ?_ ?_ ?_;refine bY kq ⟨kq,?_⟩;refine zE (mT [] [36]) (mO [(2,.map (ay aa.str aa.bool (bJ d.name true (ly O U doc d k s).1)))]) ?_ ?_;apply zZ id (mO (Pz Z d O U doc k s));apply ai;apply ai;refine zD cxM kq ax ?_;apply qu 6;refine qQ (hsto k oq) bk bk bk kq ?_;apply qu 1;refine bY kq ⟨kq,?_⟩;refine zE (mU [(50,.bool (oo U d k))]) id ?_ ?_;by_cases hb7:(U ((AV d k).type))=true;refine qf (x:=(oo U d k)) (congrArg not (hb7)) ?_ ?_;apply qK;apply zZ (mT [] [50]) id;apply qo;apply qr 3;refine qY (c5 (o:=5) (ek:=aa.str) (ev:=aa.bool) (l:=(m5 d k)) (k:=(l5 d k)) (x:=true) eN kq fd ty9 rfl kq kq) ?_ ?_ ?_;apply qe;refine ag ?_;apply ab;refine zZ (fun _=>(OZ doc d k)) (fun _=>(OM Z d O U doc k s M)) ?_ ?_;apply qo;refine qy (az (a:=((k:Nat):Int)) (b:=1) kq nQ nQ) ?_ ?_ ?_;apply qr 1;apply qe;refine ab ⟨k+1,?_,?_,(fg kq (hT (by rw [pE (b:=true) (c:=true) (Jd aq) aq]) kq) aA bN)⟩
 . omega
 . omega
 iterate 14 kernel_rfl
 refine qt (x:=(oo U d k)) (congrArg not (Bool.eq_false_iff.2 hb7)) ?_ ?_;apply qo;apply qr 6;refine qA (cJ Z M (eO d.name (kT O U doc d k (bif Nat.blt 8 d.tab.cols.length then b9 doc d [] s else s))) doc d [(AV d k).name] u4 hd.n hd.a) bN bN rfl bN bN kq ?_;refine qN [(0,.ptr 0 0),(1,.str doc),(5,.ptr 4 0),(6,.map 5),(8,.ptr 6 0),(21,.imm (d.tab.cols.map Co.v)),(22,nI d.tab.cols.length),(23,nI k),(32,.tup []),(33,.tup []),(34,.tup []),(35,.tup [])] (Pj Z doc d k O U s M) ?_ ?_;apply qo;apply qr 3;refine qY (c5 (o:=5) (ek:=aa.str) (ev:=aa.bool) (l:=(m5 d k)) (k:=(l5 d k)) (x:=true) eN kq fd ty9 rfl kq kq) ?_ ?_ ?_;apply qe;refine ag ?_;apply ab;refine zZ (fun _=>(OZ doc d k)) (fun _=>(O7 Z doc d k O U s M)) ?_ ?_;apply qo;refine qy (az (a:=((k:Nat):Int)) (b:=1) kq nQ nQ) ?_ ?_ ?_;apply qr 1;apply qe;refine ab ⟨k+1,?_,?_,(fg kq (hT (by rw [pE (b:=true) (c:=false) (Jd aq) (Bool.eq_false_iff.2 aq)]) kq) aA bN)⟩
 . omega
 . omega
 iterate 42 kernel_rfl
 apply qf (decide_eq_false hb2);refine aK 0 kq kq ?_;apply ac;apply ac;refine ao ?_;refine aO (l:=[]) (.inl rfl) kq (by rfl) (by simp [aZ]) (by simp [aZ]) ?_ ?_;refine Eq.trans (b:=[.box [.imm (cU Z),.map 1,.map 2,.own 3 0 (ly O U doc d k s).2.length],.map (gW M),.map (ay aa.str aa.bool (ly O U doc d k s).1),.arr 5 ((ly O U doc d k s).2.map Pb.v) 0]) kq ?_
 . have e:k=d.tab.cols.length:=by omega
   subst e;rfl
 . simp [am.belO,hpF,Ty.v,Ex.v,Ct.v,Co.v,Rf.v,Sm.v,Tb.v_cs,Sc.v,Md.v,Pb.v,Ls.v]
 iterate 12 kernel_rfl
abbrev RV (d:Dc)(k:Nat):List aa:=[.str (cp d.tab.cols (d.tab.key.getD k [])).name,.int .i64 ((cp d.tab.cols (d.tab.key.getD k [])).type.kind),.str (cp d.tab.cols (d.tab.key.getD k [])).type.name,.int .i64 ((cp d.tab.cols (d.tab.key.getD k [])).type.n),.imm ((cp d.tab.cols (d.tab.key.getD k [])).type.names.map aa.str),.imm ((cp d.tab.cols (d.tab.key.getD k [])).type.kids.map Ty.enc)]
abbrev n4 (doc:List UInt8)(d:Dc)(k:Nat)(s:BP):=(lB doc d k (bif bn d.tab then b9 doc d [] s else s))
abbrev hZ (d:Dc)(k:Nat):=(d.tab.key.getD k [])
theorem ar {p:Prop} (h:p:=by first|omega|(simp;omega)):p:=h
theorem QM {p:Prop} (h:p:=by (first|rw [Ih aq]|rw [JS aq]|rw [Ku aq aq])):p:=h
theorem Me (Z:List Sm) (M:Tm_) (s:BP) (doc:List UInt8) (d:Dc) (hd:d.ok) (hs:s.2.length<100000):av cx 75 [.ptr 0 0,.str doc,Dc.v d] (hpF Z M s) (fun v h=>v=(.tup [])/\h=hpF Z M (q9 doc d s)):=by
 have hdc:=hd.t.c;have hdk:=hd.t.k;have hs1:(bif bn d.tab then b9 doc d [] s else s).2.length<=s.2.length+1:=by cases bn d.tab <;> simp [b9]
 refine fI 65 4 [] Tryz.func75 kq ?_;refine zZ (fun _=>[(0,.ptr 0 0),(1,.str doc),(2,Dc.v d)]) (fun _=>(Ho Z s M)) ?_ ?_;apply zW 1 (mT [(5,.ptr 4 0)] [2]) (mH [] [.box (Dc.cs d)]);refine lp (σ:=Unit) (fun _=>[(0,.ptr 0 0),(1,.str doc),(5,.ptr 4 0)]) (fun _=>[.box [.imm (cU Z),.map 1,.map 2,.own 3 0 (bif bn d.tab then b9 doc d [] s else s).2.length],.map (ay aa.str Tb.v M),.map (ay aa.str aa.bool (bif bn d.tab then b9 doc d [] s else s).1),.arr 5 ((bif bn d.tab then b9 doc d [] s else s).2.map Pb.v) 0,.box (Dc.cs d)]) (fun _=>True) kq ?_ ?_;apply zV 3;refine qy (aj (l:=d.tab.key) (enc:=aa.str) kq a6) ?_ ?_ ?_;apply qr 2;by_cases hb1:((d.tab.key.length:Nat):Int)<1;refine zm [14,15] (decide_eq_true hb1) ?_ ?_;apply zR 6 (mU [(21,.bool true)]) id;refine ga kq kq ?_;apply qo;apply qr 3;refine qA (cJ Z M s doc d [] u4 hd.n hd.a) bN bN rfl bN bN kq ?_;apply qe;refine ab ⟨(),?_,(fg kq (hT QM kq) aA bN)⟩
 . trivial
 iterate 5 kernel_rfl
 refine zm [14,15] (decide_eq_false hb1) ?_ ?_;apply qr 3;refine qy (aj (l:=d.tab.key) (enc:=aa.str) kq a6) ?_ ?_ ?_;apply zR 2 (mU [(21,.bool (decide (((d.tab.key.length:Nat):Int) > 3)))]) id;by_cases hb2:((d.tab.key.length:Nat):Int) > 3;apply qt (decide_eq_true hb2);apply qo;apply qr 3;refine qA (cJ Z M s doc d [] u4 hd.n hd.a) bN bN rfl bN bN kq ?_;apply qe;refine ab ⟨(),?_,(fg kq (hT QM kq) aA bN)⟩
 . trivial
 iterate 4 kernel_rfl
 apply qf (decide_eq_false hb2);refine qk ?_ ?_;refine ab ⟨(),?_,(fg kq (hT QM kq) aA bN)⟩
 . trivial
 iterate 11 kernel_rfl
 rintro _ _;apply zV 3;refine qy (aj (l:=d.tab.key) (enc:=aa.str) kq a6) ?_ ?_ ?_;apply zR 1 (mU [(28,.imm (d.tab.key.map aa.str)),(29,nI d.tab.key.length),(30,.int .i64 0)]) id;apply qB 0;refine aT (σ:=Nat) (fun k=>[(0,.ptr 0 0),(1,.str doc),(5,.ptr 4 0),(28,.imm (d.tab.key.map aa.str)),(29,.int .i64 ((d.tab.key.length:Nat):Int)),(30,.int .i64 ((k:Nat):Int))]) (fun k=>[.box [.imm (cU Z),.map 1,.map 2,.own 3 0 (lB doc d k (bif bn d.tab then b9 doc d [] s else s)).2.length],.map (ay aa.str Tb.v M),.map (ay aa.str aa.bool (lB doc d k (bif bn d.tab then b9 doc d [] s else s)).1),.arr 5 ((lB doc d k (bif bn d.tab then b9 doc d [] s else s)).2.map Pb.v) 0,.box (Dc.cs d)]) (fun k=>k<=d.tab.key.length) (fun k=>d.tab.key.length - k) 0 kq (by exact Nat.zero_le _) (fg kq kq aA bN) ?_;rintro k hk;have hcl:=tA doc d (bif bn d.tab then b9 doc d [] s else s) k;apply zW 1 (mU [(31,.bool (decide (((k:Nat):Int)<((d.tab.key.length:Nat):Int))))]) id;apply ai;by_cases hb3:((k:Nat):Int)<((d.tab.key.length:Nat):Int);apply qt (decide_eq_true hb3);apply qK;apply zZ (mT [] [31]) id;apply ai;apply qB 1;apply zV 1;refine qy (au (k:=.i64) (l:=d.tab.key) (enc:=aa.str) (i:=((k:Nat):Int)) [] kq a6 ty9 (fun _=>rfl) ar ar) ?_ ?_ ?_;apply zR 3 (mU [(6,nI k),(7,.str (hZ d k))]) id;apply ai;apply zV 4;refine qP (fB d.tab.cols (hZ d k) ar) bk bk bk kq ?_;apply zR 6 (mU [(9,.bool (aW d.tab.cols (hZ d k)))]) (mH [] [.box (RV d k)]);apply zW 2 (mT [(44,.bool (!(aW d.tab.cols (hZ d k))))] [9]) id;by_cases hb4:(aW d.tab.cols (d.tab.key.getD k []))=true;refine qf (x:=(!(aW d.tab.cols (hZ d k)))) (congrArg not (hb4)) ?_ ?_;apply qK;apply zZ (mT [] [44]) id;apply zV 4;refine qy (ec (lo:=none) (hi:=(some (nI k))) (l:=d.tab.key) (enc:=aa.str) (x:=0) (y:=((k:Nat):Int)) kq a6 ty9 (fun _=>rfl) kq kq ar ar ar) ?_ ?_ ?_;apply qr 1;refine qP (lk (d.tab.key.take k) (hZ d k) ar) bk bk bk kq ?_;refine zN (mT [(57,.bool ((d.tab.key.take k).contains (hZ d k)))] [6]) id ?_ ?_;by_cases hb5:((d.tab.key.take k).contains (d.tab.key.getD k []))=true;apply qt (hb5);apply qo;apply qr 5;refine qA (cJ Z M (lB doc d k (bif bn d.tab then b9 doc d [] s else s)) doc d [(d.tab.key.getD k [])] u4 hd.n hd.a) bN bN rfl bN bN kq ?_;apply qe;refine ag ?_;apply ab;refine zZ (fun _=>[(0,.ptr 0 0),(1,.str doc),(5,.ptr 4 0),(28,.imm (d.tab.key.map aa.str)),(29,nI d.tab.key.length),(30,nI k)]) (fun _=>[.box [.imm (cU Z),.map 1,.map 2,.own 3 0 (b9 doc d [(hZ d k)] (n4 doc d k s)).2.length],.map (gW M),.map (ay aa.str aa.bool (b9 doc d [(hZ d k)] (n4 doc d k s)).1),.arr 5 ((b9 doc d [(hZ d k)] (n4 doc d k s)).2.map Pb.v) 0,.box (Dc.cs d),.box (RV d k)]) ?_ ?_;apply qo;refine qy (az (a:=((k:Nat):Int)) (b:=1) kq ar ar) ?_ ?_ ?_;apply qr 1;apply qe;refine ab ⟨k+1,?_,?_,(fg kq (hT (by rw [xR (b:=true) (c:=true) aq aq]) kq) aA bN)⟩
 . omega
 . omega
 iterate 10 kernel_rfl
 apply qf (Bool.eq_false_iff.2 hb5);refine qk ?_ ?_;refine ag ?_;apply ab;apply zZ (mT [] [7,57]) id;apply qo;refine qy (az (a:=((k:Nat):Int)) (b:=1) kq ar ar) ?_ ?_ ?_;apply qr 1;apply qe;refine ab ⟨k+1,?_,?_,(fg kq (hT (by rw [xR (b:=true) (c:=false) aq (Bool.eq_false_iff.2 aq)]) kq) aA bN)⟩
 . omega
 . omega
 iterate 16 kernel_rfl
 refine qt (x:=(!(aW d.tab.cols (hZ d k)))) (congrArg not (Bool.eq_false_iff.2 hb4)) ?_ ?_;refine zD cxM kq ax ?_;apply qu 6;refine qD (c5 (o:=2) (ek:=aa.str) (ev:=aa.bool) (l:=(n4 doc d k s).1) (k:=d.name) (x:=true) eN kq fd ty9 rfl kq kq) ?_ ?_ ?_ ?_;refine bY kq ⟨kq,?_⟩;refine zE (mT [] [44]) (mO [(2,.map (ay aa.str aa.bool (bJ d.name true (n4 doc d k s).1)))]) ?_ ?_;apply zZ id (mO [(0,.box [.imm (cU Z),.map 1,.map 2,.own 3 0 (eO d.name (n4 doc d k s)).2.length]),(2,.map (ay aa.str aa.bool (eO d.name (n4 doc d k s)).1)),(3,.arr 5 ((eO d.name (n4 doc d k s)).2.map Pb.v) 0)]);apply zV 4;refine qy (ec (lo:=none) (hi:=(some (nI k))) (l:=d.tab.key) (enc:=aa.str) (x:=0) (y:=((k:Nat):Int)) kq a6 ty9 (fun _=>rfl) kq kq ar ar ar) ?_ ?_ ?_;apply qr 1;refine qP (lk (d.tab.key.take k) (hZ d k) ar) bk bk bk kq ?_;refine zN (mT [(57,.bool ((d.tab.key.take k).contains (hZ d k)))] [6]) id ?_ ?_;by_cases hb6:((d.tab.key.take k).contains (d.tab.key.getD k []))=true;apply qt (hb6);apply qo;apply qr 5;refine qA (cJ Z M (eO d.name (lB doc d k (bif bn d.tab then b9 doc d [] s else s))) doc d [(d.tab.key.getD k [])] u4 hd.n hd.a) bN bN rfl bN bN kq ?_;apply qe;refine ag ?_;apply ab;refine zZ (fun _=>[(0,.ptr 0 0),(1,.str doc),(5,.ptr 4 0),(28,.imm (d.tab.key.map aa.str)),(29,nI d.tab.key.length),(30,nI k)]) (fun _=>[.box [.imm (cU Z),.map 1,.map 2,.own 3 0 (b9 doc d [(hZ d k)] (eO d.name (n4 doc d k s))).2.length],.map (gW M),.map (ay aa.str aa.bool (b9 doc d [(hZ d k)] (eO d.name (n4 doc d k s))).1),.arr 5 ((b9 doc d [(hZ d k)] (eO d.name (n4 doc d k s))).2.map Pb.v) 0,.box (Dc.cs d),.box (RV d k)]) ?_ ?_;apply qo;refine qy (az (a:=((k:Nat):Int)) (b:=1) kq ar ar) ?_ ?_ ?_;apply qr 1;apply qe;refine ab ⟨k+1,?_,?_,(fg kq (hT (by rw [xR (b:=false) (c:=true) (Bool.eq_false_iff.2 aq) aq]) kq) aA bN)⟩
 . omega
 . omega
 iterate 10 kernel_rfl
 apply qf (Bool.eq_false_iff.2 hb6);refine qk ?_ ?_;refine ag ?_;apply ab;apply zZ (mT [] [7,57]) id;apply qo;refine qy (az (a:=((k:Nat):Int)) (b:=1) kq ar ar) ?_ ?_ ?_;apply qr 1;apply qe;refine ab ⟨k+1,?_,?_,(fg kq (hT (by rw [xR (b:=false) (c:=false) (Bool.eq_false_iff.2 aq) (Bool.eq_false_iff.2 aq)]) kq) aA bN)⟩
 . omega
 . omega
 iterate 34 kernel_rfl
 apply qf (decide_eq_false hb3);refine aK 0 kq kq ?_;apply ac;apply ac;refine ao ?_;refine aO (l:=[]) (.inl rfl) kq (by rfl) (by simp [aZ]) (by simp [aZ]) ?_ ?_;refine Eq.trans (b:=[.box [.imm (cU Z),.map 1,.map 2,.own 3 0 (n4 doc d k s).2.length],.map (gW M),.map (ay aa.str aa.bool (n4 doc d k s).1),.arr 5 ((n4 doc d k s).2.map Pb.v) 0]) kq ?_
 . have e:k=d.tab.key.length:=by omega
   subst e;rfl
 . simp [am.belO,hpF,Ty.v,Ex.v,Ct.v,Co.v,Rf.v,Sm.v,Tb.v_cs,Sc.v,Md.v,Pb.v,Ls.v]
 iterate 11 kernel_rfl
theorem nk (r:Nat->Nat) {l:List aa} (h:aC 0 l=true):bX r l=l:=fa (k:=0) (fun i hi=>absurd hi (Nat.not_lt_zero i)) l h
def bF {α:Type} (p:α->Bool) (l:List α):Int:=match l.findIdx? p with
 | some i=>(i:Nat)
 | none=>-1
theorem cO {α:Type} {p:α->Bool} (d:α) {l:List α} {k:Nat} (hk:k<l.length) (ha:∀ i,i<k->¬ p (l.getD i d)=true) (h:p (l.getD k d)=true):((k:Nat):Int)=bF p l:=by
 have:l.findIdx? p=some k:=by
  rw [List.findIdx?_eq_some_iff_getElem];refine ⟨hk,(by rw [<- a7 l d k hk];exact h),fun j hj=>?_⟩;have:=ha j hj;rw [a7 l d j oq] at this;exact this
 simp [bF,this]
theorem cR {α:Type} {p:α->Bool} (d:α) {l:List α} (ha:∀ i,i<l.length->¬ p (l.getD i d)=true):-1=bF p l:=by
 have:l.findIdx? p=none:=by
  rw [List.findIdx?_eq_none_iff];intro x hx;obtain ⟨i,hi,rfl⟩:=List.getElem_of_mem hx;have:=ha i hi;rw [a7 l d i hi] at this;simpa using this
 simp [bF,this]
theorem mh {α:Type} (p:α->Bool) (l:List α):decide (bF p l >= 0)=l.any p:=by
 rw [Bool.eq_iff_iff];simp only [decide_eq_true_eq,List.any_eq_true];unfold bF;split
 . rename_i i hi;obtain ⟨h1,h2,_⟩:=List.findIdx?_eq_some_iff_getElem.1 hi;exact ⟨fun _=>⟨_,List.getElem_mem h1,h2⟩,fun _=>by omega⟩
 . rename_i hi;rw [List.findIdx?_eq_none_iff] at hi;exact ⟨fun h=>by omega,fun ⟨x,h1,h2⟩=>by rw [hi x h1] at h2;cases h2⟩
theorem aQ {p:Prop} (h:p:=by simp [aZ]):p:=h
abbrev IP (r:Rf):List am:=[.box [.str r.col,.str r.tab]]
abbrev FX (r:Rf):List am:=[.box [.str r.col,.str r.tab]]
theorem Gu (x r:Rf) :av cx 150 [Rf.v x,.ptr 0 0] (FX r) (fun v h=>v=(.bool (x.col==r.col))/\h=(FX r)):=by
 refine fI 9 1 [(ResultVar.tmp 3)] Tryz.func150 kq ?_;refine zZ (fun _=>[(0,Rf.v x),(1,.ptr 0 0)]) (fun _=>(IP r)) ?_ ?_;apply zW 2 (mT [(2,.ptr 1 0)] [0]) (mH [] [.box [.str x.col,.str x.tab]]);refine zW 6 (fun _=>[(3,.bool (x.col==r.col))]) (fun _=>[.box [.str r.col,.str r.tab],.box [.str x.col,.str x.tab]]) ?_ ?_;refine aJ kq ?_;refine aO (l:=[.bool (x.col==r.col)]) (.inr rfl) kq (by rfl) aQ aQ ?_ ?_;refine Eq.trans (b:=(IP r)) kq ?_
 . rfl
 . simp [am.belO,aC,aa.bel]
 iterate 3 kernel_rfl
abbrev rg (r:Rf):List am:=[.box [.str r.col,.str r.tab]]
theorem U3 {p:Prop} (h:p:=by show aa.int _ _=aa.int _ _;first|rw [<- cO (p:=fun x:Rf=>x.col==r.col) Rf.zero (l:=l) (k:=k) oq ha aq]|rw [<- cR (p:=fun x:Rf=>x.col==r.col) Rf.zero (l:=l) (fun i hi=>ha i oq)]):p:=h
theorem jM {p:Prop} (h:p:=by simp [am.belO,aC,aa.bel]):p:=h
theorem Nz (l:List Rf) (r:Rf) (hn:l.length<1000000000):av cx 83 [.imm (l.map Rf.v),.fn (.func 150) [] [.ptr 0 0]] (FX r) (fun v h=>v=(.int .i64 (bF (fun x:Rf=>x.col==r.col) l))/\h=(FX r)):=by
 refine fI 19 1 [(ResultVar.tmp 4)] Tryz.func83 kq ?_;refine zZ (fun _=>[(0,.imm (l.map Rf.v)),(1,.fn (.func 150) [] [.ptr 0 0])]) (fun _=>(rg r)) ?_ ?_;apply zW 1 id id;apply ai;apply zV 1;refine qy (aj (l:=l) (enc:=Rf.v) kq ge) ?_ ?_ ?_;apply zR 1 (mU [(7,nI l.length),(8,.int .i64 0)]) id;apply qB 0;refine aT (σ:=Nat) (fun k=>[(0,.imm (l.map Rf.v)),(1,.fn (.func 150) [] [.ptr 0 0]),(7,.int .i64 ((l.length:Nat):Int)),(8,nI k)]) (fun k=>(rg r)) (fun k=>k<=l.length/\∀ i,i<k->¬ ((l.getD i Rf.zero).col==r.col)=true) (fun k=>l.length - k) 0 kq (by exact ⟨Nat.zero_le _,fun i h=>absurd h (Nat.not_lt_zero i)⟩) (fg kq kq aA jM) ?_;rintro k ⟨hk,ha⟩;apply zW 1 (mU [(9,.bool (decide (((k:Nat):Int)<((l.length:Nat):Int))))]) id;apply ai;by_cases hb1:((k:Nat):Int)<((l.length:Nat):Int);apply qt (decide_eq_true hb1);apply qK;apply zZ (mT [] [9]) id;apply ai;apply qB 1;apply zW 2 (mU [(5,nI k)]) id;apply zV 3;refine qy ((au (k:=.i64) (l:=l) (enc:=Rf.v) (i:=((k:Nat):Int)) Rf.zero kq ge mW (fun _=>rfl) oq oq).trans (congrArg (fun cs=>some (aa.pimm cs 0,_)) (eK (l.getD k Rf.zero)))) ?_ ?_ ?_;apply qr 1;refine qA (Gu (l.getD k Rf.zero) r) jM jM rfl jM jM kq ?_;refine zN (mU [(16,.bool ((l.getD k Rf.zero).col==r.col))]) id ?_ ?_;by_cases hb2:((l.getD k Rf.zero).col==r.col)=true;apply qt (hb2);refine zW 2 (fun _=>[(4,nI k)]) (fun _=>(rg r)) ?_ ?_;refine aJ kq ?_;apply iR;apply aR;apply aR;apply iR;apply aR;refine aO (l:=[.int .i64 ((k:Nat):Int)]) (.inr rfl) kq U3 aQ aQ ?_ ?_;refine Eq.trans (b:=(rg r)) kq ?_
 . rfl
 . simp [am.belO,aC,aa.bel]
 iterate 2 kernel_rfl
 apply qf (Bool.eq_false_iff.2 hb2);refine qk ?_ ?_;refine ag ?_;apply ab;apply zZ (mT [] [5,16]) id;apply qo;refine qy (az (a:=((k:Nat):Int)) (b:=1) kq oq oq) ?_ ?_ ?_;apply qr 1;apply qe;refine ab ⟨k+1,?_,?_,(fg kq kq aA jM)⟩
 . omega
 . refine ⟨by omega,fun i hi=>?_⟩;rcases Nat.lt_succ_iff_lt_or_eq.1 hi with h|h
   . exact ha i h
   . subst h;assumption
 iterate 20 kernel_rfl
 apply qf (decide_eq_false hb1);refine aK 0 kq kq ?_;apply ac;apply ac;refine ao ?_;apply ab;refine zZ (fun _=>[]) id ?_ ?_;refine zW 1 (fun _=>[(4,.int .i64 (-1))]) (fun _=>(rg r)) ?_ ?_;refine aJ kq ?_;refine aO (l:=[.int .i64 (-1)]) (.inr rfl) kq U3 aQ aQ ?_ ?_;refine Eq.trans (b:=(rg r)) kq ?_
 . rfl
 . simp [am.belO,aC,aa.bel]
 iterate 14 kernel_rfl
theorem LV (l:List Rf) (r:Rf) (hn:l.length<1000000000):av cx 31 [.imm (l.map Rf.v),.fn (.func 150) [] [.ptr 0 0]] (FX r) (fun v h=>v=(.bool (l.any (fun x:Rf=>x.col==r.col)))/\h=(FX r)):=by
 refine fI 9 1 [(ResultVar.tmp 4)] Tryz.func31 kq ?_;refine zZ (fun _=>[(0,.imm (l.map Rf.v)),(1,.fn (.func 150) [] [.ptr 0 0])]) (fun _=>(IP r)) ?_ ?_;apply zW 1 id id;apply zV 2;refine qA (Nz l r oq) jM jM rfl jM jM kq ?_;refine zR 2 (fun _=>[(4,.bool (decide ((bF (fun x:Rf=>x.col==r.col) l) >= 0)))]) (fun _=>(IP r)) ?_ ?_;refine aJ kq ?_;refine aO (l:=[.bool (decide ((bF (fun x:Rf=>x.col==r.col) l) >= 0))]) (.inr rfl) kq (by show aa.bool _=aa.bool _;rw [<- mh] <;> rfl) aQ aQ ?_ ?_;refine Eq.trans (b:=(IP r)) kq ?_
 . rfl
 . simp [am.belO,aC,aa.bel]
 iterate 4 kernel_rfl
section
variable {O:List UInt8->Bool} {U:Ty->Bool} {fst:List UInt8->Option Tb} {t:Tb} {d:Dc} {i:Nat}
abbrev rT (t:Tb)(i:Nat):=t.refs.getD i Rf.zero
theorem El (h:(t.refs.take i).any (fun x=>x.col==(rT t i).col)=true):fC fst t i=true:=by unfold fC;rw [h];rfl
theorem DN (h:¬ (t.refs.take i).any (fun x=>x.col==(rT t i).col)=true) (h2:¬ (fst (rT t i).tab).isSome=true):fC fst t i=false:=by unfold fC;rw [Bool.eq_false_iff.2 h,Bool.eq_false_iff.2 h2];rfl
theorem EJ (h:¬ (t.refs.take i).any (fun x=>x.col==(rT t i).col)=true) (h2:¬ aW t.cols (rT t i).col=true):fC fst t i=false:=by
 unfold fC;rw [Bool.eq_false_iff.2 h,Bool.eq_false_iff.2 h2,Bool.false_and,Bool.and_false];rfl
theorem Ej (h:¬ (t.refs.take i).any (fun x=>x.col==(rT t i).col)=true) (h2:tgt ((fst (rT t i).tab).getD Tb.zero) (cp t.cols (rT t i).col).type=true):fC fst t i=false:=by
 unfold fC;rw [Bool.eq_false_iff.2 h,h2,Bool.not_true,Bool.and_false,Bool.and_false];rfl
theorem EP (h1:(fst (rT t i).tab).isSome=true) (h2:aW t.cols (rT t i).col=true) (h3:¬ tgt ((fst (rT t i).tab).getD Tb.zero) (cp t.cols (rT t i).col).type=true):fC fst t i=true:=by
 unfold fC;rw [h1,h2,Bool.eq_false_iff.2 h3];cases (t.refs.take i).any _ <;> rfl
theorem Wg {b:Bool} (h:b=true) (q:Bool):(b || q)=true:=by rw [h];rfl
theorem W8 {b:Bool} (h:¬ b=true) (h2:¬ (fst (d.tab.refs.getD i Rf.zero).tab).isSome=true):(b || pJ fst d i)=true:=by unfold pJ;rw [Bool.eq_false_iff.2 h2];cases b <;> rfl
theorem V6 {b:Bool} (h:¬ b=true) (h2:(fst (d.tab.refs.getD i Rf.zero).tab).isSome=true):(b || pJ fst d i)=!(aW d.tab.cols (d.tab.refs.getD i Rf.zero).col):=by unfold pJ;rw [Bool.eq_false_iff.2 h,h2];rfl
theorem lX {n:List UInt8} (M:Tm_) (h:∀ n x,aL n M=some x->x.ok):((aL n M).getD Tb.zero).ok:=by
 cases e:aL n M with
 | none=>exact ⟨by simp [Tb.zero],by simp [Tb.zero],by simp [Tb.zero],fun c hc=>by cases hc⟩
 | some x=>exact h n x e
end
abbrev Cu (d:Dc)(k:Nat):List aa:=[.str (cp d.tab.cols ((d.tab.refs.getD k Rf.zero).col)).name,.int .i64 ((cp d.tab.cols ((d.tab.refs.getD k Rf.zero).col)).type.kind),.str (cp d.tab.cols ((d.tab.refs.getD k Rf.zero).col)).type.name,.int .i64 ((cp d.tab.cols ((d.tab.refs.getD k Rf.zero).col)).type.n),.imm ((cp d.tab.cols ((d.tab.refs.getD k Rf.zero).col)).type.names.map aa.str),.imm ((cp d.tab.cols ((d.tab.refs.getD k Rf.zero).col)).type.kids.map Ty.enc)]
abbrev gc (d:Dc)(k:Nat):=(d.tab.refs.getD k Rf.zero)
abbrev x9 (d:Dc)(k:Nat)(M:Tm_):=(tgt ((aL (gc d k).tab M).getD Tb.zero) ((cp d.tab.cols ((gc d k).col)).type))
abbrev lx :=(([]:List (List UInt8)).map aa.str)
abbrev Vd (d:Dc)(k:Nat):Nat×aa:=(78,.agg [.int .i64 ((cp d.tab.cols ((gc d k).col)).type.kind),.str (cp d.tab.cols ((gc d k).col)).type.name,.int .i64 ((cp d.tab.cols ((gc d k).col)).type.n),.imm ((cp d.tab.cols ((gc d k).col)).type.names.map aa.str),.imm ((cp d.tab.cols ((gc d k).col)).type.kids.map Ty.enc)])
abbrev Be (d:Dc)(k:Nat):List aa:=[.str (gc d k).col,.str (gc d k).tab]
abbrev FJ :=(([]:List (Co)).map Co.v)
abbrev Sk :List aa:=[.str [],.imm FJ,.imm lx,.imm (([]:List (Rf)).map Rf.v),.int .i64 0,.str [],.int .i64 0,.str [],.imm lx,.imm lx,.full [],.int .i64 0,.int .i64 0]
abbrev T8 :List aa:=[.str [],.imm FJ,.imm lx,.imm (([]:List (Rf)).map Rf.v),.int .i64 0,.str [],.int .i64 0,.str [],.imm lx,.full [],.full [],.int .i64 0,.int .i64 0]
abbrev OH :List aa:=[.str [],.imm FJ,.imm lx,.imm (([]:List (Rf)).map Rf.v),.int .i64 0,.str [],.int .i64 0,.str [],.full [],.full [],.full [],.int .i64 0,.int .i64 0]
abbrev ws (d:Dc)(k:Nat)(M:Tm_):aa:=(.bool (!((aL (gc d k).tab M).isSome)))
abbrev Oz :List aa:=[.str [],.imm FJ,.imm lx,.full [],.int .i64 0,.str [],.int .i64 0,.str [],.full [],.full [],.full [],.int .i64 0,.int .i64 0]
abbrev OF :List aa:=[.str [],.imm FJ,.full [],.full [],.int .i64 0,.str [],.int .i64 0,.str [],.full [],.full [],.full [],.int .i64 0,.int .i64 0]
abbrev iZ :List aa:=[.str [],.full [],.full [],.full [],.int .i64 0,.str [],.int .i64 0,.str [],.full [],.full [],.full [],.int .i64 0,.int .i64 0]
abbrev wH (d:Dc):Nat×aa:=(15,.imm (d.tab.refs.map Rf.v))
abbrev Ah (d:Dc)(k:Nat)(M:Tm_):=((aL (gc d k).tab M).getD Tb.zero)
abbrev EO (d:Dc)(k:Nat):=(aW d.tab.cols ((gc d k).col))
theorem mP {p:Prop} (h:p:=by first|omega|(simp;omega)|exact (lX M hM).c|exact (lX M hM).co):p:=h
theorem RF {p:Prop} (h:p:=by rw [I4 (c:=false) (by first|exact El aq|exact DN aq aq|exact EJ aq aq|exact Ej aq aq|exact EP aq aq aq)]):p:=h
theorem Qd {p:Prop} (h:p:=by (first|rw [Wg aq]|rw [W8 (fst:=(fun n=>aL n M)) aq aq]|rw [V6 (fst:=(fun n=>aL n M)) aq aq])):p:=h
theorem Tp {p:Prop} (h:p:=by rw [I4 (c:=true) (by first|exact El aq|exact DN aq aq|exact EJ aq aq|exact Ej aq aq|exact EP aq aq aq)]):p:=h
theorem Fq {p:Prop} (h:p:=by simp [List.set,aa.frz,aN]):p:=h
theorem F3 {p:Prop} (h:p:=by simp [aa.owns,aF]):p:=h
abbrev Ce (d:Dc)(k:Nat):=cp d.tab.cols ((d.tab.refs.getD k Rf.zero).col)
abbrev Gb (doc:List UInt8)(d:Dc)(k:Nat)(M:Tm_)(s:BP):=b9 doc d [(gc d k).col,(gc d k).tab] (w9 d.name (aV (cz (fun n=>aL n M) doc d k s).1 d.name || pJ (fun n=>aL n M) d k) (cz (fun n=>aL n M) doc d k s))
abbrev NO (d:Dc)(k:Nat):List aa:=[.str (Ce d k).name,.int .i64 ((Ce d k).type.kind),.str (Ce d k).type.name,.int .i64 ((Ce d k).type.n),.imm ((Ce d k).type.names.map aa.str),.imm ((Ce d k).type.kids.map Ty.enc)]
abbrev mV (d:Dc)(k:Nat):=d.tab.refs.getD k Rf.zero
abbrev Ie (M:Tm_)(doc:List UInt8)(d:Dc)(k:Nat)(s:BP):=aV ((cz (fun n=>aL n M) doc d k s).1) d.name
abbrev Mn (d:Dc)(k:Nat):List aa:=[.str (mV d k).col,.str (mV d k).tab]
theorem JV (Z:List Sm) (M:Tm_) (s:BP) (doc:List UInt8) (d:Dc) (hd:d.ok) (hs:s.2.length<100000) (hM:∀ n x,aL n M=some x->x.ok):av cx 76 [.ptr 0 0,.str doc,Dc.v d] (hpF Z M s) (fun v h=>v=(.tup [])/\h=hpF Z M (md (fun n=>aL n M) doc d s)):=by
 have hdc:=hd.t.c;have hdr:=hd.t.r;have hfz:=fun n=>(lX (n:=n) M hM).c
 refine fI 93 4 [] Tryz.func76 kq ?_;refine zZ (fun _=>[(0,.ptr 0 0),(1,.str doc),(2,Dc.v d)]) (fun _=>(Ho Z s M)) ?_ ?_;apply zW 1 (mT [(5,.ptr 4 0)] [2]) (mH [] [.box (Dc.cs d)]);apply zV 3;refine qy (aj (l:=d.tab.refs) (enc:=Rf.v) kq ge) ?_ ?_ ?_;apply zR 1 (mU [(wH d),(16,nI d.tab.refs.length),(17,.int .i64 0)]) id;apply qB 0;refine aT (σ:=Nat) (fun k=>[(0,.ptr 0 0),(1,.str doc),(5,.ptr 4 0),(15,.imm (d.tab.refs.map Rf.v)),(16,.int .i64 ((d.tab.refs.length:Nat):Int)),(17,.int .i64 ((k:Nat):Int))]) (fun k=>[.box [.imm (cU Z),.map 1,.map 2,.own 3 0 (cz (fun n=>aL n M) doc d k s).2.length],.map (ay aa.str Tb.v M),.map (ay aa.str aa.bool (cz (fun n=>aL n M) doc d k s).1),.arr 5 ((cz (fun n=>aL n M) doc d k s).2.map Pb.v) 0,.box (Dc.cs d)]) (fun k=>k<=d.tab.refs.length) (fun k=>d.tab.refs.length - k) 0 kq (by exact Nat.zero_le _) (fg kq kq aA bN) ?_;rintro k hk;have hcl:=sS (fun n=>aL n M) doc d s k;apply zW 1 (mU [(18,.bool (decide (((k:Nat):Int)<((d.tab.refs.length:Nat):Int))))]) id;apply ai;by_cases hb1:((k:Nat):Int)<((d.tab.refs.length:Nat):Int);apply qt (decide_eq_true hb1);apply qK;apply zZ (mT [] [18]) id;apply ai;apply qB 1;apply zV 1;refine qy ((au (k:=.i64) (l:=d.tab.refs) (enc:=Rf.v) (i:=((k:Nat):Int)) Rf.zero kq ge mW (fun _=>rfl) mP mP).trans (congrArg (fun cs=>some (aa.pimm cs 0,_)) (eK (gc d k)))) ?_ ?_ ?_;apply zR 4 (mU [(6,nI k),(7,.ptr 5 0)]) (mH [] [.box (Be d k)]);apply zV 5;refine qP (fB d.tab.cols ((gc d k).col) mP) bk bk bk kq ?_;refine zR 6 (fun _=>[(0,.ptr 0 0),(1,.str doc),(5,.ptr 4 0),(6,nI k),(7,.ptr 5 0),(8,.ptr 6 0),(9,.bool (EO d k)),(wH d),(16,nI d.tab.refs.length),(17,nI k)]) (fun _=>[.box [.imm (cU Z),.map 1,.map 2,.own 3 0 (cz (fun n=>aL n M) doc d k s).2.length],.map (gW M),.map (ay aa.str aa.bool (cz (fun n=>aL n M) doc d k s).1),.arr 5 ((cz (fun n=>aL n M) doc d k s).2.map Pb.v) 0,.box (Dc.cs d),.box (Be d k),.box (Cu d k)]) ?_ ?_;apply zV 4;refine qy (ec (lo:=none) (hi:=(some (nI k))) (l:=d.tab.refs) (enc:=Rf.v) (x:=0) (y:=((k:Nat):Int)) kq ge mW (fun _=>rfl) kq kq mP mP mP) ?_ ?_ ?_;apply qr 1;refine lH (args:=[.imm ((d.tab.refs.take k).map Rf.v),.fn (.func 150) [] [.ptr 5 0]]) (v:=.bool ((d.tab.refs.take k).any (fun x:Rf=>x.col==(gc d k).col))) (h':=[.box [.imm (cU Z),.map 1,.map 2,.own 3 0 (cz (fun n=>aL n M) doc d k s).2.length],.map (gW M),.map (ay aa.str aa.bool (cz (fun n=>aL n M) doc d k s).1),.arr 5 ((cz (fun n=>aL n M) doc d k s).2.map Pb.v) 0,.box (Dc.cs d),.box (Be d k),.box (Cu d k)]) [.box [.imm (cU Z),.map 1,.map 2,.own 3 0 (cz (fun n=>aL n M) doc d k s).2.length],.map (gW M),.map (ay aa.str aa.bool (cz (fun n=>aL n M) doc d k s).1),.arr 5 ((cz (fun n=>aL n M) doc d k s).2.map Pb.v) 0,.box (Dc.cs d),.box (Be d k),.box (Cu d k)] kq kq kq kq kq (iK [5] (LV (d.tab.refs.take k) (gc d k) (by simp;omega)) rfl dq (by simp [aC,aa.bel,Ty.v,Ex.v,Ct.v,Co.v,Rf.v,Sm.v,Tb.v_cs,Sc.v,Md.v,Pb.v,Ls.v,-List.map_take,-List.map_drop,-List.map_append]) kq kq rfl (by simp [bX,aa.ren,nk,-List.map_take,-List.map_drop,-List.map_append];rfl) rfl kq) ?_;refine zR 1 (mT [(10,.bool ((d.tab.refs.take k).any (fun x:Rf=>x.col==(gc d k).col)))] [6]) id ?_ ?_;refine nz (σ:=Unit) (fun _=>[(0,.ptr 0 0),(1,.str doc),(5,.ptr 4 0),(7,.ptr 5 0),(8,.ptr 6 0),(9,.bool (aW d.tab.cols ((mV d k).col))),(10,.bool ((d.tab.refs.take k).any (fun x:Rf=>x.col==(mV d k).col))),(11,.ptr 7 0),(12,.bool ((aL (mV d k).tab M).isSome)),(15,.imm (d.tab.refs.map Rf.v)),(16,.int .i64 ((d.tab.refs.length:Nat):Int)),(17,.int .i64 ((k:Nat):Int))]) (fun _=>[.box [.imm (cU Z),.map 1,.map 2,.own 3 0 (cz (fun n=>aL n M) doc d k s).2.length],.map (ay aa.str Tb.v M),.map (ay aa.str aa.bool (cz (fun n=>aL n M) doc d k s).1),.arr 5 ((cz (fun n=>aL n M) doc d k s).2.map Pb.v) 0,.box (Dc.cs d),.box (Mn d k),.box (NO d k),.box (Tb.cs ((aL (mV d k).tab M).getD Tb.zero))]) (fun _=>True) kq ?_ ?_;refine zD cxM kq sL ?_;apply qu 6;rcases hm2:aL ((mV d k).tab) M with _|x2;refine qd (sh (ok:=true) (o:=1) (ek:=aa.str) (ev:=Tb.v) (l:=M) (k:=((gc d k).tab)) eN hm2 kq IE ty9 rfl d3 kq) ?_ ?_ ?_ ?_;apply qu 6;refine bY kq ⟨kq,?_⟩;refine ab (fun d_ Q_ hk_=>?_);refine zZ (fun _=>[(0,.ptr 0 0),(1,.str doc),(5,.ptr 4 0),(7,.ptr 5 0),(8,.ptr 6 0),(9,.bool (EO d k)),(10,.bool ((d.tab.refs.take k).any (fun x:Rf=>x.col==(gc d k).col))),(11,.ptr 7 0),(12,.bool false),(wH d),(16,nI d.tab.refs.length),(17,nI k)]) (fun _=>[.box [.imm (cU Z),.map 1,.map 2,.own 3 0 (cz (fun n=>aL n M) doc d k s).2.length],.map (gW M),.map (ay aa.str aa.bool (cz (fun n=>aL n M) doc d k s).1),.arr 5 ((cz (fun n=>aL n M) doc d k s).2.map Pb.v) 0,.box (Dc.cs d),.box (Be d k),.box (Cu d k),.box iZ]) ?_ ?_;refine dY 7 1 (cs:=iZ) (y:=.full []) OF kq kq F3 Fq ?_;refine dY 7 2 (cs:=OF) (y:=.full []) Oz kq kq F3 Fq ?_;refine dY 7 3 (cs:=Oz) (y:=.full []) OH kq kq F3 Fq ?_;refine dY 7 8 (cs:=OH) (y:=.full []) T8 kq kq F3 Fq ?_;refine dY 7 9 (cs:=T8) (y:=.full []) Sk kq kq F3 Fq ?_;refine dY 7 10 (cs:=Sk) (y:=.full []) [.str [],.imm FJ,.imm lx,.imm (([]:List (Rf)).map Rf.v),.int .i64 0,.str [],.int .i64 0,.str [],.imm lx,.imm lx,.imm (([]:List (Ex)).map Ex.enc),.int .i64 0,.int .i64 0] kq kq F3 Fq ?_;refine hk_ _ _ ⟨(),?_,(fg kq (Eq.trans (b:=[.box [.imm (cU Z),.map 1,.map 2,.own 3 0 (cz (fun n=>aL n M) doc d k s).2.length],.map (ay aa.str Tb.v M),.map (ay aa.str aa.bool (cz (fun n=>aL n M) doc d k s).1),.arr 5 ((cz (fun n=>aL n M) doc d k s).2.map Pb.v) 0,.box (Dc.cs d),.box (Mn d k),.box (NO d k),.box [.str [],.imm (([]:List (Co)).map Co.v),.imm (([]:List (List UInt8)).map aa.str),.imm (([]:List (Rf)).map Rf.v),.int .i64 0,.str [],.int .i64 0,.str [],.imm (([]:List (List UInt8)).map aa.str),.imm (([]:List (List UInt8)).map aa.str),.imm (([]:List (Ex)).map Ex.enc),.int .i64 0,.int .i64 0]]) kq (by show _=_;kernel_rfl)) aA bN)⟩
 . trivial
 iterate 5 kernel_rfl
 refine qd (xf (ok:=true) (o:=1) (ek:=aa.str) (ev:=Tb.v) (l:=M) (k:=((gc d k).tab)) (x:=x2) eN hm2 kq IE ty9 rfl d3 kq) ?_ ?_ ?_ ?_;apply qu 6;refine bY kq ⟨kq,?_⟩;refine ab (fun d_ Q_ hk_=>?_);refine zZ (fun _=>[(0,.ptr 0 0),(1,.str doc),(5,.ptr 4 0),(7,.ptr 5 0),(8,.ptr 6 0),(9,.bool (EO d k)),(10,.bool ((d.tab.refs.take k).any (fun x:Rf=>x.col==(gc d k).col))),(11,.ptr 7 0),(12,.bool true),(wH d),(16,nI d.tab.refs.length),(17,nI k)]) (fun _=>[.box [.imm (cU Z),.map 1,.map 2,.own 3 0 (cz (fun n=>aL n M) doc d k s).2.length],.map (gW M),.map (ay aa.str aa.bool (cz (fun n=>aL n M) doc d k s).1),.arr 5 ((cz (fun n=>aL n M) doc d k s).2.map Pb.v) 0,.box (Dc.cs d),.box (Be d k),.box (Cu d k),.box (Tb.cs x2)]) ?_ ?_;refine hk_ _ _ ⟨(),?_,(fg kq (Eq.trans (b:=[.box [.imm (cU Z),.map 1,.map 2,.own 3 0 (cz (fun n=>aL n M) doc d k s).2.length],.map (ay aa.str Tb.v M),.map (ay aa.str aa.bool (cz (fun n=>aL n M) doc d k s).1),.arr 5 ((cz (fun n=>aL n M) doc d k s).2.map Pb.v) 0,.box (Dc.cs d),.box (Mn d k),.box (NO d k),.box (Tb.cs x2)]) kq (by show _=_;kernel_rfl)) aA bN)⟩
 . trivial
 iterate 6 kernel_rfl
 rintro _ _;refine lp (σ:=Unit) (fun _=>[(0,.ptr 0 0),(1,.str doc),(5,.ptr 4 0),(7,.ptr 5 0),(8,.ptr 6 0),(9,.bool (aW d.tab.cols ((mV d k).col))),(10,.bool ((d.tab.refs.take k).any (fun x:Rf=>x.col==(mV d k).col))),(11,.ptr 7 0),(12,.bool ((aL (mV d k).tab M).isSome)),(15,.imm (d.tab.refs.map Rf.v)),(16,.int .i64 ((d.tab.refs.length:Nat):Int)),(17,.int .i64 ((k:Nat):Int))]) (fun _=>[.box [.imm (cU Z),.map 1,.map 2,.own 3 0 (w9 d.name (aV (cz (fun n=>aL n M) doc d k s).1 d.name || pJ (fun n=>aL n M) d k) (cz (fun n=>aL n M) doc d k s)).2.length],.map (ay aa.str Tb.v M),.map (ay aa.str aa.bool (w9 d.name (aV (cz (fun n=>aL n M) doc d k s).1 d.name || pJ (fun n=>aL n M) d k) (cz (fun n=>aL n M) doc d k s)).1),.arr 5 ((w9 d.name (aV (cz (fun n=>aL n M) doc d k s).1 d.name || pJ (fun n=>aL n M) d k) (cz (fun n=>aL n M) doc d k s)).2.map Pb.v) 0,.box (Dc.cs d),.box (Mn d k),.box (NO d k),.box (Tb.cs ((aL (mV d k).tab M).getD Tb.zero))]) (fun _=>True) kq ?_ ?_;refine zD cxM kq bh ?_;apply qu 12;refine qd (kV (a2:=0) (b2:=0) (ok:=false) (o:=2) (ek:=aa.str) (ev:=aa.bool) (l:=(cz (fun n=>aL n M) doc d k s).1) (k:=d.name) eN kq fd ty9 kq ty4 kq false kq) ?_ ?_ ?_ ?_;apply qu 1;by_cases hb3:(Ie M doc d k s)=true;refine fq 60 (.bool (Ie M doc d k s)) (.bool true) (fu bh) kq (congrArg aa.bool (hb3)) ?_;refine fq 61 (.bool (Ie M doc d k s)) (.bool true) (fu bh) kq (congrArg aa.bool (hb3)) ?_;apply qu 7;refine qD (c5 (o:=2) (ek:=aa.str) (ev:=aa.bool) (l:=(cz (fun n=>aL n M) doc d k s).1) (k:=d.name) (x:=true) eN kq fd ty9 rfl kq kq) ?_ ?_ ?_ ?_;refine bY kq ⟨kq,?_⟩;refine ab ⟨(),?_,(fg kq (hT Qd kq) aA bN)⟩
 . trivial
 iterate 4 kernel_rfl
 refine fq 60 (.bool (Ie M doc d k s)) (.bool false) (fu bh) kq (congrArg aa.bool (Bool.eq_false_iff.2 hb3)) ?_;refine fq 61 (.bool (Ie M doc d k s)) (.bool false) (fu bh) kq (congrArg aa.bool (Bool.eq_false_iff.2 hb3)) ?_;apply qu 4;by_cases hb4:((aL (mV d k).tab M).isSome)=true;refine fq 63 (ws d k M) (.bool false) (fu bh) kq (congrArg aa.bool (congrArg not (hb4))) ?_;refine fq 64 (ws d k M) (.bool false) (fu bh) kq (congrArg aa.bool (congrArg not (hb4))) ?_;refine fq 65 (ws d k M) (.bool false) (fu bh) kq (congrArg aa.bool (congrArg not (hb4))) ?_;apply qu 3;refine qD (c5 (o:=2) (ek:=aa.str) (ev:=aa.bool) (l:=(cz (fun n=>aL n M) doc d k s).1) (k:=d.name) (x:=(!(EO d k))) eN kq fd ty9 rfl kq kq) ?_ ?_ ?_ ?_;refine bY kq ⟨kq,?_⟩;refine ab ⟨(),?_,(fg kq (hT Qd kq) aA bN)⟩
 . trivial
 iterate 4 kernel_rfl
 refine fq 63 (ws d k M) (.bool true) (fu bh) kq (congrArg aa.bool (congrArg not (Bool.eq_false_iff.2 hb4))) ?_;refine fq 64 (ws d k M) (.bool true) (fu bh) kq (congrArg aa.bool (congrArg not (Bool.eq_false_iff.2 hb4))) ?_;refine fq 65 (ws d k M) (.bool true) (fu bh) kq (congrArg aa.bool (congrArg not (Bool.eq_false_iff.2 hb4))) ?_;apply qu 3;refine qD (c5 (o:=2) (ek:=aa.str) (ev:=aa.bool) (l:=(cz (fun n=>aL n M) doc d k s).1) (k:=d.name) (x:=true) eN kq fd ty9 rfl kq kq) ?_ ?_ ?_ ?_;refine bY kq ⟨kq,?_⟩;refine ab ⟨(),?_,(fg kq (hT Qd kq) aA bN)⟩
 . trivial
 iterate 10 kernel_rfl
 rintro _ _;apply zV 2;by_cases hb5:((d.tab.refs.take k).any (fun x:Rf=>x.col==(mV d k).col))=true;refine zm [10,69,70] (hb5) ?_ ?_;apply zR 12 (mT [(71,.tup []),(72,.tup []),(73,.tup []),(74,.tup []),(75,.tup []),(76,.tup []),(77,.tup []),(78,.tup []),(79,.tup []),(80,.tup []),(81,.tup []),(82,.bool true)] [8,9,10,11,12]) id;refine ga kq kq ?_;apply qo;apply qr 8;refine qA (cJ Z M (w9 d.name (aV (cz (fun n=>aL n M) doc d k s).1 d.name || pJ (fun n=>aL n M) d k) (cz (fun n=>aL n M) doc d k s)) doc d [(gc d k).col,(gc d k).tab] u4 hd.n hd.a) bN bN rfl bN bN kq ?_;apply qe;refine ag ?_;apply ab;refine zZ (fun _=>[(0,.ptr 0 0),(1,.str doc),(5,.ptr 4 0),(wH d),(16,nI d.tab.refs.length),(17,nI k),(71,.tup []),(72,.tup []),(73,.tup []),(74,.tup []),(75,.tup []),(76,.tup []),(77,.tup []),(78,.tup []),(79,.tup []),(80,.tup []),(81,.tup [])]) (fun _=>[.box [.imm (cU Z),.map 1,.map 2,.own 3 0 (Gb doc d k M s).2.length],.map (gW M),.map (ay aa.str aa.bool (Gb doc d k M s).1),.arr 5 ((Gb doc d k M s).2.map Pb.v) 0,.box (Dc.cs d),.box (Be d k),.box (Cu d k),.box (Tb.cs (Ah d k M))]) ?_ ?_;apply qo;refine qy (az (a:=((k:Nat):Int)) (b:=1) kq mP mP) ?_ ?_ ?_;apply qr 1;apply qe;refine ab ⟨k+1,?_,?_,(fg kq (hT Tp kq) aA bN)⟩
 . omega
 . omega
 iterate 11 kernel_rfl
 refine zm [10,69,70] (Bool.eq_false_iff.2 hb5) ?_ ?_;apply qr 2;by_cases hb6:((aL (mV d k).tab M).isSome)=true;refine zm [12,71,72] (hb6) ?_ ?_;apply qr 3;by_cases hb7:(aW d.tab.cols ((mV d k).col))=true;refine zm [9,73,74,75] (hb7) ?_ ?_;apply qr 3;refine qP (qE (Ah d k M) ((cp d.tab.cols ((gc d k).col)).type) (Nat.lt_of_le_of_lt (lX M hM).c dq) (lX M hM).co) bk bk bk kq ?_;apply zR 3 (mT [(71,.bool true),(72,.bool true),(73,.bool true),(74,.bool true),(75,.bool true),(76,.agg (Tb.cs (Ah d k M))),(77,.ptr 6 1),(Vd d k),(79,.bool (x9 d k M)),(80,.bool (!(x9 d k M))),(81,.bool (!(x9 d k M))),(82,.bool (!(x9 d k M)))] [8,9,10,11,12]) id;by_cases hb8:(tgt ((aL (mV d k).tab M).getD Tb.zero) ((Ce d k).type))=true;refine qf (x:=(!(x9 d k M))) (congrArg not (hb8)) ?_ ?_;refine qk ?_ ?_;refine ag ?_;apply ab;apply zZ (mT [] [7,82]) id;apply qo;refine qy (az (a:=((k:Nat):Int)) (b:=1) kq mP mP) ?_ ?_ ?_;apply qr 1;apply qe;refine ab ⟨k+1,?_,?_,(fg kq (hT RF kq) aA bN)⟩
 . omega
 . omega
 iterate 8 kernel_rfl
 refine qt (x:=(!(x9 d k M))) (congrArg not (Bool.eq_false_iff.2 hb8)) ?_ ?_;apply qo;apply qr 8;refine qA (cJ Z M (w9 d.name (aV (cz (fun n=>aL n M) doc d k s).1 d.name || pJ (fun n=>aL n M) d k) (cz (fun n=>aL n M) doc d k s)) doc d [(gc d k).col,(gc d k).tab] u4 hd.n hd.a) bN bN rfl bN bN kq ?_;apply qe;refine ag ?_;apply ab;refine zZ (fun _=>[(0,.ptr 0 0),(1,.str doc),(5,.ptr 4 0),(wH d),(16,nI d.tab.refs.length),(17,nI k),(71,.bool true),(72,.bool true),(73,.bool true),(74,.bool true),(75,.bool true),(76,.agg (Tb.cs (Ah d k M))),(77,.ptr 6 1),(Vd d k),(79,.bool (x9 d k M)),(80,.bool (!(x9 d k M))),(81,.bool (!(x9 d k M)))]) (fun _=>[.box [.imm (cU Z),.map 1,.map 2,.own 3 0 (Gb doc d k M s).2.length],.map (gW M),.map (ay aa.str aa.bool (Gb doc d k M s).1),.arr 5 ((Gb doc d k M s).2.map Pb.v) 0,.box (Dc.cs d),.box (Be d k),.box (Cu d k),.box (Tb.cs (Ah d k M))]) ?_ ?_;apply qo;refine qy (az (a:=((k:Nat):Int)) (b:=1) kq mP mP) ?_ ?_ ?_;apply qr 1;apply qe;refine ab ⟨k+1,?_,?_,(fg kq (hT Tp kq) aA bN)⟩
 . omega
 . omega
 iterate 13 kernel_rfl
 refine zm [9,73,74,75] (Bool.eq_false_iff.2 hb7) ?_ ?_;apply zR 7 (mT [(71,.bool true),(72,.bool true),(73,.bool false),(74,.bool false),(75,.bool false),(76,.tup []),(77,.tup []),(78,.tup []),(79,.tup []),(80,.tup []),(81,.bool false),(82,.bool false)] [8,9,10,11,12]) id;refine iu kq kq ?_;refine qk ?_ ?_;refine ag ?_;apply ab;apply zZ (mT [] [7,82]) id;apply qo;refine qy (az (a:=((k:Nat):Int)) (b:=1) kq mP mP) ?_ ?_ ?_;apply qr 1;apply qe;refine ab ⟨k+1,?_,?_,(fg kq (hT RF kq) aA bN)⟩
 . omega
 . omega
 iterate 11 kernel_rfl
 refine zm [12,71,72] (Bool.eq_false_iff.2 hb6) ?_ ?_;apply zR 10 (mT [(71,.bool false),(72,.bool false),(73,.tup []),(74,.bool false),(75,.bool false),(76,.tup []),(77,.tup []),(78,.tup []),(79,.tup []),(80,.tup []),(81,.bool false),(82,.bool false)] [8,9,10,11,12]) id;refine iu kq kq ?_;refine qk ?_ ?_;refine ag ?_;apply ab;apply zZ (mT [] [7,82]) id;apply qo;refine qy (az (a:=((k:Nat):Int)) (b:=1) kq mP mP) ?_ ?_ ?_;apply qr 1;apply qe;refine ab ⟨k+1,?_,?_,(fg kq (hT RF kq) aA bN)⟩
 . omega
 . omega
 iterate 29 kernel_rfl
 apply qf (decide_eq_false hb1);refine aK 0 kq kq ?_;apply ac;apply ac;refine ao ?_;refine aO (l:=[]) (.inl rfl) kq (by rfl) aQ aQ ?_ ?_;refine Eq.trans (b:=[.box [.imm (cU Z),.map 1,.map 2,.own 3 0 (cz (fun n=>aL n M) doc d k s).2.length],.map (gW M),.map (ay aa.str aa.bool (cz (fun n=>aL n M) doc d k s).1),.arr 5 ((cz (fun n=>aL n M) doc d k s).2.map Pb.v) 0]) kq ?_
 . have e:k=d.tab.refs.length:=by omega
   subst e;rfl
 . simp [am.belO,hpF,Ty.v,Ex.v,Ct.v,Co.v,Rf.v,Sm.v,Tb.v_cs,Sc.v,Md.v,Pb.v,Ls.v]
 iterate 11 kernel_rfl
section
variable {O:List UInt8->Bool} {U:Ty->Bool} {Y:Ex->Int} {fst:List UInt8->Option Tb} {doc:List UInt8} {d:Dc} {s:BP}
theorem vD:(jC O U doc d s).2.length<=s.2.length+1+d.tab.cols.length:=by
 have h:=tC O U doc d (bif Nat.blt 8 d.tab.cols.length then b9 doc d [] s else s) d.tab.cols.length;have h1:(bif Nat.blt 8 d.tab.cols.length then b9 doc d [] s else s).2.length<=s.2.length+1:=by cases Nat.blt 8 d.tab.cols.length <;> simp [b9]
 unfold jC;omega
theorem wD:(q9 doc d s).2.length<=s.2.length+1+d.tab.key.length:=by
 have h:=tA doc d (bif bn d.tab then b9 doc d [] s else s) d.tab.key.length;have h1:(bif bn d.tab then b9 doc d [] s else s).2.length<=s.2.length+1:=by cases bn d.tab <;> simp [b9]
 unfold q9;omega
theorem Ga:(md fst doc d s).2.length<=s.2.length+d.tab.refs.length:=sS fst doc d s _
theorem HY {Y:Ex->Bool}:(jq O U Y fst doc d s).2.length<=s.2.length+2+d.tab.cols.length+d.tab.key.length+d.tab.refs.length:=by
 have h1:=vD (O:=O) (U:=U) (doc:=doc) (d:=d) (s:=s);have h2:=wD (doc:=doc) (d:=d) (s:=jC O U doc d s);have h3:=Ga (fst:=fst) (doc:=doc) (d:=d) (s:=q9 doc d (jC O U doc d s));unfold jq;cases !O d.name || !Y d.tab.chk <;> simp [eO] <;> omega
abbrev uW (doc:List UInt8)(d:Dc)(O:List UInt8->Bool)(U:Ty->Bool)(s:BP):=q9 doc d (jC O U doc d s)
theorem PL (h:¬ O d.name=true):jq O U (fun e=>Y e==0) fst doc d s=eO d.name (md fst doc d (uW doc d O U s)):=by unfold jq;rw [Bool.eq_false_iff.2 h];rfl
theorem Ro (h2:¬ Y d.tab.chk=0):jq O U (fun e=>Y e==0) fst doc d s=eO d.name (md fst doc d (uW doc d O U s)):=by
 show (bif !O d.name || !(Y d.tab.chk==0) then eO d.name (md fst doc d (uW doc d O U s)) else md fst doc d (uW doc d O U s))=_;rw [show (Y d.tab.chk==0)=false by simpa using h2];cases O d.name <;> rfl
theorem Rx (h:O d.name=true) (h2:Y d.tab.chk=0):jq O U (fun e=>Y e==0) fst doc d s=md fst doc d (uW doc d O U s):=by
 show (bif !O d.name || !(Y d.tab.chk==0) then eO d.name (md fst doc d (uW doc d O U s)) else md fst doc d (uW doc d O U s))=_;rw [h,h2];rfl
end
abbrev nq (M:Tm_)(doc:List UInt8)(d:Dc)(O:List UInt8->Bool)(U:Ty->Bool)(s:BP):=md (fun n=>aL n M) doc d (q9 doc d (jC O U doc d s))
abbrev Gz (Z:List Sm)(M:Tm_)(doc:List UInt8)(d:Dc)(O:List UInt8->Bool)(U:Ty->Bool)(s:BP):List aa:=[.imm (cU Z),.map 1,.map 2,.own 3 0 (nq M doc d O U s).2.length]
abbrev u3 (M:Tm_):=ay aa.str Tb.v M
theorem Fh (O:List UInt8->Bool) (U:Ty->Bool) (Y:Ex->Int) (Z:List Sm) (M:Tm_) (s:BP) (doc:List UInt8) (d:Dc) (hd:d.ok) (hs:s.2.length<90000) (hlow:∀ i,i<d.tab.cols.length->ae cx 70 [.int .i64 2,.str (d.tab.cols.getD i Co.zero).name] (.bool (O (d.tab.cols.getD i Co.zero).name))) (hsto:∀ i,i<d.tab.cols.length->ae cx 136 [.imm (cU Z),(d.tab.cols.getD i Co.zero).type.v] (.bool (U (d.tab.cols.getD i Co.zero).type))) (hM:∀ n x,aL n M=some x->x.ok) (hln:ae cx 70 [.int .i64 2,.str d.name] (.bool (O d.name))) (hchk:ae cx 77 [d.tab.chk.v] (.int .i64 (Y d.tab.chk))):av cx 26 [.ptr 0 0,.str doc,Dc.v d] (hpF Z M s) (fun v h=>v=(.tup [])/\h=hpF Z M (jq O U (fun e=>Y e==0) (fun n=>aL n M) doc d s)):=by
 have hdc:=hd.t.c;have hdk:=hd.t.k;have hl1:=vD (O:=O) (U:=U) (doc:=doc) (d:=d) (s:=s);have hl2:=wD (doc:=doc) (d:=d) (s:=jC O U doc d s);refine fI 35 4 [] Tryz.func26 kq ?_;refine zZ (fun _=>[(0,.ptr 0 0),(1,.str doc),(2,Dc.v d)]) (fun _=>[.box [.imm (cU Z),.map 1,.map 2,.own 3 0 s.2.length],.map (u3 M),.map (ay aa.str aa.bool s.1),.arr 5 (s.2.map Pb.v) 0]) ?_ ?_;apply zW 1 (mT [(5,.ptr 4 0)] [2]) (mH [] [.box (Dc.cs d)]);apply zV 3;refine qA (Bj O U Z M s doc d hd oq hlow hsto) bN bN rfl bN bN kq ?_;refine zN id (mO [(0,.box [.imm (cU Z),.map 1,.map 2,.own 3 0 (jC O U doc d s).2.length]),(2,.map (ay aa.str aa.bool (jC O U doc d s).1)),(3,.arr 5 ((jC O U doc d s).2.map Pb.v) 0)]) ?_ ?_;apply zV 3;refine qA (Me Z M (jC O U doc d s) doc d hd oq) bN bN rfl bN bN kq ?_;refine zN id (mO [(0,.box [.imm (cU Z),.map 1,.map 2,.own 3 0 (uW doc d O U s).2.length]),(2,.map (ay aa.str aa.bool (uW doc d O U s).1)),(3,.arr 5 ((uW doc d O U s).2.map Pb.v) 0)]) ?_ ?_;apply zV 3;refine qA (JV Z M (q9 doc d (jC O U doc d s)) doc d hd oq hM) bN bN rfl bN bN kq ?_;refine zN (mT [] [1]) (mO [(0,.box (Gz Z M doc d O U s)),(2,.map (ay aa.str aa.bool (nq M doc d O U s).1)),(3,.arr 5 ((nq M doc d O U s).2.map Pb.v) 0)]) ?_ ?_;apply zV 2;refine qc [.int .i64 2,.str d.name] (hln) ?_ ?_;apply qr 2;by_cases hb1:(O d.name)=true;refine zm [21,22] (x:=(!(O d.name))) (congrArg not (hb1)) ?_ ?_;apply qr 3;refine qP (hchk) bk bk bk kq ?_;refine zR 2 (fun _=>[(0,.ptr 0 0),(5,.ptr 4 0),(28,.bool ((Y d.tab.chk) != 0))]) (fun _=>[.box (Gz Z M doc d O U s),.map (u3 M),.map (ay aa.str aa.bool (nq M doc d O U s).1),.arr 5 ((nq M doc d O U s).2.map Pb.v) 0,.box (Dc.cs d)]) ?_ ?_;by_cases hb2:(Y d.tab.chk)=0;refine qf (x:=((Y d.tab.chk) != 0)) (bne_eq_false_iff_eq.2 hb2) ?_ ?_;refine qk ?_ ?_;refine aO (l:=[]) (.inl rfl) kq (by rfl) aQ aQ ?_ ?_;refine Eq.trans (b:=[.box (Gz Z M doc d O U s),.map (u3 M),.map (ay aa.str aa.bool (nq M doc d O U s).1),.arr 5 ((nq M doc d O U s).2.map Pb.v) 0]) kq ?_
 rotate_left
 . simp [am.belO,hpF,Ty.v,Ex.v,Ct.v,Co.v,Rf.v,Sm.v,Tb.v_cs,Sc.v,Md.v,Pb.v,Ls.v]
 iterate 2 kernel_rfl
 refine qt (x:=((Y d.tab.chk) != 0)) (bne_iff_ne.2 hb2) ?_ ?_;refine zD cxM kq Cy ?_;apply qu 6;refine qD (c5 (o:=2) (ek:=aa.str) (ev:=aa.bool) (l:=(nq M doc d O U s).1) (k:=d.name) (x:=true) eN kq fd ty9 rfl kq kq) ?_ ?_ ?_ ?_;refine bY kq ⟨kq,?_⟩;refine aO (l:=[]) (.inl rfl) kq (by rfl) aQ aQ ?_ ?_;refine Eq.trans (b:=[.box (Gz Z M doc d O U s),.map (u3 M),.map (ay aa.str aa.bool (bJ d.name true (nq M doc d O U s).1)),.arr 5 ((nq M doc d O U s).2.map Pb.v) 0]) kq ?_
 rotate_left
 . simp [am.belO,hpF,Ty.v,Ex.v,Ct.v,Co.v,Rf.v,Sm.v,Tb.v_cs,Sc.v,Md.v,Pb.v,Ls.v]
 iterate 8 kernel_rfl
 refine zm [21,22] (x:=(!(O d.name))) (congrArg not (Bool.eq_false_iff.2 hb1)) ?_ ?_;refine zR 6 (fun _=>[(0,.ptr 0 0),(5,.ptr 4 0),(28,.bool true)]) (fun _=>[.box (Gz Z M doc d O U s),.map (u3 M),.map (ay aa.str aa.bool (nq M doc d O U s).1),.arr 5 ((nq M doc d O U s).2.map Pb.v) 0,.box (Dc.cs d)]) ?_ ?_;refine ga kq kq ?_;refine zD cxM kq Cy ?_;apply qu 6;refine qD (c5 (o:=2) (ek:=aa.str) (ev:=aa.bool) (l:=(nq M doc d O U s).1) (k:=d.name) (x:=true) eN kq fd ty9 rfl kq kq) ?_ ?_ ?_ ?_;refine bY kq ⟨kq,?_⟩;refine aO (l:=[]) (.inl rfl) kq (by rfl) aQ aQ ?_ ?_;refine Eq.trans (b:=[.box (Gz Z M doc d O U s),.map (u3 M),.map (ay aa.str aa.bool (bJ d.name true (nq M doc d O U s).1)),.arr 5 ((nq M doc d O U s).2.map Pb.v) 0]) kq ?_
 rotate_left
 . simp [am.belO,hpF,Ty.v,Ex.v,Ct.v,Co.v,Rf.v,Sm.v,Tb.v_cs,Sc.v,Md.v,Pb.v,Ls.v]
 iterate 17 kernel_rfl
 all_goals
  first|rw [PL aq]|rw [Ro aq]|rw [Rx aq aq]
  rfl
theorem Ij {p:Prop} (h:p:=by rintro v h ⟨rfl,rfl⟩;simp [aa.frz,aN]):p:=h
theorem En (l:List (Co)) (hn:l.length<1000000000):ae cx 78 [.imm (l.map Co.v)] (.imm (l.map Co.v)) :=
 eD (DV (l.map Co.v) [] (gr (fun _=>rfl) l) (by simp [iC];omega) rfl (y3 _ l)) Ij zq
theorem A5 (l:List (List UInt8)) (hn:l.length<1000000000):ae cx 79 [.imm (l.map aa.str)] (.imm (l.map aa.str)) :=
 eD (Dq (l.map aa.str) [] (gr (fun _=>rfl) l) (by simp [iC];omega) rfl (mI _ l)) Ij zq
theorem EA (l:List (Rf)) (hn:l.length<1000000000):ae cx 80 [.imm (l.map Rf.v)] (.imm (l.map Rf.v)) :=
 eD (Ds (l.map Rf.v) [] (gr (fun _=>rfl) l) (by simp [iC];omega) rfl (JU _ l)) Ij zq
theorem tq (t:Tb) (ht:t.ok) (hst:ae cx 81 [t.chk.v] t.chk.v):ae cx 27 [Tb.v t] (Tb.v t):=by
 have h1:=ht.c;have h2:=ht.k;have h3:=ht.r;refine fI 20 0 [(ResultVar.cell 2 52)] Tryz.func27 kq ?_;refine zZ (fun _=>[(0,Tb.v t)]) (fun _=>[]) ?_ ?_;apply zW 2 (mT [(1,.ptr 0 0),(2,.ptr 1 0)] [0]) (mH [] [.box (Tb.cs t),.box iZ]);apply ai;refine zD cxM kq ax ?_;apply qu 2;refine qQ (En t.cols (by first|omega)) bk bk bk kq ?_;apply qu 2;refine qQ (A5 t.key (by first|omega)) bk bk bk kq ?_;apply qu 2;refine qQ (EA t.refs (by first|omega)) bk bk bk kq ?_;apply qu 6;refine bY kq ⟨kq,?_⟩;refine zE id id ?_ ?_;apply zV 2;refine qP (hst) bk bk bk kq ?_;apply zR 2 id id;refine zW 2 (fun _=>[(2,.ptr 1 0)]) (fun _=>[.box (Tb.cs t),.box (Tb.cs t)]) ?_ ?_;refine aJ kq ?_;refine cd (l:=[.agg (Tb.cs t)]) (.inr rfl) kq ?_
 . simp [aZ,Tb.v_cs]
 iterate 11 kernel_rfl
abbrev sD (W:List (List UInt8×Bool)):List am:=[.box [.map 1],.map (ay aa.str aa.bool W)]
abbrev lE :=List UInt8×Bool
theorem L9 (x:Rf) (W:List lE) :av cx 32 [Rf.v x,.ptr 0 0] (sD W) (fun v h=>v=(.bool (!(aV W x.tab)))/\h=(sD W)):=by
 refine fI 9 2 [(ResultVar.tmp 3)] Tryz.func32 kq ?_;refine zZ (fun _=>[(0,Rf.v x),(1,.ptr 0 0)]) (fun _=>(sD W)) ?_ ?_;apply zW 2 (mT [(2,.ptr 2 0)] [0]) (mH [] [.box [.str x.col,.str x.tab]]);apply zV 3;refine qy (kV (a2:=0) (b2:=0) (ok:=false) (o:=1) (ek:=aa.str) (ev:=aa.bool) (l:=W) (k:=x.tab) eN kq fd ty9 kq ty4 kq false kq) ?_ ?_ ?_;refine zR 2 (fun _=>[(3,.bool (!(aV W x.tab)))]) (fun _=>[.box [.map 1],.map (ay aa.str aa.bool W),.box [.str x.col,.str x.tab]]) ?_ ?_;refine aJ kq ?_;refine aO (l:=[.bool (!(aV W x.tab))]) (.inr rfl) kq (by rfl) aQ aQ ?_ ?_;refine Eq.trans (b:=(sD W)) kq ?_
 . rfl
 . simp [am.belO,aC,aa.bel]
 iterate 6 kernel_rfl
abbrev GG (W:List (List UInt8×Bool)):List am:=[.box [.map 1],.map (ay aa.str aa.bool W)]
theorem Td {p:Prop} (h:p:=by show aa.int _ _=aa.int _ _;first|rw [<- cO (p:=fun x:Rf=>!aV W x.tab) Rf.zero (l:=l) (k:=k) oq ha (by simp_all)]|rw [<- cR (p:=fun x:Rf=>!aV W x.tab) Rf.zero (l:=l) (fun i hi=>ha i oq)]):p:=h
theorem NY (l:List Rf) (W:List lE) (hn:l.length<1000000000):av cx 83 [.imm (l.map Rf.v),.fn (.func 32) [] [.ptr 0 0]] (sD W) (fun v h=>v=(.int .i64 (bF (fun x:Rf=>!aV W x.tab) l))/\h=(sD W)):=by
 refine fI 19 2 [(ResultVar.tmp 4)] Tryz.func83 kq ?_;refine zZ (fun _=>[(0,.imm (l.map Rf.v)),(1,.fn (.func 32) [] [.ptr 0 0])]) (fun _=>(GG W)) ?_ ?_;apply zW 1 id id;apply ai;apply zV 1;refine qy (aj (l:=l) (enc:=Rf.v) kq ge) ?_ ?_ ?_;apply zR 1 (mU [(7,nI l.length),(8,.int .i64 0)]) id;apply qB 0;refine aT (σ:=Nat) (fun k=>[(0,.imm (l.map Rf.v)),(1,.fn (.func 32) [] [.ptr 0 0]),(7,.int .i64 ((l.length:Nat):Int)),(8,nI k)]) (fun k=>(GG W)) (fun k=>k<=l.length/\∀ i,i<k->¬ (!aV W (l.getD i Rf.zero).tab)=true) (fun k=>l.length - k) 0 kq (by exact ⟨Nat.zero_le _,fun i h=>absurd h (Nat.not_lt_zero i)⟩) (fg kq kq aA jM) ?_;rintro k ⟨hk,ha⟩;apply zW 1 (mU [(9,.bool (decide (((k:Nat):Int)<((l.length:Nat):Int))))]) id;apply ai;by_cases hb1:((k:Nat):Int)<((l.length:Nat):Int);apply qt (decide_eq_true hb1);apply qK;apply zZ (mT [] [9]) id;apply ai;apply qB 1;apply zW 2 (mU [(5,nI k)]) id;apply zV 3;refine qy ((au (k:=.i64) (l:=l) (enc:=Rf.v) (i:=((k:Nat):Int)) Rf.zero kq ge mW (fun _=>rfl) oq oq).trans (congrArg (fun cs=>some (aa.pimm cs 0,_)) (eK (l.getD k Rf.zero)))) ?_ ?_ ?_;apply qr 1;refine qA (L9 (l.getD k Rf.zero) W) jM jM rfl jM jM kq ?_;refine zN (mU [(16,.bool (!(aV W (l.getD k Rf.zero).tab)))]) id ?_ ?_;by_cases hb2:(aV W (l.getD k Rf.zero).tab)=true;refine qf (x:=(!(aV W (l.getD k Rf.zero).tab))) (congrArg not (hb2)) ?_ ?_;refine qk ?_ ?_;refine ag ?_;apply ab;apply zZ (mT [] [5,16]) id;apply qo;refine qy (az (a:=((k:Nat):Int)) (b:=1) kq oq oq) ?_ ?_ ?_;apply qr 1;apply qe;refine ab ⟨k+1,?_,?_,(fg kq kq aA jM)⟩
 . omega
 . refine ⟨by omega,fun i hi=>?_⟩;rcases Nat.lt_succ_iff_lt_or_eq.1 hi with h|h
   . exact ha i h
   . subst h;simp_all
 iterate 8 kernel_rfl
 refine qt (x:=(!(aV W (l.getD k Rf.zero).tab))) (congrArg not (Bool.eq_false_iff.2 hb2)) ?_ ?_;refine zW 2 (fun _=>[(4,nI k)]) (fun _=>(GG W)) ?_ ?_;refine aJ kq ?_;apply iR;apply aR;apply aR;apply iR;apply aR;refine aO (l:=[.int .i64 ((k:Nat):Int)]) (.inr rfl) kq Td aQ aQ ?_ ?_;refine Eq.trans (b:=(GG W)) kq ?_
 . rfl
 . simp [am.belO,aC,aa.bel]
 iterate 14 kernel_rfl
 apply qf (decide_eq_false hb1);refine aK 0 kq kq ?_;apply ac;apply ac;refine ao ?_;apply ab;refine zZ (fun _=>[]) id ?_ ?_;refine zW 1 (fun _=>[(4,.int .i64 (-1))]) (fun _=>(GG W)) ?_ ?_;refine aJ kq ?_;refine aO (l:=[.int .i64 (-1)]) (.inr rfl) kq Td aQ aQ ?_ ?_;refine Eq.trans (b:=(GG W)) kq ?_
 . rfl
 . simp [am.belO,aC,aa.bel]
 iterate 14 kernel_rfl
theorem Ol (l:List Rf) (W:List lE) (hn:l.length<1000000000):av cx 31 [.imm (l.map Rf.v),.fn (.func 32) [] [.ptr 0 0]] (sD W) (fun v h=>v=(.bool (l.any (fun x:Rf=>!aV W x.tab)))/\h=(sD W)):=by
 refine fI 9 2 [(ResultVar.tmp 4)] Tryz.func31 kq ?_;refine zZ (fun _=>[(0,.imm (l.map Rf.v)),(1,.fn (.func 32) [] [.ptr 0 0])]) (fun _=>(sD W)) ?_ ?_;apply zW 1 id id;apply zV 2;refine qA (NY l W oq) jM jM rfl jM jM kq ?_;refine zR 2 (fun _=>[(4,.bool (decide ((bF (fun x:Rf=>!aV W x.tab) l) >= 0)))]) (fun _=>(sD W)) ?_ ?_;refine aJ kq ?_;refine aO (l:=[.bool (decide ((bF (fun x:Rf=>!aV W x.tab) l) >= 0))]) (.inr rfl) kq (by show aa.bool _=aa.bool _;rw [<- mh] <;> rfl) aQ aQ ?_ ?_;refine Eq.trans (b:=(sD W)) kq ?_
 . rfl
 . simp [am.belO,aC,aa.bel]
 iterate 4 kernel_rfl
def hpG (Z:List Sm) (M:Tm_) (s:BP) (W:List (List UInt8×Bool)):af:=hpF Z M s++[.box [.ptr 0 0],.box [.full [],.full []],.box [.map 7],.map (ay aa.str aa.bool W)]
@[simp] theorem VP (r:Nat->Nat) (l:List lE):nY r (ay aa.str aa.bool l)=ay aa.str aa.bool l:=sb (k:=0) (fun i hi=>absurd hi (Nat.not_lt_zero i)) _ zq
@[simp] theorem VT (r:Nat->Nat) (l:Tm_):nY r (ay aa.str Tb.v l)=ay aa.str Tb.v l:=sb (k:=0) (fun i hi=>absurd hi (Nat.not_lt_zero i)) _ zq
abbrev NQ (Z:List Sm)(s:BP)(M:Tm_)(W:List (List UInt8×Bool))(t:Tb):List am:=[.box [.imm (Z.map Sm.v),.map 1,.map 2,.own 3 0 s.2.length],.map (gW M),.map (ay aa.str aa.bool s.1),.arr 5 (s.2.map Pb.v) 0,.box [.ptr 0 0],.box [.full [],.full []],.box [.map 7],.map (ay aa.str aa.bool W),.box (Tb.cs t)]
abbrev PS (Z:List Sm)(s:BP)(M:Tm_)(W:List (List UInt8×Bool)):List am:=[.box [.imm (Z.map Sm.v),.map 1,.map 2,.own 3 0 s.2.length],.map (gW M),.map (ay aa.str aa.bool s.1),.arr 5 (s.2.map Pb.v) 0,.box [.ptr 0 0],.box [.full [],.full []],.box [.map 7],.map (ay aa.str aa.bool W)]
theorem Si {p:Prop} (h:p:=by show aa.bool _=aa.bool _;unfold dC;first|(rw [(by assumption:aV s.1 t.name=true)];rfl)|(rw [Bool.eq_false_iff.2 (by assumption:¬ aV s.1 t.name=true)];rfl)):p:=h
theorem Qx {p:Prop} (h:p:=by simp [gL,am.ren,bX,aa.ren,nk,cb,eY,dG,-List.map_take,-List.map_drop,-List.map_append]):p:=h
theorem Kb (Z:List Sm) (M:Tm_) (s:BP) (W:List lE) (t:Tb) (ht:t.ok):av cx 30 [Tb.v t,.ptr 4 0,.ptr 6 0] (hpG Z M s W) (fun v h=>v=(.bool (dC s.1 W t))/\h=hpG Z M s W):=by
 have h3:=ht.r;refine fI 18 8 [(ResultVar.tmp 4)] Tryz.func30 kq ?_;refine zZ (fun _=>[(0,Tb.v t),(1,.ptr 4 0),(2,.ptr 6 0)]) (fun _=>(PS Z s M W)) ?_ ?_;apply zW 2 (mT [(3,.ptr 8 0)] [0]) (mH [] [.box (Tb.cs t)]);apply ai;refine zD cxM kq ax ?_;apply qu 6;refine qd (kV (a2:=0) (b2:=0) (ok:=false) (o:=2) (ek:=aa.str) (ev:=aa.bool) (l:=s.1) (k:=t.name) eN kq fd ty9 kq ty4 kq false kq) ?_ ?_ ?_ ?_;apply qu 1;by_cases hb1:(aV s.1 t.name)=true;refine fq 11 (.bool (aV s.1 t.name)) (.bool true) (fu ax) kq (congrArg aa.bool (hb1)) ?_;refine fq 12 (.bool (aV s.1 t.name)) (.bool true) (fu ax) kq (congrArg aa.bool (hb1)) ?_;apply qu 6;refine bY kq ⟨kq,?_⟩;refine zE (fun _=>[(4,.bool true)]) (fun _=>(NQ Z s M W t)) ?_ ?_;refine aJ kq ?_;refine aO (l:=[.bool true]) (.inr rfl) kq Si aQ aQ ?_ ?_;refine Eq.trans (b:=(PS Z s M W)) kq ?_
 . rfl
 rotate_left
 iterate 2 kernel_rfl
 refine fq 11 (.bool (aV s.1 t.name)) (.bool false) (fu ax) kq (congrArg aa.bool (Bool.eq_false_iff.2 hb1)) ?_;refine fq 12 (.bool (aV s.1 t.name)) (.bool false) (fu ax) kq (congrArg aa.bool (Bool.eq_false_iff.2 hb1)) ?_;apply qu 3;refine Ry (args:=[.imm (t.refs.map Rf.v),.fn (.func 32) [] [.ptr 6 0]]) (v:=.bool (t.refs.any (fun x:Rf=>!aV W x.tab))) (h':=(NQ Z s M W t)) [6,7] (NQ Z s M W t) kq kq kq kq kq kq (iK [6,7] (Ol t.refs W oq) rfl dq (by simp [aC,aa.bel,Ty.v,Ex.v,Ct.v,Co.v,Rf.v,Sm.v,Tb.v_cs,Sc.v,Md.v,Pb.v,Ls.v,-List.map_take,-List.map_drop,-List.map_append]) jM Qx rfl Qx rfl Qx) (fun _ _=>rfl) kq ?_;apply qu 2;refine bY kq ⟨kq,?_⟩;refine zE (fun _=>[(4,.bool (t.refs.any (fun x:Rf=>!aV W x.tab)))]) (fun _=>(NQ Z s M W t)) ?_ ?_;refine aJ kq ?_;refine aO (l:=[.bool (t.refs.any (fun x:Rf=>!aV W x.tab))]) (.inr rfl) kq Si aQ aQ ?_ ?_;refine Eq.trans (b:=(PS Z s M W)) kq ?_
 . rfl
 rotate_left
 iterate 11 kernel_rfl
 all_goals
  simp [am.belO,hpG,hpF,aC,aa.bel,Ty.v,Ex.v,Ct.v,Co.v,Rf.v,Sm.v,Tb.v_cs,Sc.v,Md.v,Pb.v,Ls.v,-List.map_take,-List.map_drop,-List.map_append]
theorem Fe {P:Program} {h:af} {ev:Operand->aa} {op:Op} {t:Nat} {x:aa} {lo hi:Option aa} (hv:BX ev op=some (t,x,lo,hi)):aI ev op=none/\anx P h ev op=(mv P h t lo hi x).map fun r=>[r]:=by
 unfold BX at hv;split at hv <;> simp at hv;obtain ⟨rfl,rfl,rfl,rfl⟩:=hv;exact ⟨rfl,rfl⟩
section
variable {cx:Cx} {bl:List BOp} {K:Tm->af->Prop} {S:RSt}
theorem EB {t e o off len a b a' b' sz fr:Nat} {es:List aa} {z z':aa} {k':TyK} {H':af} (hc:bj bl=true) (hg:bt S.1 (hdB bl).g=some true) (hv:QF (bU cx S) (hdB bl).op=some (t,.own o off len)) (ht:aP cx.P t=some ⟨.slice e,a,b,z⟩) (he:aP cx.P e=some ⟨k',a',b',z'⟩) (ho:S.2[o]?=some (.arr sz es fr))
 (hl:off+len=es.length) (hf:fr<=off) (hz:z'.cells.length=sz/\z'.cells.all aa.cellOk=true) (hH:S.2.set o (.arr sz (es.take off++List.replicate len (iA sz)) fr)=H')
 (hk:bS cx bl.tail (ci S.1 (hdB bl).dst (.tup []),H') K):bS cx bl S K:=by
 have hcl:pu cx.P S.2 t (.own o off len)=some H':=by
  simp only [pu,ht,he,ho];rw [if_pos ⟨hl,hf,hz.1,hz.2⟩,<- hH]
 obtain ⟨g1,g2,g3⟩:=Gg hv hcl;refine lY hc hg (L:=[(.tup [],H')]) g1 g2 g3 ?_;intro r hr;rw [List.mem_singleton] at hr;subst hr;exact hk
theorem Ii {t e o len i a b a' b' sz fr:Nat} {k:IntKind} {es xs:List aa} {z z':aa} {k':TyK} {H':af} (hc:bj bl=true) (hg:bt S.1 (hdB bl).g=some true) (hv:BX (bU cx S) (hdB bl).op=some (t,.own o 0 len,none,some (.int k ((i:Nat):Int)))) (ht:aP cx.P t=some ⟨.slice e,a,b,z⟩) (he:aP cx.P e=some ⟨k',a',b',z'⟩) (ho:S.2[o]?=some (.arr sz es fr))
 (hl:len=es.length) (hsz:sz=a') (hi:i<=len) (hx:es.take i=xs) (hH:S.2.set o (.arr sz es (bif Nat.beq i 0 then fr else es.length))=H')
 (hk:bS cx bl.tail (ci S.1 (hdB bl).dst (.imm xs),H') K):bS cx bl S K:=by
 have hb:d5 len none (some (.int k ((i:Nat):Int)))=some (0,i):=by
  have:=nK (len:=len) (lo:=none) (hi:=some (.int k ((i:Nat):Int))) rfl rfl (Int.le_refl 0) oq oq;simpa using this
 rcases Nat.eq_zero_or_pos i with h0|hp
 . subst h0
   have e1:H'=S.2:=by
    obtain ⟨hlt,hgo⟩:=List.getElem?_eq_some_iff.1 ho;rw [<- hH,show (bif Nat.beq 0 0 then fr else es.length)=fr from rfl,<- hgo];exact List.set_getElem_self hlt
   have e2:xs=[]:=by rw [<- hx];rfl
   subst e2;refine kc (v:=.imm []) (h':=H') hc hg ?_ hk;rw [mA hv,e1];simp only [iS,ht,he,ho];rw [if_pos ⟨by omega,hsz⟩,hb];rfl
 . have hn:¬ Nat.beq i 0=true:=by rw [Nat.beq_eq];omega
   have ha:aop cx.P S.2 (bU cx S) (hdB bl).op=none:=by
    rw [mA hv];simp only [iS,ht,he,ho];rw [if_pos ⟨by omega,hsz⟩,hb];obtain ⟨j,rfl⟩:∃ j,i=j+1:=⟨i - 1,by omega⟩;rfl
   have hcal:=Fe (P:=cx.P) (h:=S.2) hv
   have hfr:(mv cx.P S.2 t none (some (.int k ((i:Nat):Int))) (.own o 0 len))=some (.imm xs,H'):=by
    simp only [mv,ht,he,ho];rw [if_pos ⟨by omega,hsz⟩,hb];simp only [List.drop_zero,hx,<- hH,Bool.eq_false_iff.2 hn,cond_false]
   rw [hfr] at hcal;refine lY hc hg (L:=[(.imm xs,H')]) ha hcal.1 hcal.2 ?_;intro r hr;rw [List.mem_singleton] at hr;subst hr;exact hk
end
section
variable {P:Program} {ev:Operand->aa} {op:Op} {h:af}
theorem yv {t e o off len i a b a' b' sz fr:Nat} {es:List aa} {z z':aa} {k':TyK} {k:IntKind} (hv:BX ev op=some (t,.own o off len,some (.int k ((i:Nat):Int)),none)) (ht:aP P t=some ⟨.slice e,a,b,z⟩) (he:aP P e=some ⟨k',a',b',z'⟩) (ho:h[o]?=some (.arr sz es fr)) (hl:off+len=es.length) (hsz:sz=a') (hi:i<=len) :
 aop P h ev op=some (.own o (off+i) (len - i),h):=by
 rw [mA hv]
 have hb:d5 len (some (.int k ((i:Nat):Int))) none=some (i,len):=by
  have:=nK (len:=len) (lo:=some (.int k ((i:Nat):Int))) (hi:=none) rfl rfl oq oq (Int.le_refl _);simpa using this
 simp only [iS,ht,he,ho];rw [if_pos ⟨hl,hsz⟩,hb];rfl
end
theorem Tb.v_v (t:Tb):t.v=.agg t.cs:=rfl
theorem BJ (t:Tb):t.v.cells.length=13/\t.v.cells.all aa.cellOk=true:=⟨rfl,rfl⟩
theorem wQ (p q:Tb):p.v.withCells q.v.cells=some q.v:=rfl
abbrev pr (a:List Tb):=a.map Tb.v
@[simp] theorem VO (k i:Nat) (a:List Tb):aC k ((pr a).take i)=true:=by rw [<- List.map_take];exact oP k _
@[simp] theorem Dr (k:Nat):∀ n,aC k (List.replicate n (iA 13))=true
 | 0=>rfl
 | n+1=>by rw [List.replicate_succ,aC,Dr k n];rfl
def hpT (Z:List Sm) (M:Tm_) (s:BP) (W:List (List UInt8×Bool)) (l:List Tb):af:=hpG Z M s W++[.arr 13 (l.map Tb.v) 0]
theorem IZ {α:Type} (l:List α) (d:α) (k:Nat):l.getD (0+k) d=l.getD k d:=by rw [Nat.zero_add]
theorem So {l:List Tb} (h:∀ t∈l,t.ok) {k:Nat} (hk:k<l.length):(l.getD (0+k) Tb.zero).ok:=by rw [Nat.zero_add];exact h _ (aH _ _ _ hk)
structure Del (p:Tb->Bool) (l a:List Tb) (i j:Nat):Prop where
 len:a.length=l.length
 lt:i<j
 le:j<=l.length
 kept:a.take i=(l.take j).filter (fun t=>!p t)
 rest:a.drop j=l.drop j
theorem Del.at {p:Tb->Bool} {l a:List Tb} {i j:Nat} (h:Del p l a i j) (hj:j<l.length):a.getD (0+j) Tb.zero=l.getD j Tb.zero:=by
 have h1:=congrArg (fun q=>q[0]?) h.rest;simp only [List.getElem?_drop,Nat.add_zero] at h1;rw [Nat.zero_add,List.getD_eq_getElem?_getD,List.getD_eq_getElem?_getD,h1]
theorem Del.go {p:Tb->Bool} {l a:List Tb} {i j:Nat} (h:Del p l a i j) (hj:j<l.length) (hp:p (a.getD (0+j) Tb.zero)=true):Del p l a i (j+1):=by
 rw [h.at hj] at hp;refine ⟨h.len,(by have:=h.lt;omega),hj,?_,?_⟩
 . rw [h.kept,cI l Tb.zero j hj,List.filter_append,List.filter_cons_of_neg (by rw [hp];decide),List.filter_nil,List.append_nil]
 . have:=congrArg (List.drop 1) h.rest;simpa [List.drop_drop] using this
theorem Del.keep {p:Tb->Bool} {l a:List Tb} {i j:Nat} (h:Del p l a i j) (hj:j<l.length) (hp:¬ p (a.getD (0+j) Tb.zero)=true):Del p l (a.set (0+i) (a.getD (0+j) Tb.zero)) (i+1) (j+1):=by
 have hlt:=h.lt;have hlen:=h.len;have hat:=h.at hj;rw [hat] at hp ⊢;rw [Nat.zero_add];refine ⟨(by rw [List.length_set];exact h.len),by omega,hj,?_,?_⟩
 . rw [cI _ Tb.zero i (by rw [List.length_set];omega),List.take_set_of_le (Nat.le_refl i),h.kept,cI l Tb.zero j hj,List.filter_append,List.filter_cons_of_pos (by simpa using hp),List.filter_nil,IW _ _ _ _ _ oq,if_pos rfl]
 . have:=congrArg (List.drop 1) h.rest;rw [List.drop_set_of_lt oq];simpa [List.drop_drop] using this
theorem Del.init {p:Tb->Bool} {l:List Tb} (h:l.any p=true):Del p l l (bF p l).toNat ((bF p l).toNat+1)/\bF p l=(((bF p l).toNat:Nat):Int)/\(bF p l).toNat<l.length:=by
 unfold bF;cases e:l.findIdx? p with
 | none =>
  rw [List.findIdx?_eq_none_iff] at e;rw [List.any_eq_true] at h;obtain ⟨x,h1,h2⟩:=h;rw [e x h1] at h2;cases h2
 | some i =>
  obtain ⟨h1,h2,h3⟩:=List.findIdx?_eq_some_iff_getElem.1 e;refine ⟨⟨rfl,Nat.lt_succ_self _,h1,?_,rfl⟩,rfl,h1⟩;show l.take i=(l.take (i+1)).filter _
  have hall:(l.take i).filter (fun t=>!p t)=l.take i:=by
   rw [List.filter_eq_self];intro x hx;obtain ⟨j,hj,rfl⟩:=List.getElem_of_mem hx;rw [List.length_take] at hj;have:=h3 j oq;rw [List.getElem_take];simpa using this
  rw [cI l Tb.zero i h1,List.filter_append,hall,List.filter_cons_of_neg (by rw [a7 l _ _ h1,h2];simp),List.filter_nil,List.append_nil]
theorem Hu {p:Tb->Bool} {l:List Tb} (h:¬ l.any p=true):bF p l=-1:=by
 unfold bF
 rw [List.findIdx?_eq_none_iff.2 (fun x hx=>by
  cases e:p x with
  | false=>rfl
  | true=>exact absurd (List.any_eq_true.2 ⟨x,hx,e⟩) h)]
theorem Del.fin {p:Tb->Bool} {l a:List Tb} {i j:Nat} (h:Del p l a i j) (hj:¬ j<l.length):a.take i=l.filter (fun t=>!p t):=by
 have:=h.kept;rw [List.take_of_length_le (by omega:l.length<=j)] at this;exact this
theorem Del.cnt {p:Tb->Bool} {l a:List Tb} {i j:Nat} (h:Del p l a i j) (hj:¬ j<l.length):i=(l.filter (fun t=>!p t)).length:=by
 rw [<- h.fin hj,List.length_take,h.len];have:=h.lt;have:=h.le;omega
theorem I0 {a F:List Tb} {i:Nat} {R:List aa} (hi:i<=a.length) (h:a.take i=F):((pr a).take (0+i)++R).take i=F.map Tb.v:=by
 rw [Nat.zero_add,List.take_append_of_le_length (by rw [List.length_take,List.length_map];omega),List.take_take,Nat.min_self,<- List.map_take,h]
theorem M1 {l a F:List Tb} {i:Nat} (hi:i<=a.length) (hl:a.length=l.length) (h:a.take i=F):((pr a).take (0+i)++List.replicate (l.length - i) (iA 13))=F.map Tb.v++List.replicate (l.length - F.length) (iA 13):=by
 rw [Nat.zero_add,<- List.map_take,h,<- h,List.length_take,Nat.min_eq_left hi]
def hpD (Z:List Sm) (M:Tm_) (s:BP) (W:List (List UInt8×Bool)) (l F:List Tb):af:=hpG Z M s W++[.arr 13 (F.map Tb.v++List.replicate (l.length - F.length) (iA 13)) (bif Nat.beq F.length 0 then 0 else (F.map Tb.v++List.replicate (l.length - F.length) (iA 13)).length)]
abbrev yA (Z:List Sm)(s:BP)(M:Tm_)(W:List (List UInt8×Bool))(l:List Tb):List am:=[.box [.imm (Z.map Sm.v),.map 1,.map 2,.own 3 0 s.2.length],.map (gW M),.map (ay aa.str aa.bool s.1),.arr 5 (s.2.map Pb.v) 0,.box [.ptr 0 0],.box [.full [],.full []],.box [.map 7],.map (ay aa.str aa.bool W),.arr 13 (l.map Tb.v) 0]
abbrev Cj :List aa:=[.ptr 4 0,.ptr 6 0]
abbrev BA (l:List Tb):Nat×aa:=(0,.own 8 0 l.length)
theorem jp {p:Prop} (h:p:=by simp [am.belO,hpT,hpG,hpF,aC,aa.bel,Ty.v,Ex.v,Ct.v,Co.v,Rf.v,Sm.v,Tb.v_cs,Sc.v,Md.v,Pb.v,Ls.v,-List.map_take,-List.map_drop,-List.map_append,-List.map_set]):p:=h
theorem TY {p:Prop} (h:p:=by show aa.int _ _=aa.int _ _;first|rw [<- cO (p:=dC s.1 W) Tb.zero (l:=l) (k:=k) oq ha (by rw [<- IZ];assumption)]|rw [<- cR (p:=dC s.1 W) Tb.zero (l:=l) (fun i hi=>ha i oq)]):p:=h
theorem DB (Z:List Sm) (M:Tm_) (s:BP) (W:List (List UInt8×Bool)) (l:List Tb) (hl:l.length<1000) (hok:∀ t∈l,t.ok):av cx 82 [.own 8 0 l.length,.fn (.func 30) [] [.ptr 4 0,.ptr 6 0]] (hpT Z M s W l) (fun v h=>v=(.int .i64 (bF (dC s.1 W) l))/\h=hpT Z M s W l):=by
 refine fI 19 9 [(ResultVar.tmp 4)] Tryz.func82 kq ?_;refine zZ (fun _=>[(BA l),(1,.fn (.func 30) [] Cj)]) (fun _=>(yA Z s M W l)) ?_ ?_;apply zW 1 id id;apply ai;apply zV 1;refine qy (cu (o:=8) (off:=0) (len:=l.length) (sz:=13) (es:=(l.map Tb.v)) (fr:=0) kq cD kq zq) ?_ ?_ ?_;apply zR 1 (mU [(7,nI l.length),(8,.int .i64 0)]) id;apply qB 0;refine aT (σ:=Nat) (fun k=>[(BA l),(1,.fn (.func 30) [] Cj),(7,.int .i64 ((l.length:Nat):Int)),(8,nI k)]) (fun k=>(yA Z s M W l)) (fun k=>k<=l.length/\∀ i,i<k->¬ dC s.1 W (l.getD i Tb.zero)=true) (fun k=>l.length - k) 0 kq (by exact ⟨Nat.zero_le _,fun i h=>absurd h (Nat.not_lt_zero i)⟩) (fg kq kq aA jp) ?_;rintro k ⟨hk,ha⟩;apply zW 1 (mU [(9,.bool (decide (((k:Nat):Int)<((l.length:Nat):Int))))]) id;apply ai;by_cases hb1:((k:Nat):Int)<((l.length:Nat):Int);apply qt (decide_eq_true hb1);apply qK;apply zZ (mT [] [9]) id;apply ai;apply qB 1;apply zW 2 (mU [(5,nI k)]) id;apply zV 3;refine qy (bD (k:=.i64) (i:=((k:Nat):Int)) (o:=8) (off:=0) (len:=l.length) (sz:=13) (fr:=0) (es:=(l.map Tb.v)) kq cD d3 kq rfl zq ar ar) ?_ ?_ ?_;refine qy (c7 (t:=52) (o:=8) (idx:=(0+k)) (off:=0) (k:=((l.map Tb.v).length)) (sz:=13) (fr:=0) (es:=(l.map Tb.v)) (x:=Tb.v (l.getD (0+k) Tb.zero)) (v:=.agg (Tb.cs (l.getD (0+k) Tb.zero))) kq kq zq (c6 _ _ _ _ ar) (by rw [cL];exact kq)) ?_ ?_ ?_;refine qA (Kb Z M s W (l.getD (0+k) Tb.zero) (So hok oq)) jp jp rfl jp jp kq ?_;refine zN (mU [(16,.bool (dC s.1 W (l.getD (0+k) Tb.zero)))]) id ?_ ?_;by_cases hb2:(dC s.1 W (l.getD (0+k) Tb.zero))=true;apply qt (hb2);refine zW 2 (fun _=>[(4,nI k)]) (fun _=>(yA Z s M W l)) ?_ ?_;refine aJ kq ?_;apply iR;apply aR;apply aR;apply iR;apply aR;refine aO (l:=[.int .i64 ((k:Nat):Int)]) (.inr rfl) kq TY aQ aQ ?_ ?_;refine Eq.trans (b:=(yA Z s M W l)) kq ?_
 . rfl
 rotate_left
 iterate 2 kernel_rfl
 apply qf (Bool.eq_false_iff.2 hb2);refine qk ?_ ?_;refine ag ?_;apply ab;apply zZ (mT [] [5,16]) id;apply qo;refine qy (az (a:=((k:Nat):Int)) (b:=1) kq ar ar) ?_ ?_ ?_;apply qr 1;apply qe;refine ab ⟨k+1,?_,?_,(fg kq kq aA jp)⟩
 . omega
 . refine ⟨by omega,fun i hi=>?_⟩;rcases Nat.lt_succ_iff_lt_or_eq.1 hi with h|h
   . exact ha i h
   . subst h;rw [<- IZ];assumption
 iterate 21 kernel_rfl
 apply qf (decide_eq_false hb1);refine aK 0 kq kq ?_;apply ac;apply ac;refine ao ?_;apply ab;refine zZ (fun _=>[]) id ?_ ?_;refine zW 1 (fun _=>[(4,.int .i64 (-1))]) (fun _=>(yA Z s M W l)) ?_ ?_;refine aJ kq ?_;refine aO (l:=[.int .i64 (-1)]) (.inr rfl) kq TY aQ aQ ?_ ?_;refine Eq.trans (b:=(yA Z s M W l)) kq ?_
 . rfl
 rotate_left
 iterate 14 kernel_rfl
 all_goals
  simp [am.belO,hpT,hpG,hpF,aC,aa.bel,Ty.v,Ex.v,Ct.v,Co.v,Rf.v,Sm.v,Tb.v_cs,Sc.v,Md.v,Pb.v,Ls.v,-List.map_take,-List.map_drop,-List.map_append,-List.map_set]
noncomputable def c28:Code:=fZ Tryz.f28
theorem GC {p:Prop} (h:p:=by simp [aZ,-List.map_append,-List.map_take,-List.map_drop,-List.append_assoc]):p:=h
abbrev Ke (Z:List Sm)(s:BP):List aa:=[.imm (cU Z),.map 1,.map 2,.own 3 0 s.2.length]
abbrev IM (s:BP):=ay aa.str aa.bool s.1
abbrev ig :List aa:=[.full [],.full []]
abbrev H2 (W:List (List UInt8×Bool)):=ay aa.str aa.bool W
theorem QL (Z:List Sm) (M:Tm_) (s:BP) (W:List (List UInt8×Bool)) (l:List Tb) (hl:l.length<1000) (hok:∀ t∈l,t.ok) (hn:¬ l.any (dC s.1 W)=true):av cx 28 [.own 8 0 l.length,.fn (.func 30) [] [.ptr 4 0,.ptr 6 0]] (hpT Z M s W l) (fun v h=>v=.own 8 0 l.length/\h=hpT Z M s W l):=by
 refine ed (cx:=cx) 42 9 [(ResultVar.tmp 4)] Tryz.func28 rfl rfl rfl rfl rfl zq ?_;show wpA cx 42 9 (at_ c28 []) _ _ _;refine zZ (fun _=>[(BA l),(1,.fn (.func 30) [] Cj)]) (fun _=>(yA Z s M W l)) ?_ ?_;apply zW 1 id id;apply zV 2;refine qA (DB Z M s W l hl hok) jp jp rfl jp jp kq ?_;apply zR 1 (mU [(5,.int .i64 (bF (dC s.1 W) l))]) id;apply ai;apply zW 2 (mU [(12,.bool ((bF (dC s.1 W) l)==(-1)))]) id;by_cases hb1:(bF (dC s.1 W) l)=(-1);apply qt (beq_iff_eq.2 hb1);refine zW 2 (fun _=>[(4,.own 8 0 l.length)]) (fun _=>(yA Z s M W l)) ?_ ?_;refine aJ kq ?_;apply aR;refine fm (l:=[.own 8 0 l.length]) 9 [.box (Ke Z s),.map (u3 M),.map (IM s),.arr 5 (s.2.map Pb.v) 0,.box [.ptr 0 0],.box ig,.box [.map 7],.map (H2 W),.arr 13 (l.map Tb.v) 0] (.inr rfl) kq dq kq GC jp ?_
 . exact ⟨rfl,rfl⟩
 iterate 2 kernel_rfl
 . exfalso;exact hb1 (Hu hn)
 iterate 6 kernel_rfl
abbrev Hj (a:List Tb)(i:Nat)(l:List Tb):=((a.map Tb.v).take (0+i)++List.replicate (l.length - i) (iA 13))
abbrev SS (Z:List Sm)(s:BP)(M:Tm_)(W:List (List UInt8×Bool))(a:List Tb)(i:Nat)(l:List Tb):List am:=[.box [.imm (Z.map Sm.v),.map 1,.map 2,.own 3 0 s.2.length],.map (gW M),.map (ay aa.str aa.bool s.1),.arr 5 (s.2.map Pb.v) 0,.box [.ptr 0 0],.box [.full [],.full []],.box [.map 7],.map (ay aa.str aa.bool W),.arr 13 (Hj a i l) (bif Nat.beq i 0 then 0 else (Hj a i l).length)]
abbrev T7 (Z:List Sm)(s:BP)(M:Tm_)(W:List (List UInt8×Bool))(a:List Tb):List am:=[.box [.imm (Z.map Sm.v),.map 1,.map 2,.own 3 0 s.2.length],.map (gW M),.map (ay aa.str aa.bool s.1),.arr 5 (s.2.map Pb.v) 0,.box [.ptr 0 0],.box [.full [],.full []],.box [.map 7],.map (ay aa.str aa.bool W),.arr 13 (a.map Tb.v) 0]
abbrev jr (a:List Tb)(j:Nat):=(a.getD (0+j) Tb.zero)
theorem QI {p:Prop} (h:p:=by first|(simp;done)|(simp [hal];done)):p:=h
abbrev Ge (l:List Tb)(s:BP)(W:List (List UInt8×Bool)):=l.filter (fun t=>!dC s.1 W t)
theorem HQ (Z:List Sm) (M:Tm_) (s:BP) (W:List (List UInt8×Bool)) (l:List Tb) (hl:l.length<1000) (hok:∀ t∈l,t.ok) (hn:l.any (dC s.1 W)=true):av cx 28 [.own 8 0 l.length,.fn (.func 30) [] [.ptr 4 0,.ptr 6 0]] (hpT Z M s W l) (fun v h=>v=.imm ((Ge l s W).map Tb.v)/\h=hpD Z M s W l (Ge l s W)):=by
 have hix:=Del.init hn;refine ed (cx:=cx) 42 9 [(ResultVar.tmp 4)] Tryz.func28 rfl rfl rfl rfl rfl zq ?_;show wpA cx 42 9 (at_ c28 []) _ _ _;refine zZ (fun _=>[(BA l),(1,.fn (.func 30) [] Cj)]) (fun _=>(yA Z s M W l)) ?_ ?_;apply zW 1 id id;apply zV 2;refine qA (DB Z M s W l hl hok) jp jp rfl jp jp kq ?_;apply zR 1 (mU [(5,.int .i64 (bF (dC s.1 W) l))]) id;apply ai;apply zW 2 (mU [(12,.bool ((bF (dC s.1 W) l)==(-1)))]) id;by_cases hb1:(bF (dC s.1 W) l)=(-1)
 . exfalso;have:=hix.2.1;omega
 apply qf (beq_eq_false_iff_ne.2 hb1);apply qK;apply zZ (mT [] [12]) id;apply ai;apply zV 1;refine qy (az (a:=(bF (dC s.1 W) l)) (b:=1) kq ar ar) ?_ ?_ ?_;apply zR 1 (mU [(6,.int .i64 ((bF (dC s.1 W) l)+1))]) id;apply qB 0;refine aT (σ:=(List Tb×Nat×Nat)) (fun ⟨a,i,j⟩=>[(BA l),(1,.fn (.func 30) [] Cj),(5,nI i),(6,nI j)]) (fun ⟨a,i,j⟩=>(T7 Z s M W a)) (fun ⟨a,i,j⟩=>Del (dC s.1 W) l a i j) (fun ⟨a,i,j⟩=>l.length - j) (l,(bF (dC s.1 W) l).toNat,(bF (dC s.1 W) l).toNat+1) kq (by exact hix.1) ⟨⟨kq,kq,(Eq.trans (b:=.int .i64 (bF (dC s.1 W) l)) kq (by exact congrArg c4 hix.2.1)),(Eq.trans (b:=.int .i64 ((bF (dC s.1 W) l)+1)) kq (by exact congrArg c4 (by have:=hix.2.1;omega))),trivial⟩,aA,by simp,kq,jp⟩ ?_;rintro ⟨a,i,j⟩ hD;have hal:=hD.len;have hij:=hD.lt;have hjl:=hD.le;refine zZ (fun _=>[(BA l),(1,.fn (.func 30) [] Cj),(5,nI i),(6,nI j)]) (fun _=>(T7 Z s M W a)) ?_ ?_;apply ai;apply zV 2;refine qy (cu (o:=8) (off:=0) (len:=l.length) (sz:=13) (es:=(pr a)) (fr:=0) kq cD kq QI) ?_ ?_ ?_;apply zR 1 (mU [(19,.bool (decide (((j:Nat):Int)<((l.length:Nat):Int))))]) id;by_cases hb2:((j:Nat):Int)<((l.length:Nat):Int);apply qt (decide_eq_true hb2);apply qK;apply zZ (mT [] [19]) id;apply ai;apply qB 1;apply zV 2;refine qy (bD (k:=.i64) (i:=((j:Nat):Int)) (o:=8) (off:=0) (len:=l.length) (sz:=13) (fr:=0) (es:=(pr a)) kq cD d3 kq rfl QI ar ar) ?_ ?_ ?_;refine qy (c7 (t:=52) (o:=8) (idx:=(0+j)) (off:=0) (k:=((pr a).length)) (sz:=13) (fr:=0) (es:=(pr a)) (x:=Tb.v (jr a j)) (v:=.agg (Tb.cs (jr a j))) kq kq zq (c6 _ _ _ _ ar) (by rw [cL];exact kq)) ?_ ?_ ?_;apply zR 2 (mU [(7,.ptr 9 0)]) (mH [] [.box (Tb.cs (jr a j))]);apply zV 2;refine qA (hs:=[.box (Ke Z s),.map (u3 M),.map (IM s),.arr 5 (s.2.map Pb.v) 0,.box [.ptr 0 0],.box ig,.box [.map 7],.map (H2 W)]) (hs':=[.box (Ke Z s),.map (u3 M),.map (IM s),.arr 5 (s.2.map Pb.v) 0,.box [.ptr 0 0],.box ig,.box [.map 7],.map (H2 W)]) (Kb Z M s W (a.getD (0+j) Tb.zero) (by rw [hD.at oq];exact hok _ (aH _ _ _ oq))) jp jp rfl jp jp kq ?_;apply zR 1 (mU [(29,.bool (!(dC s.1 W (jr a j))))]) id;by_cases hb3:(dC s.1 W (a.getD (0+j) Tb.zero))=true;refine qf (x:=(!(dC s.1 W (jr a j)))) (congrArg not (hb3)) ?_ ?_;refine qk ?_ ?_;refine ag ?_;apply ab;apply zZ (mT [] [7,29]) id;apply qo;apply qr 1;refine qy (az (a:=((j:Nat):Int)) (b:=1) kq ar ar) ?_ ?_ ?_;apply qr 1;apply qe;refine ab ⟨(a,i,(j+1)),?_,?_,(fg kq kq aA jp)⟩
 . try dsimp only
   omega
 rotate_left
 iterate 9 kernel_rfl
 refine qt (x:=(!(dC s.1 W (jr a j)))) (congrArg not (Bool.eq_false_iff.2 hb3)) ?_ ?_;apply zV 3;refine qy (bD (k:=.i64) (i:=((i:Nat):Int)) (o:=8) (off:=0) (len:=l.length) (sz:=13) (fr:=0) (es:=(pr a)) kq cD d3 kq rfl QI ar ar) ?_ ?_ ?_;refine qY (ix (o:=8) (k:=((pr a).length)) (x:=.agg (Tb.cs (jr a j))) (enc:=Tb.v) (l:=a) (X:=(jr a j)) (d:=Tb.zero) (idx:=(0+i)) (sz:=13) kq (Tb.v_v (jr a j)).symm kq zq ar d3 BJ wQ) ?_ ?_ ?_;refine zN (mT [] [7,29]) (mO [(8,.arr 13 ((a.set (0+i) (jr a j)).map Tb.v) 0)]) ?_ ?_;apply qo;apply qr 1;refine qy (az (a:=((i:Nat):Int)) (b:=1) kq ar ar) ?_ ?_ ?_;apply qr 1;apply qe;refine ag ?_;apply ab;refine zZ (fun _=>[(BA l),(1,.fn (.func 30) [] Cj),(5,nI (i+1)),(6,nI j)]) id ?_ ?_;apply qo;apply qr 1;refine qy (az (a:=((j:Nat):Int)) (b:=1) kq ar ar) ?_ ?_ ?_;apply qr 1;apply qe;refine ab ⟨((a.set (0+i) (a.getD (0+j) Tb.zero)),(i+1),(j+1)),?_,?_,(fg kq kq aA jp)⟩
 . try dsimp only
   omega
 rotate_left
 iterate 34 kernel_rfl
 apply qf (decide_eq_false hb2);refine aK 0 kq kq ?_;apply ac;apply ac;refine ao ?_;apply ab;apply zZ (mT [] [1,6,19]) id;apply zV 2;refine qy (yv (o:=8) (off:=0) (len:=l.length) (sz:=13) (fr:=0) (es:=(pr a)) (k:=.i64) (i:=i) kq cD d3 kq ar rfl ar) ?_ ?_ ?_;refine EB (o:=8) (off:=(0+i)) (len:=(l.length - i)) (es:=(pr a)) (sz:=13) (fr:=0) (H':=[.box (Ke Z s),.map (gW M),.map (IM s),.arr 5 (s.2.map Pb.v) 0,.box [.ptr 0 0],.box ig,.box [.map 7],.map (H2 W),.arr 13 (Hj a i l) 0]) kq kq kq cD d3 kq ar (Nat.zero_le _) dq kq ?_;refine zN id (mO [(8,.arr 13 (Hj a i l) 0)]) ?_ ?_;apply zV 2;refine Ii (o:=8) (len:=l.length) (es:=(Hj a i l)) (sz:=13) (fr:=0) (k:=.i64) (i:=i) (xs:=((Ge l s W).map Tb.v)) (H':=(SS Z s M W a i l)) kq kq kq cD d3 kq ar rfl ar (by exact I0 oq (hD.fin oq)) kq ?_;refine zR 1 (fun _=>[(4,.imm ((Ge l s W).map Tb.v))]) (fun _=>(SS Z s M W a i l)) ?_ ?_;refine aJ kq ?_;refine fm (l:=[.imm ((Ge l s W).map Tb.v)]) 9 [.box (Ke Z s),.map (u3 M),.map (IM s),.arr 5 (s.2.map Pb.v) 0,.box [.ptr 0 0],.box ig,.box [.map 7],.map (H2 W),.arr 13 ((pr a).take (0+i)++List.replicate (l.length - i) (iA 13)) (bif Nat.beq i 0 then 0 else ((pr a).take (0+i)++List.replicate (l.length - i) (iA 13)).length)] (.inr rfl) kq dq kq GC (by simp [am.belO,hpT,hpG,hpF,aC,cw,aa.bel,Ty.v,Ex.v,Ct.v,Co.v,Rf.v,Sm.v,Tb.v_cs,Sc.v,Md.v,Pb.v,Ls.v,-List.map_take,-List.map_drop,-List.map_append]) ?_
 . refine ⟨rfl,?_⟩;rw [M1 oq hal (hD.fin oq),show Nat.beq i 0=Nat.beq (Ge l s W).length 0 by rw [<- hD.cnt oq]];rfl
 iterate 30 kernel_rfl
 all_goals
  try dsimp only
  first|exact hD.go oq aq|exact hD.keep oq aq
end Go.Proofs.YtcpklndelobigaaGreatDoor
