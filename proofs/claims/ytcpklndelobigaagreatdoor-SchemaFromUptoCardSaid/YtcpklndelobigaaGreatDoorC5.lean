/- A part of the proof: plain lemmas and walks. No condition. -/
import Derived.Test.YtcpklndelobigaaGreatDoorC4
set_option linter.all false
namespace Go.Proofs.YtcpklndelobigaaGreatDoor
open Go.Proofs.YtcpklndelobigaaGreatDoor.Abs
structure Ct where
 name:List UInt8
 has:Bool
 arg:Ty
structure Co where
 name:List UInt8
 type:Ty
structure Rf where
 col:List UInt8
 tab:List UInt8
structure Sm where
 name:List UInt8
 ctors:List Ct
structure Tb where
 name:List UInt8
 cols:List Co
 key:List (List UInt8)
 refs:List Rf
 chk:Ex
structure Sc where
 sums:List Sm
 tabs:List Tb
def Ct.zero:Ct:=⟨[],false,Ty.zero⟩
def Co.zero:Co:=⟨[],Ty.zero⟩
def Rf.zero:Rf:=⟨[],[]⟩
def Sm.zero:Sm:=⟨[],[]⟩
def Tb.zero:Tb:=⟨[],[],[],[],Ex.zero⟩
abbrev Ty.cs (t:Ty):List aa:=[.int .i64 t.kind,.str t.name,.int .i64 t.n,.imm (t.names.map .str),.imm (t.kids.map Ty.enc)]
def Ct.v (c:Ct):aa:=.agg [.str c.name,.bool c.has,.int .i64 c.arg.kind,.str c.arg.name,.int .i64 c.arg.n,.imm (c.arg.names.map .str),.imm (c.arg.kids.map Ty.enc)]
def Co.v (c:Co):aa:=.agg [.str c.name,.int .i64 c.type.kind,.str c.type.name,.int .i64 c.type.n,.imm (c.type.names.map .str),.imm (c.type.kids.map Ty.enc)]
def Rf.v (r:Rf):aa:=.agg [.str r.col,.str r.tab]
def Sm.v (s:Sm):aa:=.agg [.str s.name,.imm (s.ctors.map Ct.v)]
def Tb.v (t:Tb):aa:=.agg [.str t.name,.imm (t.cols.map Co.v),.imm (t.key.map .str),.imm (t.refs.map Rf.v),.int .i64 t.chk.kind,.str t.chk.name,.int .i64 t.chk.n,.str t.chk.s,.imm (t.chk.names.map .str),.imm (t.chk.binds.map .str),.imm (t.chk.kids.map Ex.enc),.int .i64 t.chk.pos,.int .i64 t.chk.fin]
def Sc.v (s:Sc):aa:=.agg [.imm (s.sums.map Sm.v),.imm (s.tabs.map Tb.v)]
@[simp] theorem Ct.frz_v (h:ae) (c:Ct):c.v.frz h=c.v:=by simp [Ct.v,aa.frz,aQ]
@[simp] theorem Ct.bel_v (k:Nat) (c:Ct):c.v.bel k=true:=by simp [Ct.v,aa.bel,aM]
@[simp] theorem Ct.owns_v (c:Ct):c.v.owns=[]:=by simp [Ct.v,aa.owns,aG]
@[simp] theorem Pu (h:ae) (l:List Ct):aQ h (l.map Ct.v)=l.map Ct.v:=a7 h (Ct.frz_v h) l
@[simp] theorem FC (k:Nat) (l:List Ct):aM k (l.map Ct.v)=true:=ch k (Ct.bel_v k) l
@[simp] theorem MS (l:List Ct):aG (l.map Ct.v)=[]:=b4 Ct.owns_v l
@[simp] theorem Co.frz_v (h:ae) (c:Co):c.v.frz h=c.v:=by simp [Co.v,aa.frz,aQ]
@[simp] theorem Co.bel_v (k:Nat) (c:Co):c.v.bel k=true:=by simp [Co.v,aa.bel,aM]
@[simp] theorem Co.owns_v (c:Co):c.v.owns=[]:=by simp [Co.v,aa.owns,aG]
@[simp] theorem Gu (h:ae) (l:List Co):aQ h (l.map Co.v)=l.map Co.v:=a7 h (Co.frz_v h) l
@[simp] theorem wC (k:Nat) (l:List Co):aM k (l.map Co.v)=true:=ch k (Co.bel_v k) l
@[simp] theorem DD (l:List Co):aG (l.map Co.v)=[]:=b4 Co.owns_v l
@[simp] theorem Rf.frz_v (h:ae) (c:Rf):c.v.frz h=c.v:=by simp [Rf.v,aa.frz,aQ]
@[simp] theorem Rf.bel_v (k:Nat) (c:Rf):c.v.bel k=true:=by simp [Rf.v,aa.bel,aM]
@[simp] theorem Rf.owns_v (c:Rf):c.v.owns=[]:=by simp [Rf.v,aa.owns,aG]
@[simp] theorem Pt (h:ae) (l:List Rf):aQ h (l.map Rf.v)=l.map Rf.v:=a7 h (Rf.frz_v h) l
@[simp] theorem Gb (k:Nat) (l:List Rf):aM k (l.map Rf.v)=true:=ch k (Rf.bel_v k) l
@[simp] theorem MJ (l:List Rf):aG (l.map Rf.v)=[]:=b4 Rf.owns_v l
@[simp] theorem Sm.frz_v (h:ae) (c:Sm):c.v.frz h=c.v:=by simp [Sm.v,aa.frz,aQ]
@[simp] theorem Sm.bel_v (k:Nat) (c:Sm):c.v.bel k=true:=by simp [Sm.v,aa.bel,aM]
@[simp] theorem Sm.owns_v (c:Sm):c.v.owns=[]:=by simp [Sm.v,aa.owns,aG]
@[simp] theorem Ef (h:ae) (l:List Sm):aQ h (l.map Sm.v)=l.map Sm.v:=a7 h (Sm.frz_v h) l
@[simp] theorem wh (k:Nat) (l:List Sm):aM k (l.map Sm.v)=true:=ch k (Sm.bel_v k) l
@[simp] theorem tB (l:List Sm):aG (l.map Sm.v)=[]:=b4 Sm.owns_v l
@[simp] theorem Tb.frz_v (h:ae) (c:Tb):c.v.frz h=c.v:=by simp [Tb.v,aa.frz,aQ]
@[simp] theorem Tb.bel_v (k:Nat) (c:Tb):c.v.bel k=true:=by simp [Tb.v,aa.bel,aM]
@[simp] theorem Tb.owns_v (c:Tb):c.v.owns=[]:=by simp [Tb.v,aa.owns,aG]
@[simp] theorem Np (h:ae) (l:List Tb):aQ h (l.map Tb.v)=l.map Tb.v:=a7 h (Tb.frz_v h) l
@[simp] theorem mR (k:Nat) (l:List Tb):aM k (l.map Tb.v)=true:=ch k (Tb.bel_v k) l
@[simp] theorem MQ (l:List Tb):aG (l.map Tb.v)=[]:=b4 Tb.owns_v l
@[simp] theorem Sc.frz_v (h:ae) (c:Sc):c.v.frz h=c.v:=by simp [Sc.v,aa.frz,aQ]
@[simp] theorem Sc.bel_v (k:Nat) (c:Sc):c.v.bel k=true:=by simp [Sc.v,aa.bel,aM]
@[simp] theorem Sc.owns_v (c:Sc):c.v.owns=[]:=by simp [Sc.v,aa.owns,aG]
def Ct.beq (a b:Ct):Bool:=(a.name==b.name) && ((a.has==b.has) && a.arg.beq b.arg)
def Co.beq (a b:Co):Bool:=(a.name==b.name) && a.type.beq b.type
def Rf.beq (a b:Rf):Bool:=(a.col==b.col) && (a.tab==b.tab)
def Sm.beq (a b:Sm):Bool:=(a.name==b.name) && bX Ct.beq a.ctors b.ctors
def Tb.beq (a b:Tb):Bool:=(a.name==b.name) && (bX Co.beq a.cols b.cols && ((a.key==b.key) && (bX Rf.beq a.refs b.refs && a.chk.beq b.chk)))
def Sc.beq (a b:Sc):Bool:=bX Sm.beq a.sums b.sums && bX Tb.beq a.tabs b.tabs
def Ct.sm (c:Ct):Prop:=c.arg.sz<100000000
def Co.sm (c:Co):Prop:=c.type.sz<100000000
def Sm.sm (s:Sm):Prop:=s.ctors.length<1000000000/\∀ c∈s.ctors,c.sm
def Tb.sm (t:Tb):Prop:=t.cols.length<1000000000/\(∀ c∈t.cols,c.sm)/\t.key.length<1000000000/\t.refs.length<1000000000/\t.chk.sz<100000000
def Sc.sm (s:Sc):Prop:=s.sums.length<1000000000/\(∀ x∈s.sums,x.sm)/\s.tabs.length<1000000000/\∀ x∈s.tabs,x.sm
theorem bF {α:Type} (l:List α) (d:α) (i:Nat) (h:i<l.length):l.getD i d∈l:=by
 rw [List.getD_eq_getElem?_getD,List.getElem?_eq_getElem h];exact List.getElem_mem h
theorem ej (c:Ct):(Ct.v c).cells=[.str c.name,.bool c.has,.int .i64 c.arg.kind,.str c.arg.name,.int .i64 c.arg.n,.imm (c.arg.names.map .str),.imm (c.arg.kids.map Ty.enc)]:=rfl
theorem dV (c:Co):(Co.v c).cells=[.str c.name,.int .i64 c.type.kind,.str c.type.name,.int .i64 c.type.n,.imm (c.type.names.map .str),.imm (c.type.kids.map Ty.enc)]:=rfl
theorem fV (r:Rf):(Rf.v r).cells=[.str r.col,.str r.tab]:=rfl
theorem dQ (s:Sm):(Sm.v s).cells=[.str s.name,.imm (s.ctors.map Ct.v)]:=rfl
theorem cQ (t:Tb):(Tb.v t).cells=[.str t.name,.imm (t.cols.map Co.v),.imm (t.key.map .str),.imm (t.refs.map Rf.v),.int .i64 t.chk.kind,.str t.chk.name,.int .i64 t.chk.n,.str t.chk.s,.imm (t.chk.names.map .str),.imm (t.chk.binds.map .str),.imm (t.chk.kids.map Ex.enc),.int .i64 t.chk.pos,.int .i64 t.chk.fin]:=rfl
end Go.Proofs.YtcpklndelobigaaGreatDoor
namespace Go.Proofs.YtcpklndelobigaaGreatDoor
open Go.Proofs.YtcpklndelobigaaGreatDoor.Abs
set_option maxRecDepth 20000
set_option maxHeartbeats 4000000
end Go.Proofs.YtcpklndelobigaaGreatDoor
