/- Schemas as plain data, and what Equal says of them. No condition. -/
import Derived.Test.YtcpklndelobigaaGreatDoorC4
set_option linter.all false
namespace Go.Proofs.YtcpklndelobigaaGreatDoor
open Go.Proofs.YtcpklndelobigaaGreatDoor.Abs
structure Ct where
 name:List UInt8
 has:Bool
 arg:Ty
structure Co where
 name:List UInt8
 type:Ty
structure Rf where
 col:List UInt8
 tab:List UInt8
structure Sm where
 name:List UInt8
 ctors:List Ct
structure Tb where
 name:List UInt8
 cols:List Co
 key:List (List UInt8)
 refs:List Rf
 chk:Ex
structure Sc where
 sums:List Sm
 tabs:List Tb
def Ct.zero:Ct:=⟨[],false,Ty.zero⟩
def Co.zero:Co:=⟨[],Ty.zero⟩
def Rf.zero:Rf:=⟨[],[]⟩
def Sm.zero:Sm:=⟨[],[]⟩
def Tb.zero:Tb:=⟨[],[],[],[],Ex.zero⟩
abbrev Ty.cs (t:Ty):List aa:=[.int .i64 t.kind,.str t.name,.int .i64 t.n,.imm (t.names.map .str),.imm (t.kids.map Ty.enc)]
def Ct.v (c:Ct):aa:=.agg [.str c.name,.bool c.has,.int .i64 c.arg.kind,.str c.arg.name,.int .i64 c.arg.n,.imm (c.arg.names.map .str),.imm (c.arg.kids.map Ty.enc)]
def Co.v (c:Co):aa:=.agg [.str c.name,.int .i64 c.type.kind,.str c.type.name,.int .i64 c.type.n,.imm (c.type.names.map .str),.imm (c.type.kids.map Ty.enc)]
def Rf.v (r:Rf):aa:=.agg [.str r.col,.str r.tab]
def Sm.v (s:Sm):aa:=.agg [.str s.name,.imm (s.ctors.map Ct.v)]
def Tb.v (t:Tb):aa:=.agg [.str t.name,.imm (t.cols.map Co.v),.imm (t.key.map .str),.imm (t.refs.map Rf.v),.int .i64 t.chk.kind,.str t.chk.name,.int .i64 t.chk.n,.str t.chk.s,.imm (t.chk.names.map .str),.imm (t.chk.binds.map .str),.imm (t.chk.kids.map Ex.enc),.int .i64 t.chk.pos,.int .i64 t.chk.fin]
def Sc.v (s:Sc):aa:=.agg [.imm (s.sums.map Sm.v),.imm (s.tabs.map Tb.v)]
@[simp] theorem Ct.frz_v (h:ae) (c:Ct):c.v.frz h=c.v:=by simp [Ct.v,aa.frz,aZ]
@[simp] theorem Ct.bel_v (k:Nat) (c:Ct):c.v.bel k=true:=by simp [Ct.v,aa.bel,av]
@[simp] theorem Ct.owns_v (c:Ct):c.v.owns=[]:=by simp [Ct.v,aa.owns,aO]
@[simp] theorem Cu (h:ae) (l:List Ct):aZ h (l.map Ct.v)=l.map Ct.v:=aY h (Ct.frz_v h) l
@[simp] theorem AX (k:Nat) (l:List Ct):av k (l.map Ct.v)=true:=bU k (Ct.bel_v k) l
@[simp] theorem Av (l:List Ct):aO (l.map Ct.v)=[]:=bI Ct.owns_v l
@[simp] theorem Co.frz_v (h:ae) (c:Co):c.v.frz h=c.v:=by simp [Co.v,aa.frz,aZ]
@[simp] theorem Co.bel_v (k:Nat) (c:Co):c.v.bel k=true:=by simp [Co.v,aa.bel,av]
@[simp] theorem Co.owns_v (c:Co):c.v.owns=[]:=by simp [Co.v,aa.owns,aO]
@[simp] theorem BM (h:ae) (l:List Co):aZ h (l.map Co.v)=l.map Co.v:=aY h (Co.frz_v h) l
@[simp] theorem wG (k:Nat) (l:List Co):av k (l.map Co.v)=true:=bU k (Co.bel_v k) l
@[simp] theorem AE (l:List Co):aO (l.map Co.v)=[]:=bI Co.owns_v l
@[simp] theorem Rf.frz_v (h:ae) (c:Rf):c.v.frz h=c.v:=by simp [Rf.v,aa.frz,aZ]
@[simp] theorem Rf.bel_v (k:Nat) (c:Rf):c.v.bel k=true:=by simp [Rf.v,aa.bel,av]
@[simp] theorem Rf.owns_v (c:Rf):c.v.owns=[]:=by simp [Rf.v,aa.owns,aO]
@[simp] theorem Ca (h:ae) (l:List Rf):aZ h (l.map Rf.v)=l.map Rf.v:=aY h (Rf.frz_v h) l
@[simp] theorem wh (k:Nat) (l:List Rf):av k (l.map Rf.v)=true:=bU k (Rf.bel_v k) l
@[simp] theorem Au (l:List Rf):aO (l.map Rf.v)=[]:=bI Rf.owns_v l
@[simp] theorem Sm.frz_v (h:ae) (c:Sm):c.v.frz h=c.v:=by simp [Sm.v,aa.frz,aZ]
@[simp] theorem Sm.bel_v (k:Nat) (c:Sm):c.v.bel k=true:=by simp [Sm.v,aa.bel,av]
@[simp] theorem Sm.owns_v (c:Sm):c.v.owns=[]:=by simp [Sm.v,aa.owns,aO]
@[simp] theorem BH (h:ae) (l:List Sm):aZ h (l.map Sm.v)=l.map Sm.v:=aY h (Sm.frz_v h) l
@[simp] theorem pa (k:Nat) (l:List Sm):av k (l.map Sm.v)=true:=bU k (Sm.bel_v k) l
@[simp] theorem AC (l:List Sm):aO (l.map Sm.v)=[]:=bI Sm.owns_v l
@[simp] theorem Tb.frz_v (h:ae) (c:Tb):c.v.frz h=c.v:=by simp [Tb.v,aa.frz,aZ]
@[simp] theorem Tb.bel_v (k:Nat) (c:Tb):c.v.bel k=true:=by simp [Tb.v,aa.bel,av]
@[simp] theorem Tb.owns_v (c:Tb):c.v.owns=[]:=by simp [Tb.v,aa.owns,aO]
@[simp] theorem Bx (h:ae) (l:List Tb):aZ h (l.map Tb.v)=l.map Tb.v:=aY h (Tb.frz_v h) l
@[simp] theorem js (k:Nat) (l:List Tb):av k (l.map Tb.v)=true:=bU k (Tb.bel_v k) l
@[simp] theorem AA (l:List Tb):aO (l.map Tb.v)=[]:=bI Tb.owns_v l
@[simp] theorem Sc.frz_v (h:ae) (c:Sc):c.v.frz h=c.v:=by simp [Sc.v,aa.frz,aZ]
@[simp] theorem Sc.bel_v (k:Nat) (c:Sc):c.v.bel k=true:=by simp [Sc.v,aa.bel,av]
@[simp] theorem Sc.owns_v (c:Sc):c.v.owns=[]:=by simp [Sc.v,aa.owns,aO]
def Ct.beq (a b:Ct):Bool:=(a.name==b.name) && ((a.has==b.has) && a.arg.beq b.arg)
def Co.beq (a b:Co):Bool:=(a.name==b.name) && a.type.beq b.type
def Rf.beq (a b:Rf):Bool:=(a.col==b.col) && (a.tab==b.tab)
def Sm.beq (a b:Sm):Bool:=(a.name==b.name) && bw Ct.beq a.ctors b.ctors
def Tb.beq (a b:Tb):Bool:=(a.name==b.name) && (bw Co.beq a.cols b.cols && ((a.key==b.key) && (bw Rf.beq a.refs b.refs && a.chk.beq b.chk)))
def Sc.beq (a b:Sc):Bool:=bw Sm.beq a.sums b.sums && bw Tb.beq a.tabs b.tabs
def Ct.sm (c:Ct):Prop:=c.arg.sz<100000000
def Co.sm (c:Co):Prop:=c.type.sz<100000000
def Sm.sm (s:Sm):Prop:=s.ctors.length<1000000000∧∀ c∈s.ctors,c.sm
def Tb.sm (t:Tb):Prop:=t.cols.length<1000000000∧(∀ c∈t.cols,c.sm)∧t.key.length<1000000000∧t.refs.length<1000000000∧t.chk.sz<100000000
def Sc.sm (s:Sc):Prop:=s.sums.length<1000000000∧(∀ x∈s.sums,x.sm)∧s.tabs.length<1000000000∧∀ x∈s.tabs,x.sm
theorem c5 {α:Type} (l:List α) (d:α) (i:Nat) (h:i<l.length):l.getD i d∈l:=by
 rw [List.getD_eq_getElem?_getD,List.getElem?_eq_getElem h];exact List.getElem_mem h
theorem fJ (c:Ct):(Ct.v c).cells=[.str c.name,.bool c.has,.int .i64 c.arg.kind,.str c.arg.name,.int .i64 c.arg.n,.imm (c.arg.names.map .str),.imm (c.arg.kids.map Ty.enc)]:=rfl
theorem dm (c:Co):(Co.v c).cells=[.str c.name,.int .i64 c.type.kind,.str c.type.name,.int .i64 c.type.n,.imm (c.type.names.map .str),.imm (c.type.kids.map Ty.enc)]:=rfl
theorem en (r:Rf):(Rf.v r).cells=[.str r.col,.str r.tab]:=rfl
theorem qC (s:Sm):(Sm.v s).cells=[.str s.name,.imm (s.ctors.map Ct.v)]:=rfl
theorem cV (t:Tb):(Tb.v t).cells=[.str t.name,.imm (t.cols.map Co.v),.imm (t.key.map .str),.imm (t.refs.map Rf.v),.int .i64 t.chk.kind,.str t.chk.name,.int .i64 t.chk.n,.str t.chk.s,.imm (t.chk.names.map .str),.imm (t.chk.binds.map .str),.imm (t.chk.kids.map Ex.enc),.int .i64 t.chk.pos,.int .i64 t.chk.fin]:=rfl
end Go.Proofs.YtcpklndelobigaaGreatDoor
