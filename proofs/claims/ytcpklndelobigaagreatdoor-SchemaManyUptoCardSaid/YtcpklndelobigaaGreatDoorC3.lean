/- Expressions and schemas as plain data, and what Equal says of them. No condition. -/
import Derived.Test.YtcpklndelobigaaGreatDoorC2
set_option linter.all false
namespace Go.Proofs.YtcpklndelobigaaGreatDoor
open Go.Proofs.YtcpklndelobigaaGreatDoor.Abs
inductive Ex where
 | mk (kind:Int) (name:List UInt8) (n:Int) (s:List UInt8) (names binds:List (List UInt8)) (kids:List Ex) (pos fin:Int)
def Ex.kind:Ex→Int|.mk k _ _ _ _ _ _ _ _=>k
def Ex.name:Ex→List UInt8|.mk _ x _ _ _ _ _ _ _=>x
def Ex.n:Ex→Int|.mk _ _ n _ _ _ _ _ _=>n
def Ex.s:Ex→List UInt8|.mk _ _ _ s _ _ _ _ _=>s
def Ex.names:Ex→List (List UInt8)|.mk _ _ _ _ l _ _ _ _=>l
def Ex.binds:Ex→List (List UInt8)|.mk _ _ _ _ _ l _ _ _=>l
def Ex.kids:Ex→List Ex|.mk _ _ _ _ _ _ l _ _=>l
def Ex.pos:Ex→Int|.mk _ _ _ _ _ _ _ p _=>p
def Ex.fin:Ex→Int|.mk _ _ _ _ _ _ _ _ q=>q
def Ex.zero:Ex:=.mk 0 [] 0 [] [] [] [] 0 0
mutual
def Ex.enc:Ex→aa
 | .mk k x n s l b ks p q=>.agg [.int .i64 k,.str x,.int .i64 n,.str s,.imm (l.map .str),.imm (b.map .str),.imm (Ex.encL ks),.int .i64 p,.int .i64 q]
def Ex.encL:List Ex→List aa
 | []=>[]
 | t::l=>t.enc::Ex.encL l
end
theorem Ex.encL_map:∀ l,Ex.encL l=l.map Ex.enc
 | []=>rfl
 | t::l=>by rw [Ex.encL,Ex.encL_map l];rfl
def Ex.v (t:Ex):aa:=.agg [.int .i64 t.kind,.str t.name,.int .i64 t.n,.str t.s,.imm (t.names.map .str),.imm (t.binds.map .str),.imm (t.kids.map Ex.enc),.int .i64 t.pos,.int .i64 t.fin]
theorem Ex.enc_v (t:Ex):t.enc=t.v:=by cases t;simp only [Ex.enc,Ex.encL_map];rfl
theorem ma (t:Ex):t.enc.cells=[.int .i64 t.kind,.str t.name,.int .i64 t.n,.str t.s,.imm (t.names.map .str),.imm (t.binds.map .str),.imm (t.kids.map Ex.enc),.int .i64 t.pos,.int .i64 t.fin]:=by rw [Ex.enc_v];rfl
theorem tg (t:Ex):t.enc.cells.length=9:=by rw [ma];rfl
mutual
theorem Ex.frz_enc (h:ae):∀ t:Ex,t.enc.frz h=t.enc
 | .mk k x n s l b ks p q=>by simp only [Ex.enc,aa.frz,aZ,nm,Ex.frz_encL h ks]
theorem Ex.frz_encL (h:ae):∀ l:List Ex,aZ h (Ex.encL l)=Ex.encL l
 | []=>rfl
 | t::l=>by simp only [Ex.encL,aZ,Ex.frz_enc h t,Ex.frz_encL h l]
end
mutual
theorem Ex.bel_enc (k:Nat):∀ t:Ex,t.enc.bel k=true
 | .mk _ x n s l b ks p q=>by simp only [Ex.enc,aa.bel,av,kc,Ex.bel_encL k ks,Bool.and_self]
theorem Ex.bel_encL (k:Nat):∀ l:List Ex,av k (Ex.encL l)=true
 | []=>rfl
 | t::l=>by simp only [Ex.encL,av,Ex.bel_enc k t,Ex.bel_encL k l,Bool.and_self]
end
mutual
theorem Ex.owns_enc:∀ t:Ex,t.enc.owns=[]
 | .mk _ x n s l b ks p q=>by simp only [Ex.enc,aa.owns,aO,l8,Ex.owns_encL ks,List.append_nil]
theorem Ex.owns_encL:∀ l:List Ex,aO (Ex.encL l)=[]
 | []=>rfl
 | t::l=>by simp only [Ex.encL,aO,Ex.owns_enc t,Ex.owns_encL l,List.append_nil]
end
@[simp] theorem Bl (h:ae) (l:List Ex):aZ h (l.map Ex.enc)=l.map Ex.enc:=aY h (Ex.frz_enc h) l
@[simp] theorem Cs (k:Nat) (l:List Ex):av k (l.map Ex.enc)=true:=bU k (Ex.bel_enc k) l
@[simp] theorem AG (l:List Ex):aO (l.map Ex.enc)=[]:=bI Ex.owns_enc l
@[simp] theorem CE (h:ae) (t:Ex):t.v.frz h=t.v:=by simp [Ex.v]
@[simp] theorem CG (k:Nat) (t:Ex):t.v.bel k=true:=by simp [Ex.v]
@[simp] theorem AY (t:Ex):t.v.owns=[]:=by simp [Ex.v]
mutual
def Ex.sz:Ex→Nat
 | .mk _ x _ s l b ks _ _=>1+x.length+s.length+szS l+szS b+Ex.szL ks
def Ex.szL:List Ex→Nat
 | []=>0
 | t::l=>t.sz+1+Ex.szL l
end
theorem pV:∀ l,l.length≤Ex.szL l
 | []=>Nat.le_refl _
 | x::l=>by have:=pV l;simp [Ex.szL];omega
theorem mZ:∀ (l:List Ex) (i:Nat),i<l.length→(l.getD i Ex.zero).sz<Ex.szL l
 | [],i,h=>by simp at h
 | x::l,0,_=>by simp [Ex.szL];omega
 | x::l,i+1,h=>by have:=mZ l i (by simpa using h);simp [Ex.szL] at *;omega
theorem nM (t:Ex):t.sz=1+t.name.length+t.s.length+szS t.names+szS t.binds+Ex.szL t.kids:=by cases t;simp [Ex.sz,Ex.name,Ex.s,Ex.names,Ex.binds,Ex.kids]
theorem tD (t:Ex):t.names.length<t.sz:=by have:=lg t.names;have e:=nM t;omega
theorem uH (t:Ex):t.binds.length<t.sz:=by have:=lg t.binds;have e:=nM t;omega
theorem vi (t:Ex):t.kids.length<t.sz:=by have:=pV t.kids;have e:=nM t;omega
theorem nG (t:Ex) (i:Nat) (h:i<t.kids.length):(t.kids.getD i Ex.zero).sz<t.sz:=by have:=mZ t.kids i h;have e:=nM t;omega
mutual
def Ex.beq:Ex→Ex→Bool
 | .mk k x n s l b ks _ _,.mk k' x' n' s' l' b' ks' _ _=>(k==k') && ((x==x') && ((n==n') && ((s==s') && ((l==l') && ((b==b') && Ex.beqL ks ks')))))
def Ex.beqL:List Ex→List Ex→Bool
 | [],[]=>true
 | x::xs,y::ys=>x.beq y && Ex.beqL xs ys
 | _,_=>false
end
theorem nv:∀ a b,Ex.beqL a b=bw Ex.beq a b
 | [],[]=>by rw [Ex.beqL,bw]
 | [],_::_=>by simp [Ex.beqL,bw]
 | _::_,[]=>by simp [Ex.beqL,bw]
 | x::a,y::b=>by rw [Ex.beqL,bw,nv a b]
theorem tA (a b:Ex):a.beq b=((a.kind==b.kind) && ((a.name==b.name) && ((a.n==b.n) && ((a.s==b.s) && ((a.names==b.names) && ((a.binds==b.binds) && bw Ex.beq a.kids b.kids)))))):=by
 cases a;cases b;simp only [Ex.beq,nv];rfl
end Go.Proofs.YtcpklndelobigaaGreatDoor
