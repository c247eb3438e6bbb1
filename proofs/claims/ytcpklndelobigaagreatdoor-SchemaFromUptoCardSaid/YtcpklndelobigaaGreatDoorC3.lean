/- Expressions and schemas as plain data, and what Equal says of them. No condition. -/
import Derived.Test.YtcpklndelobigaaGreatDoorC2
set_option linter.all false
namespace Go.Proofs.YtcpklndelobigaaGreatDoor
open Go.Proofs.YtcpklndelobigaaGreatDoor.Abs
inductive Ex where
 | mk (kind:Int) (name:List UInt8) (n:Int) (s:List UInt8) (names binds:List (List UInt8)) (kids:List Ex) (pos fin:Int)
def Ex.kind:Ex->Int|.mk k _ _ _ _ _ _ _ _=>k
def Ex.name:Ex->List UInt8|.mk _ x _ _ _ _ _ _ _=>x
def Ex.n:Ex->Int|.mk _ _ n _ _ _ _ _ _=>n
def Ex.s:Ex->List UInt8|.mk _ _ _ s _ _ _ _ _=>s
def Ex.names:Ex->List (List UInt8)|.mk _ _ _ _ l _ _ _ _=>l
def Ex.binds:Ex->List (List UInt8)|.mk _ _ _ _ _ l _ _ _=>l
def Ex.kids:Ex->List Ex|.mk _ _ _ _ _ _ l _ _=>l
def Ex.pos:Ex->Int|.mk _ _ _ _ _ _ _ p _=>p
def Ex.fin:Ex->Int|.mk _ _ _ _ _ _ _ _ q=>q
def Ex.zero:Ex:=.mk 0 [] 0 [] [] [] [] 0 0
mutual
def Ex.enc:Ex->aa
 | .mk k x n s l b ks p q=>.agg [.int .i64 k,.str x,.int .i64 n,.str s,.imm (l.map .str),.imm (b.map .str),.imm (Ex.encL ks),.int .i64 p,.int .i64 q]
def Ex.encL:List Ex->List aa
 | []=>[]
 | t::l=>t.enc::Ex.encL l
end
theorem Ex.encL_map:∀ l,Ex.encL l=l.map Ex.enc
 | []=>rfl
 | t::l=>by rw [Ex.encL,Ex.encL_map l];rfl
def Ex.v (t:Ex):aa:=.agg [.int .i64 t.kind,.str t.name,.int .i64 t.n,.str t.s,.imm (t.names.map .str),.imm (t.binds.map .str),.imm (t.kids.map Ex.enc),.int .i64 t.pos,.int .i64 t.fin]
theorem Ex.enc_v (t:Ex):t.enc=t.v:=by cases t;simp only [Ex.enc,Ex.encL_map];rfl
theorem rx (t:Ex):t.enc.cells=[.int .i64 t.kind,.str t.name,.int .i64 t.n,.str t.s,.imm (t.names.map .str),.imm (t.binds.map .str),.imm (t.kids.map Ex.enc),.int .i64 t.pos,.int .i64 t.fin]:=by rw [Ex.enc_v];rfl
theorem By (t:Ex):t.enc.cells.length=9:=by rw [rx];rfl
mutual
theorem Ex.frz_enc (h:ae):∀ t:Ex,t.enc.frz h=t.enc
 | .mk k x n s l b ks p q=>by simp only [Ex.enc,aa.frz,aQ,oo,Ex.frz_encL h ks]
theorem Ex.frz_encL (h:ae):∀ l:List Ex,aQ h (Ex.encL l)=Ex.encL l
 | []=>rfl
 | t::l=>by simp only [Ex.encL,aQ,Ex.frz_enc h t,Ex.frz_encL h l]
end
mutual
theorem Ex.bel_enc (k:Nat):∀ t:Ex,t.enc.bel k=true
 | .mk _ x n s l b ks p q=>by simp only [Ex.enc,aa.bel,aM,oJ,Ex.bel_encL k ks,Bool.and_self]
theorem Ex.bel_encL (k:Nat):∀ l:List Ex,aM k (Ex.encL l)=true
 | []=>rfl
 | t::l=>by simp only [Ex.encL,aM,Ex.bel_enc k t,Ex.bel_encL k l,Bool.and_self]
end
mutual
theorem Ex.owns_enc:∀ t:Ex,t.enc.owns=[]
 | .mk _ x n s l b ks p q=>by simp only [Ex.enc,aa.owns,aG,rA,Ex.owns_encL ks,List.append_nil]
theorem Ex.owns_encL:∀ l:List Ex,aG (Ex.encL l)=[]
 | []=>rfl
 | t::l=>by simp only [Ex.encL,aG,Ex.owns_enc t,Ex.owns_encL l,List.append_nil]
end
@[simp] theorem ND (h:ae) (l:List Ex):aQ h (l.map Ex.enc)=l.map Ex.enc:=a7 h (Ex.frz_enc h) l
@[simp] theorem O4 (k:Nat) (l:List Ex):aM k (l.map Ex.enc)=true:=ch k (Ex.bel_enc k) l
@[simp] theorem MW (l:List Ex):aG (l.map Ex.enc)=[]:=b4 Ex.owns_enc l
@[simp] theorem P0 (h:ae) (t:Ex):t.v.frz h=t.v:=by simp [Ex.v]
@[simp] theorem P2 (k:Nat) (t:Ex):t.v.bel k=true:=by simp [Ex.v]
@[simp] theorem M8 (t:Ex):t.v.owns=[]:=by simp [Ex.v]
mutual
def Ex.sz:Ex->Nat
 | .mk _ x _ s l b ks _ _=>1+x.length+s.length+szS l+szS b+Ex.szL ks
def Ex.szL:List Ex->Nat
 | []=>0
 | t::l=>t.sz+1+Ex.szL l
end
theorem wd:∀ l,l.length<=Ex.szL l
 | []=>Nat.le_refl _
 | x::l=>by have:=wd l;simp [Ex.szL];omega
theorem uk:∀ (l:List Ex) (i:Nat),i<l.length->(l.getD i Ex.zero).sz<Ex.szL l
 | [],i,h=>by simp at h
 | x::l,0,_=>by simp [Ex.szL];omega
 | x::l,i+1,h=>by have:=uk l i (by simpa using h);simp [Ex.szL] at *;omega
theorem ut (t:Ex):t.sz=1+t.name.length+t.s.length+szS t.names+szS t.binds+Ex.szL t.kids:=by cases t;simp [Ex.sz,Ex.name,Ex.s,Ex.names,Ex.binds,Ex.kids]
theorem DF (t:Ex):t.names.length<t.sz:=by have:=nY t.names;have e:=ut t;omega
theorem C8 (t:Ex):t.binds.length<t.sz:=by have:=nY t.binds;have e:=ut t;omega
theorem D9 (t:Ex):t.kids.length<t.sz:=by have:=wd t.kids;have e:=ut t;omega
theorem uT (t:Ex) (i:Nat) (h:i<t.kids.length):(t.kids.getD i Ex.zero).sz<t.sz:=by have:=uk t.kids i h;have e:=ut t;omega
mutual
def Ex.beq:Ex->Ex->Bool
 | .mk k x n s l b ks _ _,.mk k' x' n' s' l' b' ks' _ _=>(k==k') && ((x==x') && ((n==n') && ((s==s') && ((l==l') && ((b==b') && Ex.beqL ks ks')))))
def Ex.beqL:List Ex->List Ex->Bool
 | [],[]=>true
 | x::xs,y::ys=>x.beq y && Ex.beqL xs ys
 | _,_=>false
end
theorem tP:∀ a b,Ex.beqL a b=bX Ex.beq a b
 | [],[]=>by rw [Ex.beqL,bX]
 | [],_::_=>by simp [Ex.beqL,bX]
 | _::_,[]=>by simp [Ex.beqL,bX]
 | x::a,y::b=>by rw [Ex.beqL,bX,tP a b]
theorem AD (a b:Ex):a.beq b=((a.kind==b.kind) && ((a.name==b.name) && ((a.n==b.n) && ((a.s==b.s) && ((a.names==b.names) && ((a.binds==b.binds) && bX Ex.beq a.kids b.kids)))))):=by
 cases a;cases b;simp only [Ex.beq,tP];rfl
end Go.Proofs.YtcpklndelobigaaGreatDoor
