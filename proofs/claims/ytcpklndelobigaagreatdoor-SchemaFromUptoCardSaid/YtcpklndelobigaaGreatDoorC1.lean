/- Types as plain data, and what Equal says of them. No condition. -/
import Derived.Test.YtcpklndelobigaaGreatDoorS1
set_option linter.all false
namespace Go.Proofs.YtcpklndelobigaaGreatDoor
open Go.Proofs.YtcpklndelobigaaGreatDoor.Abs
inductive Ty where
 | mk (kind:Int) (name:List UInt8) (n:Int) (names:List (List UInt8)) (kids:List Ty)
def Ty.kind:Ty->Int|.mk k _ _ _ _=>k
def Ty.name:Ty->List UInt8|.mk _ x _ _ _=>x
def Ty.n:Ty->Int|.mk _ _ n _ _=>n
def Ty.names:Ty->List (List UInt8)|.mk _ _ _ l _=>l
def Ty.kids:Ty->List Ty|.mk _ _ _ _ l=>l
def Ty.zero:Ty:=.mk 0 [] 0 [] []
mutual
def Ty.enc:Ty->aa
 | .mk k x n l ks=>.agg [.int .i64 k,.str x,.int .i64 n,.imm (l.map .str),.imm (Ty.encL ks)]
def Ty.encL:List Ty->List aa
 | []=>[]
 | t::l=>t.enc::Ty.encL l
end
theorem Ty.encL_map:∀ l,Ty.encL l=l.map Ty.enc
 | []=>rfl
 | t::l=>by rw [Ty.encL,Ty.encL_map l];rfl
abbrev Ty.bx (t:Ty):ax:=.box [.int .i64 t.kind,.str t.name,.int .i64 t.n,.imm (t.names.map .str),.imm (t.kids.map Ty.enc)]
def Ty.v (t:Ty):aa:=.agg [.int .i64 t.kind,.str t.name,.int .i64 t.n,.imm (t.names.map .str),.imm (t.kids.map Ty.enc)]
theorem Ty.enc_v (t:Ty):t.enc=t.v:=by cases t;simp only [Ty.enc,Ty.encL_map];rfl
theorem db (t:Ty):t.enc.cells=[.int .i64 t.kind,.str t.name,.int .i64 t.n,.imm (t.names.map .str),.imm (t.kids.map Ty.enc)]:=by rw [Ty.enc_v];rfl
theorem dN (t:Ty):t.enc.cells.length=5:=by rw [db];rfl
theorem tW (t:Ty):(t.enc.cells.length==5 && t.enc.cells.all aa.cellOk)=true:=by rw [db];rfl
mutual
theorem Ty.frz_enc (h:ae):∀ t:Ty,t.enc.frz h=t.enc
 | .mk k x n l ks=>by simp only [Ty.enc,aa.frz,aQ,oo,Ty.frz_encL h ks]
theorem Ty.frz_encL (h:ae):∀ l:List Ty,aQ h (Ty.encL l)=Ty.encL l
 | []=>rfl
 | t::l=>by simp only [Ty.encL,aQ,Ty.frz_enc h t,Ty.frz_encL h l]
end
mutual
theorem Ty.bel_enc (k:Nat):∀ t:Ty,t.enc.bel k=true
 | .mk _ x n l ks=>by simp only [Ty.enc,aa.bel,aM,oJ,Ty.bel_encL k ks,Bool.and_self]
theorem Ty.bel_encL (k:Nat):∀ l:List Ty,aM k (Ty.encL l)=true
 | []=>rfl
 | t::l=>by simp only [Ty.encL,aM,Ty.bel_enc k t,Ty.bel_encL k l,Bool.and_self]
end
mutual
theorem Ty.owns_enc:∀ t:Ty,t.enc.owns=[]
 | .mk _ x n l ks=>by simp only [Ty.enc,aa.owns,aG,rA,Ty.owns_encL ks,List.append_nil]
theorem Ty.owns_encL:∀ l:List Ty,aG (Ty.encL l)=[]
 | []=>rfl
 | t::l=>by simp only [Ty.encL,aG,Ty.owns_enc t,Ty.owns_encL l,List.append_nil]
end
@[simp] theorem Od (h:ae) (l:List Ty):aQ h (l.map Ty.enc)=l.map Ty.enc:=a7 h (Ty.frz_enc h) l
@[simp] theorem OT (k:Nat) (l:List Ty):aM k (l.map Ty.enc)=true:=ch k (Ty.bel_enc k) l
@[simp] theorem MT (l:List Ty):aG (l.map Ty.enc)=[]:=b4 Ty.owns_enc l
@[simp] theorem HU (h:ae) (t:Ty):t.v.frz h=t.v:=by simp [Ty.v]
@[simp] theorem P3 (k:Nat) (t:Ty):t.v.bel k=true:=by simp [Ty.v]
@[simp] theorem NJ (t:Ty):t.v.owns=[]:=by simp [Ty.v]
def szS:List (List UInt8)->Nat
 | []=>0
 | x::l=>x.length+1+szS l
mutual
def Ty.sz:Ty->Nat
 | .mk _ x _ l ks=>1+x.length+szS l+Ty.szL ks
def Ty.szL:List Ty->Nat
 | []=>0
 | t::l=>t.sz+1+Ty.szL l
end
theorem nY:∀ l,l.length<=szS l
 | []=>Nat.le_refl _
 | x::l=>by have:=nY l;simp [szS];omega
theorem Bw:∀ l,l.length<=Ty.szL l
 | []=>Nat.le_refl _
 | x::l=>by have:=Bw l;simp [Ty.szL];omega
theorem xT:∀ (l:List Ty) (i:Nat),i<l.length->(l.getD i Ty.zero).sz<Ty.szL l
 | [],i,h=>by simp at h
 | x::l,0,_=>by simp [Ty.szL];omega
 | x::l,i+1,h=>by have:=xT l i (by simpa using h);simp [Ty.szL] at *;omega
theorem re (t:Ty):t.sz=1+t.name.length+szS t.names+Ty.szL t.kids:=by cases t;simp [Ty.sz,Ty.name,Ty.names,Ty.kids]
theorem jh (t:Ty):t.names.length<t.sz:=by have:=nY t.names;have e:=re t;omega
theorem iT (t:Ty):t.kids.length<t.sz:=by have:=Bw t.kids;have e:=re t;omega
theorem fv (t:Ty) (i:Nat) (h:i<t.kids.length):(t.kids.getD i Ty.zero).sz<t.sz:=by have:=xT t.kids i h;have e:=re t;omega
def bX {α β:Type} (p:α->β->Bool):List α->List β->Bool
 | [],[]=>true
 | x::xs,y::ys=>p x y && bX p xs ys
 | _,_=>false
theorem dg {α β:Type} (p:α->β->Bool):∀ (a:List α) (b:List β),a.length≠b.length->bX p a b=false
 | [],[],h=>absurd rfl h
 | [],_::_,_=>rfl
 | _::_,[],_=>rfl
 | x::a,y::b,h=>by rw [bX,dg p a b (fun e=>h (by simp [e])),Bool.and_false]
theorem cd {α β:Type} (p:α->β->Bool) (d:α) (e:β):∀ (a:List α) (b:List β),a.length=b.length->(∀ i,i<a.length->p (a.getD i d) (b.getD i e)=true)->bX p a b=true
 | [],[],_,_=>rfl
 | [],_::_,h,_=>by simp at h
 | _::_,[],h,_=>by simp at h
 | x::a,y::b,h,hp=>by
  have h0:=hp 0 zq;simp at h0;rw [bX,h0,cd p d e a b (by simpa using h) (fun i hi=>by simpa using hp (i+1) (by simpa using hi))];rfl
theorem dX {α β:Type} (p:α->β->Bool) (d:α) (e:β):∀ (a:List α) (b:List β) (i:Nat),a.length=b.length->i<a.length->p (a.getD i d) (b.getD i e)=false->bX p a b=false
 | [],_,i,_,hi,_=>by simp at hi
 | _::_,[],_,h,_,_=>by simp at h
 | x::a,y::b,0,_,_,hp=>by simp at hp;rw [bX,hp];rfl
 | x::a,y::b,i+1,h,hi,hp=>by rw [bX,dX p d e a b i (by simpa using h) (by simpa using hi) (by simpa using hp),Bool.and_false]
theorem lD {α:Type} [BEq α] [LawfulBEq α]:∀ (a b:List α),bX (·==·) a b=(a==b)
 | [],[]=>rfl
 | [],_::_=>rfl
 | _::_,[]=>rfl
 | x::a,y::b=>by rw [bX,lD a b];rfl
mutual
def Ty.beq:Ty->Ty->Bool
 | .mk k x n l ks,.mk k' x' n' l' ks'=>(k==k') && ((x==x') && ((n==n') && ((l==l') && Ty.beqL ks ks')))
def Ty.beqL:List Ty->List Ty->Bool
 | [],[]=>true
 | x::xs,y::ys=>x.beq y && Ty.beqL xs ys
 | _,_=>false
end
theorem ww:∀ a b,Ty.beqL a b=bX Ty.beq a b
 | [],[]=>rfl
 | [],_::_=>rfl
 | _::_,[]=>rfl
 | x::a,y::b=>by rw [Ty.beqL,bX,ww a b]
theorem beq_eq (a b:Ty):a.beq b=((a.kind==b.kind) && ((a.name==b.name) && ((a.n==b.n) && ((a.names==b.names) && bX Ty.beq a.kids b.kids)))):=by
 cases a;cases b;simp only [Ty.beq,ww];rfl
end Go.Proofs.YtcpklndelobigaaGreatDoor
