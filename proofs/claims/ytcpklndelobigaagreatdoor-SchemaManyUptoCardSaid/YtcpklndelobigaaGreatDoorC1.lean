/- Types as plain data, and what Equal says of them. No condition. -/
import Derived.Test.YtcpklndelobigaaGreatDoorS1
set_option linter.all false
namespace Go.Proofs.YtcpklndelobigaaGreatDoor
open Go.Proofs.YtcpklndelobigaaGreatDoor.Abs
inductive Ty where
 | mk (kind:Int) (name:List UInt8) (n:Int) (names:List (List UInt8)) (kids:List Ty)
def Ty.kind:Ty→Int|.mk k _ _ _ _=>k
def Ty.name:Ty→List UInt8|.mk _ x _ _ _=>x
def Ty.n:Ty→Int|.mk _ _ n _ _=>n
def Ty.names:Ty→List (List UInt8)|.mk _ _ _ l _=>l
def Ty.kids:Ty→List Ty|.mk _ _ _ _ l=>l
def Ty.zero:Ty:=.mk 0 [] 0 [] []
mutual
def Ty.enc:Ty→aa
 | .mk k x n l ks=>.agg [.int .i64 k,.str x,.int .i64 n,.imm (l.map .str),.imm (Ty.encL ks)]
def Ty.encL:List Ty→List aa
 | []=>[]
 | t::l=>t.enc::Ty.encL l
end
theorem Ty.encL_map:∀ l,Ty.encL l=l.map Ty.enc
 | []=>rfl
 | t::l=>by rw [Ty.encL,Ty.encL_map l];rfl
abbrev Ty.bx (t:Ty):ai:=.box [.int .i64 t.kind,.str t.name,.int .i64 t.n,.imm (t.names.map .str),.imm (t.kids.map Ty.enc)]
def Ty.v (t:Ty):aa:=.agg [.int .i64 t.kind,.str t.name,.int .i64 t.n,.imm (t.names.map .str),.imm (t.kids.map Ty.enc)]
theorem Ty.enc_v (t:Ty):t.enc=t.v:=by cases t;simp only [Ty.enc,Ty.encL_map];rfl
theorem gZ (t:Ty):t.enc.cells=[.int .i64 t.kind,.str t.name,.int .i64 t.n,.imm (t.names.map .str),.imm (t.kids.map Ty.enc)]:=by rw [Ty.enc_v];rfl
theorem lj (t:Ty):t.enc.cells.length=5:=by rw [gZ];rfl
mutual
theorem Ty.frz_enc (h:ae):∀ t:Ty,t.enc.frz h=t.enc
 | .mk k x n l ks=>by simp only [Ty.enc,aa.frz,aZ,nm,Ty.frz_encL h ks]
theorem Ty.frz_encL (h:ae):∀ l:List Ty,aZ h (Ty.encL l)=Ty.encL l
 | []=>rfl
 | t::l=>by simp only [Ty.encL,aZ,Ty.frz_enc h t,Ty.frz_encL h l]
end
mutual
theorem Ty.bel_enc (k:Nat):∀ t:Ty,t.enc.bel k=true
 | .mk _ x n l ks=>by simp only [Ty.enc,aa.bel,av,kc,Ty.bel_encL k ks,Bool.and_self]
theorem Ty.bel_encL (k:Nat):∀ l:List Ty,av k (Ty.encL l)=true
 | []=>rfl
 | t::l=>by simp only [Ty.encL,av,Ty.bel_enc k t,Ty.bel_encL k l,Bool.and_self]
end
mutual
theorem Ty.owns_enc:∀ t:Ty,t.enc.owns=[]
 | .mk _ x n l ks=>by simp only [Ty.enc,aa.owns,aO,l8,Ty.owns_encL ks,List.append_nil]
theorem Ty.owns_encL:∀ l:List Ty,aO (Ty.encL l)=[]
 | []=>rfl
 | t::l=>by simp only [Ty.encL,aO,Ty.owns_enc t,Ty.owns_encL l,List.append_nil]
end
@[simp] theorem AS (h:ae) (l:List Ty):aZ h (l.map Ty.enc)=l.map Ty.enc:=aY h (Ty.frz_enc h) l
@[simp] theorem B6 (k:Nat) (l:List Ty):av k (l.map Ty.enc)=true:=bU k (Ty.bel_enc k) l
@[simp] theorem Ax (l:List Ty):aO (l.map Ty.enc)=[]:=bI Ty.owns_enc l
@[simp] theorem CB (h:ae) (t:Ty):t.v.frz h=t.v:=by simp [Ty.v]
@[simp] theorem Cy (k:Nat) (t:Ty):t.v.bel k=true:=by simp [Ty.v]
@[simp] theorem Bg (t:Ty):t.v.owns=[]:=by simp [Ty.v]
def szS:List (List UInt8)→Nat
 | []=>0
 | x::l=>x.length+1+szS l
mutual
def Ty.sz:Ty→Nat
 | .mk _ x _ l ks=>1+x.length+szS l+Ty.szL ks
def Ty.szL:List Ty→Nat
 | []=>0
 | t::l=>t.sz+1+Ty.szL l
end
theorem lg:∀ l,l.length≤szS l
 | []=>Nat.le_refl _
 | x::l=>by have:=lg l;simp [szS];omega
theorem s5:∀ l,l.length≤Ty.szL l
 | []=>Nat.le_refl _
 | x::l=>by have:=s5 l;simp [Ty.szL];omega
theorem p6:∀ (l:List Ty) (i:Nat),i<l.length→(l.getD i Ty.zero).sz<Ty.szL l
 | [],i,h=>by simp at h
 | x::l,0,_=>by simp [Ty.szL];omega
 | x::l,i+1,h=>by have:=p6 l i (by simpa using h);simp [Ty.szL] at *;omega
theorem wz (t:Ty):t.sz=1+t.name.length+szS t.names+Ty.szL t.kids:=by cases t;simp [Ty.sz,Ty.name,Ty.names,Ty.kids]
theorem pg (t:Ty):t.names.length<t.sz:=by have:=lg t.names;have e:=wz t;omega
theorem tb (t:Ty):t.kids.length<t.sz:=by have:=s5 t.kids;have e:=wz t;omega
theorem l3 (t:Ty) (i:Nat) (h:i<t.kids.length):(t.kids.getD i Ty.zero).sz<t.sz:=by have:=p6 t.kids i h;have e:=wz t;omega
def bw {α β:Type} (p:α→β→Bool):List α→List β→Bool
 | [],[]=>true
 | x::xs,y::ys=>p x y && bw p xs ys
 | _,_=>false
theorem cl {α β:Type} (p:α→β→Bool):∀ (a:List α) (b:List β),a.length≠b.length→bw p a b=false
 | [],[],h=>absurd rfl h
 | [],_::_,_=>rfl
 | _::_,[],_=>rfl
 | x::a,y::b,h=>by rw [bw,cl p a b (fun e=>h (by simp [e])),Bool.and_false]
theorem bH {α β:Type} (p:α→β→Bool) (d:α) (e:β):∀ (a:List α) (b:List β),a.length=b.length→(∀ i,i<a.length→p (a.getD i d) (b.getD i e)=true)→bw p a b=true
 | [],[],_,_=>rfl
 | [],_::_,h,_=>by simp at h
 | _::_,[],h,_=>by simp at h
 | x::a,y::b,h,hp=>by
  have h0:=hp 0 zq
  simp at h0
  rw [bw,h0,bH p d e a b (by simpa using h) (fun i hi=>by simpa using hp (i+1) (by simpa using hi))];rfl
theorem cN {α β:Type} (p:α→β→Bool) (d:α) (e:β):∀ (a:List α) (b:List β) (i:Nat),a.length=b.length→i<a.length→p (a.getD i d) (b.getD i e)=false→bw p a b=false
 | [],_,i,_,hi,_=>by simp at hi
 | _::_,[],_,h,_,_=>by simp at h
 | x::a,y::b,0,_,_,hp=>by simp at hp;rw [bw,hp];rfl
 | x::a,y::b,i+1,h,hi,hp=>by rw [bw,cN p d e a b i (by simpa using h) (by simpa using hi) (by simpa using hp),Bool.and_false]
theorem ig {α:Type} [BEq α] [LawfulBEq α]:∀ (a b:List α),bw (·==·) a b=(a==b)
 | [],[]=>rfl
 | [],_::_=>rfl
 | _::_,[]=>rfl
 | x::a,y::b=>by rw [bw,ig a b];rfl
mutual
def Ty.beq:Ty→Ty→Bool
 | .mk k x n l ks,.mk k' x' n' l' ks'=>(k==k') && ((x==x') && ((n==n') && ((l==l') && Ty.beqL ks ks')))
def Ty.beqL:List Ty→List Ty→Bool
 | [],[]=>true
 | x::xs,y::ys=>x.beq y && Ty.beqL xs ys
 | _,_=>false
end
theorem oW:∀ a b,Ty.beqL a b=bw Ty.beq a b
 | [],[]=>rfl
 | [],_::_=>rfl
 | _::_,[]=>rfl
 | x::a,y::b=>by rw [Ty.beqL,bw,oW a b]
theorem beq_eq (a b:Ty):a.beq b=((a.kind==b.kind) && ((a.name==b.name) && ((a.n==b.n) && ((a.names==b.names) && bw Ty.beq a.kids b.kids)))):=by
 cases a;cases b;simp only [Ty.beq,oW];rfl
end Go.Proofs.YtcpklndelobigaaGreatDoor
