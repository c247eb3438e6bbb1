/- What the rows of this seat read: lists of numbers, the listed jS. No condition. -/
import Derived.Test.YtcpklndelobigaaGreatDoorRows
import Derived.Test.YtcpklndelobigaaGreatDoorS1
import Derived.Lay
set_option linter.all false
namespace Go.Proofs.YtcpklndelobigaaGreatDoor
open Go.Proofs.YtcpklndelobigaaGreatDoor.Abs
theorem SM:ownKnob Tryz.prog.godebug=none:=by kernel_rfl
theorem KT:laidOutB Tryz.prog=true:=by kernel_rfl
def LU:List TypeId:=[3,4,9,22,294,295]
theorem l4:xY Tryz.prog LU=true:=by kernel_rfl
def oj:List (String×DataW Unit):=Rows.schemaFromRow.laid
def kwD : String × DataW Unit := oj.getD 6 ("", .nil)
def syD : String × DataW Unit := oj.getD 7 ("", .nil)
theorem wv:oj.filter (fun x=>x.2.handleName?.isSome)=[]:=by kernel_rfl
theorem SW:(kwD.1,kwD.2)∈oj:=List.mem_of_getElem? (i:=6) rfl
theorem SJ:(syD.1,syD.2)∈oj:=List.mem_of_getElem? (i:=7) rfl
theorem NV:Tryz.prog.globalNamed kwD.1=some 5:=by kernel_rfl
theorem Mi:Tryz.prog.globalNamed syD.1=some 6:=by kernel_rfl
theorem MA:(Tryz.prog.globals[5]?).map (·.type)=some 294:=by kernel_rfl
theorem Ms:(Tryz.prog.globals[6]?).map (·.type)=some 295:=by kernel_rfl
theorem Io:(dOf kwD.2).cells=wY:=by kernel_rfl
theorem J6:(dOf syD.2).cells=xh:=by kernel_rfl
theorem jS {W:World} (hL:laidMetH Tryz.prog oj W):vC cx (p5 W) W:=by
 intro g cs hg;have hg':(bif Nat.beq g 5 then some wY else bif Nat.beq g 6 then some xh else none)=some cs:=hg;cases h5:Nat.beq g 5 with
 | true =>
  rw [h5] at hg';simp only [cond_true,Option.some.injEq] at hg';subst hg';rw [Nat.eq_of_beq_eq_true h5,<- Io];exact wo wv hL SW NV MA l4 rfl
 | false =>
  rw [h5] at hg';simp only [cond_false] at hg';cases h6:Nat.beq g 6 with
  | true =>
   rw [h6] at hg';simp only [cond_true,Option.some.injEq] at hg';subst hg';rw [Nat.eq_of_beq_eq_true h6,<- J6];exact wo wv hL SJ Mi Ms l4 rfl
  | false=>rw [h6] at hg';simp at hg'
theorem vA {H:Type}:∀ {elems:List (DataW H)},(∀ (i:Nat) x,elems[i]?=some x->∃ n,x=.lit (.int .i64 n)/\-9223372036854775808<=n/\n<=9223372036854775807)->∃ l:List Int,uQ elems=l.map (.int .i64)/\jU l/\l.length<=Rows.uptoBulkAll elems
 | [],_=>⟨[],rfl,by simp [jU],Nat.le_refl _⟩
 | x::r,key=>by
  obtain ⟨n,rfl,hn⟩:=key 0 x rfl;obtain ⟨l,h1,h2,h3⟩:=vA (elems:=r) (fun i y hy=>key (i+1) y (by simpa using hy));refine ⟨n::l,by simp [uQ,dOf,h1],?_,by simp [Rows.uptoBulkAll,Rows.uptoBulk];omega⟩;intro y hy;simp only [List.mem_cons] at hy;rcases hy with rfl|hy
  . exact hn
  . exact h2 y hy
section
variable {H:Type} {enc:TypeId×Value->H} {w:World} {sp:Nat->Bool} {held:Bool}
theorem DQ {fuel:Nat} {cs:List Value} {d:DataW H} {ps:List MemPlace} (h:DataW.trod enc Tryz.prog w 0 sp held fuel 22 cs=some (d,ps)):∃ l:List Int,dOf d=.imm (l.map (.int .i64))/\jU l/\l.length+1<=Rows.uptoBulk d:=by
 cases fuel with
 | zero=>simp [DataW.trod] at h
 | succ fuel =>
  rcases ns Tryz.underlying22 h with ⟨_,rfl⟩|⟨a,len,cap,elems,spare,_,rfl,_,_,hel⟩
  . exact ⟨[],rfl,by simp [jU],by simp [Rows.uptoBulk]⟩
  . have key:∀ (i:Nat) x,elems[i]?=some x->∃ n,x=.lit (.int .i64 n)/\-9223372036854775808<=n/\n<=9223372036854775807:=fun i x hx=>by
     obtain ⟨cs',ps',_,q⟩:=hel i x hx;cases fuel with
     | zero=>simp [DataW.trod] at q
     | succ fuel =>
      obtain ⟨n,_,rfl,hw⟩:=sV Tryz.underlying3 q;refine ⟨n,rfl,?_⟩;simpa [Lit.wf,IntKind.min,IntKind.max,IntKind.signed,IntKind.bits] using hw
    obtain ⟨l,h1,h2,h3⟩:=vA key;exact ⟨l,by simp [dOf,h1],h2,by simp only [Rows.uptoBulk];omega⟩
theorem ND {fuel:Nat} {cs:List Value} {d:DataW H} {ps:List MemPlace} (h:DataW.trod enc Tryz.prog w 0 sp held fuel 4 cs=some (d,ps)):∃ b:Bool,dOf d=.bool b:=by
 cases fuel with
 | zero=>simp [DataW.trod] at h
 | succ fuel =>
  obtain ⟨b,_,rfl⟩:=pZ Tryz.underlying4 h;exact ⟨b,rfl⟩
end
theorem HR (t:TypeId) (h:([22,9,3,4]:List TypeId).contains t=true):Tryz.prog.readableRec t=true/\t<Tryz.prog.types.size:=by
 simp at h;rcases h with rfl|rfl|rfl|rfl
 . exact ⟨by kernel_rfl,of_decide_eq_true kq⟩
 . exact ⟨by kernel_rfl,of_decide_eq_true kq⟩
 . exact ⟨by kernel_rfl,of_decide_eq_true kq⟩
 . exact ⟨by kernel_rfl,of_decide_eq_true kq⟩
noncomputable def KB (os:Os):World:=World.laidAll Tryz.prog os oj
theorem GM (os:Os) (args:Array Value):laidMet Tryz.prog oj ((KB os).forCall (fun _ _=>0) ⟨#[],args,[]⟩).memory:=laidMet_laidAll _ kq kq
end Go.Proofs.YtcpklndelobigaaGreatDoor
