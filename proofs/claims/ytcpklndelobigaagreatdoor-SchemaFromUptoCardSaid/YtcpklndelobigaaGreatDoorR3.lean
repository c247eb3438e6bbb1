/- A part of the proof: plain lemmas and walks. No condition. -/
import Derived.Test.YtcpklndelobigaaGreatDoorRows
import Derived.Test.YtcpklndelobigaaGreatDoorCA
import Derived.Lay
set_option linter.all false
namespace Go.Proofs.YtcpklndelobigaaGreatDoor
open Go.Proofs.YtcpklndelobigaaGreatDoor.Abs
theorem M9:ownKnob Tryz.prog.godebug=none:=by kernel_rfl
theorem Ht:laidOutB Tryz.prog=true:=by kernel_rfl
def HQ:List TypeId:=[3,4,9,22,294,295]
theorem kE:uY Tryz.prog HQ=true:=by kernel_rfl
def ns:List (String×DataW Unit):=Rows.schemaFromRow.laid
def kwD : String × DataW Unit := ns.getD 6 ("", .nil)
def syD : String × DataW Unit := ns.getD 7 ("", .nil)
theorem tp:ns.filter (fun x=>x.2.handleName?.isSome)=[]:=by kernel_rfl
theorem OD:(kwD.1,kwD.2)∈ns:=List.mem_of_getElem? (i:=6) rfl
theorem Nn:(syD.1,syD.2)∈ns:=List.mem_of_getElem? (i:=7) rfl
theorem HM:Tryz.prog.globalNamed kwD.1=some 5:=by kernel_rfl
theorem Is:Tryz.prog.globalNamed syD.1=some 6:=by kernel_rfl
theorem HC:(Tryz.prog.globals[5]?).map (·.type)=some 294:=by kernel_rfl
theorem Jd:(Tryz.prog.globals[6]?).map (·.type)=some 295:=by kernel_rfl
theorem Gl:(dOf kwD.2).cells=u7:=by kernel_rfl
theorem EC:(dOf syD.2).cells=uO:=by kernel_rfl
theorem iy {W:World} (hL:laidMetH Tryz.prog ns W):wk cx (oa W) W:=by
 intro g cs hg;have hg':(bif Nat.beq g 5 then some u7 else bif Nat.beq g 6 then some uO else none)=some cs:=hg;cases h5:Nat.beq g 5 with
 | true =>
  rw [h5] at hg';simp only [cond_true,Option.some.injEq] at hg';subst hg';rw [Nat.eq_of_beq_eq_true h5,<- Gl];exact uo tp hL OD HM HC kE rfl
 | false =>
  rw [h5] at hg';simp only [cond_false] at hg';cases h6:Nat.beq g 6 with
  | true =>
   rw [h6] at hg';simp only [cond_true,Option.some.injEq] at hg';subst hg';rw [Nat.eq_of_beq_eq_true h6,<- EC];exact uo tp hL Nn Is Jd kE rfl
  | false=>rw [h6] at hg';simp at hg'
theorem tz {H:Type}:∀ {elems:List (DataW H)},(∀ (i:Nat) x,elems[i]?=some x->∃ n,x=.lit (.int .i64 n)/\-9223372036854775808<=n/\n<=9223372036854775807)->∃ l:List Int,s8 elems=l.map (.int .i64)/\ji l/\l.length<=Rows.uptoBulkAll elems
 | [],_=>⟨[],rfl,by simp [ji],Nat.le_refl _⟩
 | x::r,key=>by
  obtain ⟨n,rfl,hn⟩:=key 0 x rfl;obtain ⟨l,h1,h2,h3⟩:=tz (elems:=r) (fun i y hy=>key (i+1) y (by simpa using hy));refine ⟨n::l,by simp [s8,dOf,h1],?_,by simp [Rows.uptoBulkAll,Rows.uptoBulk];omega⟩;intro y hy;simp only [List.mem_cons] at hy;rcases hy with rfl|hy
  . exact hn
  . exact h2 y hy
section
variable {H:Type} {enc:TypeId×Value->H} {w:World} {sp:Nat->Bool} {held:Bool}
theorem B8 {fuel:Nat} {cs:List Value} {d:DataW H} {ps:List MemPlace} (h:DataW.trod enc Tryz.prog w 0 sp held fuel 22 cs=some (d,ps)):∃ l:List Int,dOf d=.imm (l.map (.int .i64))/\ji l/\l.length+1<=Rows.uptoBulk d:=by
 cases fuel with
 | zero=>simp [DataW.trod] at h
 | succ fuel =>
  rcases mv Tryz.underlying22 h with ⟨_,rfl⟩|⟨a,len,cap,elems,spare,_,rfl,_,_,hel⟩
  . exact ⟨[],rfl,by simp [ji],by simp [Rows.uptoBulk]⟩
  . have key:∀ (i:Nat) x,elems[i]?=some x->∃ n,x=.lit (.int .i64 n)/\-9223372036854775808<=n/\n<=9223372036854775807:=fun i x hx=>by
     obtain ⟨cs',ps',_,q⟩:=hel i x hx;cases fuel with
     | zero=>simp [DataW.trod] at q
     | succ fuel =>
      obtain ⟨n,_,rfl,hw⟩:=rh Tryz.underlying3 q;refine ⟨n,rfl,?_⟩;simpa [Lit.wf,IntKind.min,IntKind.max,IntKind.signed,IntKind.bits] using hw
    obtain ⟨l,h1,h2,h3⟩:=tz key;exact ⟨l,by simp [dOf,h1],h2,by simp only [Rows.uptoBulk];omega⟩
theorem Hz {fuel:Nat} {cs:List Value} {d:DataW H} {ps:List MemPlace} (h:DataW.trod enc Tryz.prog w 0 sp held fuel 4 cs=some (d,ps)):∃ b:Bool,dOf d=.bool b:=by
 cases fuel with
 | zero=>simp [DataW.trod] at h
 | succ fuel =>
  obtain ⟨b,_,rfl⟩:=ou Tryz.underlying4 h;exact ⟨b,rfl⟩
end
theorem Ew (t:TypeId) (h:([22,9,3,4]:List TypeId).contains t=true):Tryz.prog.readableRec t=true/\t<Tryz.prog.types.size:=by
 simp at h;rcases h with rfl|rfl|rfl|rfl
 . exact ⟨by kernel_rfl,of_decide_eq_true kq⟩
 . exact ⟨by kernel_rfl,of_decide_eq_true kq⟩
 . exact ⟨by kernel_rfl,of_decide_eq_true kq⟩
 . exact ⟨by kernel_rfl,of_decide_eq_true kq⟩
noncomputable def GE (os:Os):World:=World.laidAll Tryz.prog os ns
theorem Cj (os:Os) (args:Array Value):laidMet Tryz.prog ns ((GE os).forCall (fun _ _=>0) ⟨#[],args,[]⟩).memory:=laidMet_laidAll _ kq kq
end Go.Proofs.YtcpklndelobigaaGreatDoor
namespace Go.Proofs.YtcpklndelobigaaGreatDoor
open Go.Proofs.YtcpklndelobigaaGreatDoor.Abs
set_option maxRecDepth 20000
set_option maxHeartbeats 4000000
mutual
theorem ii:∀ x:aa,x.bel 0=true->x.refs=[]
 | .agg cs,h=>by simp only [aa.refs];exact dx cs (by simpa [aa.bel] using h)
 | .tup cs,h=>by simp only [aa.refs];exact dx cs (by simpa [aa.bel] using h)
 | .pimm cs _,h=>by simp only [aa.refs];exact dx cs (by simpa [aa.bel] using h)
 | .imm l,h=>by simp only [aa.refs];exact dx l (by simpa [aa.bel] using h)
 | .full l,h=>by simp only [aa.refs];exact dx l (by simpa [aa.bel] using h)
 | .fn f xs ys,h=>by
  simp only [aa.bel,Bool.and_eq_true] at h;simp only [aa.refs,dx xs h.1,dx ys h.2,List.append_nil]
 | .iface t v,h=>by simp only [aa.refs];exact ii v (by simpa [aa.bel] using h)
 | .ptr o _,h=>by simp [aa.bel] at h
 | .pown o _ _ _,h=>by simp [aa.bel] at h
 | .own o _ _,h=>by simp [aa.bel] at h
 | .map o,h=>by simp [aa.bel] at h
 | .itr o,h=>by simp [aa.bel] at h
 | .any,_=>rfl
 | .bool _,_=>rfl
 | .int _ _,_=>rfl
 | .str _,_=>rfl
 | .nilp,_=>rfl
 | .nilm,_=>rfl
 | .nilfn,_=>rfl
 | .nili,_=>rfl
theorem dx:∀ l:List aa,aM 0 l=true->d7 l=[]
 | [],_=>rfl
 | x::l,h=>by
  simp only [aM,Bool.and_eq_true] at h;simp only [d7,ii x h.1,dx l h.2,List.append_nil]
end
end Go.Proofs.YtcpklndelobigaaGreatDoor
