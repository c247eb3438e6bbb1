/- A part of the proof: plain lemmas and walks. No condition. -/
import Derived.Shelf.SlGeneric
import Derived.Shelf.SortM.Plain
import Derived.Shelf.SortM.SortNone
import Derived.Shelf.Small.Strs
import Derived.Ground.SlgmProg
import Derived.Ground.NamesProg
import Derived.Test.YtcpklndelobigaaGreatDoorS1
import Derived.RangeFuncBox
import Derived.RangeFuncWrites
import Derived.RangeFuncLeaves
import Derived.Maps.AppendAt
import Derived.Shelf.Abstract
import Derived.WalkKit
import Derived.OwnWalkIn
import Derived.TacticsInMore
import Derived.LoopNIn
import Derived.LoopIn
import Derived.Sort.OwnSorted
import Derived.Sort.KeysCollected
import Derived.Sort.Walk0
set_option linter.all false
namespace Go.Proofs
open Go.Shelf
def Tryz.sort206_ren:Go.Shelf.Ren:=⟨fun|6=>231|8=>85|9=>266|19=>162|20=>163|21=>283|22=>284|23=>285|24=>286|25=>287|26=>288|27=>182|28=>289|29=>290|36=>313|31=>214|32=>215|37=>314|38=>315|39=>233|41=>329|n=>n,fun|27=>40|29=>9|3=>3|32=>135|26=>40|0=>0|44=>184|46=>186|4=>4|36=>177|35=>176|41=>181|5=>5|9=>9|53=>216|57=>220|63=>239|64=>231|n=>n,fun|n=>n⟩
theorem Tryz.sort206:Go.Proofs.SlLaysM.n6 Tryz.prog Tryz.sort206_ren:={
 mixed:=by kernel_rfl
 f6:=⟨Tryz.f231.name,by decide,Tryz.func231.trans (congrArg some (by kernel_rfl))⟩
 f8:=Tryz.func85.trans (congrArg some (by kernel_rfl))
 f9:=⟨Tryz.f266.name,by decide,Tryz.func266.trans (congrArg some (by kernel_rfl))⟩
 f19:=Tryz.func162.trans (congrArg some (by kernel_rfl))
 f20:=Tryz.func163.trans (congrArg some (by kernel_rfl))
 f21:=⟨Tryz.f283.name,by decide,Tryz.func283.trans (congrArg some (by kernel_rfl))⟩
 f22:=⟨Tryz.f284.name,by decide,Tryz.func284.trans (congrArg some (by kernel_rfl))⟩
 f23:=⟨Tryz.f285.name,by decide,Tryz.func285.trans (congrArg some (by kernel_rfl))⟩
 f24:=⟨Tryz.f286.name,by decide,Tryz.func286.trans (congrArg some (by kernel_rfl))⟩
 f25:=⟨Tryz.f287.name,by decide,Tryz.func287.trans (congrArg some (by kernel_rfl))⟩
 f26:=⟨Tryz.f288.name,by decide,Tryz.func288.trans (congrArg some (by kernel_rfl))⟩
 f27:=⟨Tryz.f182.name,by decide,Tryz.func182.trans (congrArg some (by kernel_rfl))⟩
 f28:=⟨Tryz.f289.name,by decide,Tryz.func289.trans (congrArg some (by kernel_rfl))⟩
 f29:=⟨Tryz.f290.name,by decide,Tryz.func290.trans (congrArg some (by kernel_rfl))⟩
 f31:=Tryz.func214.trans (congrArg some (by kernel_rfl))
 f32:=Tryz.func215.trans (congrArg some (by kernel_rfl))
 f36:=⟨Tryz.f313.name,by decide,Tryz.func313.trans (congrArg some (by kernel_rfl))⟩
 f37:=⟨Tryz.f314.name,by decide,Tryz.func314.trans (congrArg some (by kernel_rfl))⟩
 f38:=⟨Tryz.f315.name,by decide,Tryz.func315.trans (congrArg some (by kernel_rfl))⟩
 f39:=⟨Tryz.f233.name,by decide,Tryz.func233.trans (congrArg some (by kernel_rfl))⟩
 f41:=⟨Tryz.f329.name,by decide,Tryz.func329.trans (congrArg some (by kernel_rfl))⟩
 t0:=Tryz.underlying0
 a0:=Tryz.isAgg0
 z0:=Tryz.sizeOf0
 v0:=Tryz.zeroValue0
 t3:=Tryz.underlying3
 a3:=Tryz.isAgg3
 z3:=Tryz.sizeOf3
 v3:=Tryz.zeroValue3
 t4:=Tryz.underlying4
 a4:=Tryz.isAgg4
 z4:=Tryz.sizeOf4
 v4:=Tryz.zeroValue4
 t5:=Tryz.underlying5
 a5:=Tryz.isAgg5
 z5:=Tryz.sizeOf5
 v5:=Tryz.zeroValue5
 t9:=Tryz.underlying9
 a9:=Tryz.isAgg9
 z9:=Tryz.sizeOf9
 v9:=Tryz.zeroValue9
 t26:=Tryz.underlying40
 a26:=Tryz.isAgg40
 z26:=Tryz.sizeOf40
 v26:=Tryz.zeroValue40
 t27:=Tryz.underlying40
 a27:=Tryz.isAgg40
 z27:=Tryz.sizeOf40
 v27:=Tryz.zeroValue40
 t29:=Tryz.underlying9
 a29:=Tryz.isAgg9
 z29:=Tryz.sizeOf9
 v29:=Tryz.zeroValue9
 t32:=Tryz.underlying135
 a32:=Tryz.isAgg135
 z32:=Tryz.sizeOf135
 v32:=Tryz.zeroValue135
 t35:=Tryz.underlying176
 a35:=Tryz.isAgg176
 z35:=Tryz.sizeOf176
 v35:=Tryz.zeroValue176
 t36:=Tryz.underlying177
 a36:=Tryz.isAgg177
 z36:=Tryz.sizeOf177
 v36:=Tryz.zeroValue177
 t41:=Tryz.underlying181
 a41:=Tryz.isAgg181
 z41:=Tryz.sizeOf181
 v41:=Tryz.zeroValue181
 t44:=Tryz.underlying184
 a44:=Tryz.isAgg184
 z44:=Tryz.sizeOf184
 v44:=Tryz.zeroValue184
 t46:=Tryz.underlying186
 a46:=Tryz.isAgg186
 z46:=Tryz.sizeOf186
 v46:=Tryz.zeroValue186
 t53:=Tryz.underlying216
 a53:=Tryz.isAgg216
 z53:=Tryz.sizeOf216
 v53:=Tryz.zeroValue216
 t57:=Tryz.underlying220
 a57:=Tryz.isAgg220
 z57:=Tryz.sizeOf220
 v57:=Tryz.zeroValue220
 t63:=Tryz.underlying239
 a63:=Tryz.isAgg239
 z63:=Tryz.sizeOf239
 v63:=Tryz.zeroValue239
 t64:=Tryz.underlying231
 a64:=Tryz.isAgg231
 z64:=Tryz.sizeOf231
 v64:=Tryz.zeroValue231 }
def Tryz.lays106_ren:Go.Shelf.Ren:=⟨fun|106=>35|213=>86|265=>164|n=>n,fun|9=>9|3=>3|n=>n,fun|n=>n⟩
theorem Tryz.lays106:Go.Proofs.Lays.n106 Tryz.prog Tryz.lays106_ren:={
 mixed:=by kernel_rfl
 f106:=Tryz.func35.trans (congrArg some (by kernel_rfl))
 f213:=Tryz.func86.trans (congrArg some (by kernel_rfl))
 f265:=Tryz.func164.trans (congrArg some (by kernel_rfl))
 t3:=Tryz.underlying3
 a3:=Tryz.isAgg3
 z3:=Tryz.sizeOf3
 v3:=Tryz.zeroValue3
 t9:=Tryz.underlying9
 a9:=Tryz.isAgg9
 z9:=Tryz.sizeOf9
 v9:=Tryz.zeroValue9 }
end Go.Proofs
namespace Go.Proofs.YtcpklndelobigaaGreatDoor
open Go.Proofs.YtcpklndelobigaaGreatDoor.Abs Go.RowKit Go.Shelf Go.Maps Go.Sort
attribute [local go_sem] Oper.semAt_some
def nE {α:Type} (f:Nat->α) (k:Nat):List α:=(List.range k).map f
theorem vQ {α:Type} (f:Nat->α) (k:Nat):nE f (k+1)=nE f k++[f k]:=by simp [nE,List.range_succ]
theorem Az {α:Type} (f:Nat->α) (k:Nat):(nE f k).length=k:=by simp [nE]
theorem HK (zs:List (List UInt8)):nE (fun j=>zs[j]?.getD []) zs.length=zs:=by
 apply List.ext_getElem
 . simp [nE]
 . intro i h1 h2;simp [nE,h2]
theorem FF (zs:List (List UInt8)) {k:Nat} (hk:k<=zs.length):nE (fun j=>zs[j]?.getD []) k=zs.take k:=by
 apply List.ext_getElem
 . simp [nE,hk]
 . intro i h1 h2;have:i<zs.length:=by simp [nE] at h1;omega
   simp [nE,this]
set_option maxRecDepth 100000 in
set_option maxHeartbeats 4000000 in
theorem C6 (F:Fence) (n:Nat) (h7:F.fn 232) (hro:F.round=none) (hn:1<=n) (l Bs n₀ b off len cap:Nat) (zs:List (List UInt8)) (hreach:len * 16<=140737488351232) (hb:b<n₀) (J Jx:List (List UInt8)->World->Prop)
 (hY:∀ pre x W,J pre W->pre.length<len->YieldAt F (n - 1) Tryz.prog l #[encStr x] W fun e W' =>
  (e=.returned (.bool true)/\J (pre++[x]) W'/\Below n₀ W W')\/(e=.returned (.bool false)/\Jx (pre++[x]) W'))
 (W:World) (hBs:W.cell? ⟨Bs,0,none⟩=some (.slice (some ⟨b,off,none⟩) len cap)) (hc:∀ j,j<len->W.cell? ⟨b,off+j,none⟩=some (encStr (zs[j]?.getD []))) (h0:J [] W) :
 CallsIn F n Tryz.prog 232 #[.func (.yield l) #[] #[],.pointer (some ⟨Bs,0,none⟩)] W fun e W'=>(∃ v,e=.returned v) /\
  ((∃ ys,ys=nE (fun j=>zs[j]?.getD []) len/\J ys W')\/(∃ pre,(∃ k,k<=len/\pre=nE (fun j=>zs[j]?.getD []) k)/\Jx pre W')):=by
 refine callsIn_of_wp Tryz.func232 rfl h7 ?_ hro;simp only [Tryz.ntmps232,List.size_toArray,List.length_cons,List.length_nil,Nat.reduceAdd,Nat.reduceSub,Array.replicate_succ,Array.replicate_zero,List.push_toArray,List.append_toArray,List.nil_append,List.cons_append]
 gi_wp2
 gi_loopw [7] (fun i wr=>∃ k:Nat,k<=len/\i=.int .i64 k/\J (nE (fun j=>zs[j]?.getD []) k) wr/\Below n₀ W wr)
  (fun i _=>len - (intOf i).toNat)
 case atStart=>exact ⟨0,Nat.zero_le _,rfl,h0,Below.refl _ _⟩
 case round =>
  obtain ⟨k,hk,rfl,hJs,hnx⟩:=hrel;have hcx:k<len->wr.cell? ⟨b,off+k,none⟩=some (encStr (zs[k]?.getD [])):=fun h=>(hnx.cell (p:=⟨b,off+k,none⟩) hb).trans (hc k h)
  by_cases hlt:k<len
  . obtain ⟨fn,tmps,assign,body,hy,hR⟩:=hY _ (zs[k]?.getD []) wr hJs (by rw [Az];exact hlt);have hcx':=hcx hlt
    gi_wp2
    refine hR.mono ?_;rintro e W3 (⟨rfl,hJ3,hk3⟩|⟨rfl,hJx3⟩)
    . gi_wp2
      go_roundw
      case rel=>exact ⟨k+1,by omega,by simp,by rw [vQ];exact hJ3,hnx.trans hk3⟩
      case measure=>simp [intOf];omega
    . gi_wp2
      refine bodyPost_ret (results_none rfl _ _ _) rfl ?_;exact ⟨⟨_,rfl⟩,.inr ⟨_,⟨k+1,by omega,(vQ _ _).symm⟩,hJx3⟩⟩
  . obtain rfl:k=len:=by omega
    gi_wp2
    go_end0
    exact ⟨⟨_,rfl⟩,.inl ⟨_,rfl,hJs⟩⟩
set_option maxRecDepth 100000 in
set_option maxHeartbeats 1000000 in
theorem tS (F:Fence) (n:Nat) (h7:F.fn 232) (hro:F.round=none) (l Bs:Nat) (a:Option Addr) (cap:Nat) (J:List (List UInt8)->World->Prop) (W:World) (hBs:W.cell? ⟨Bs,0,none⟩=some (.slice a 0 cap)) (h0:J [] W) :
 CallsIn F n Tryz.prog 232 #[.func (.yield l) #[] #[],.pointer (some ⟨Bs,0,none⟩)] W fun e W'=>(∃ v,e=.returned v)/\J [] W':=by
 refine callsIn_of_wp Tryz.func232 rfl h7 ?_ hro;simp only [Tryz.ntmps232,List.size_toArray,List.length_cons,List.length_nil,Nat.reduceAdd,Nat.reduceSub,Array.replicate_succ,Array.replicate_zero,List.push_toArray,List.append_toArray,List.nil_append,List.cons_append]
 gi_wp2
 gi_loopw [7] (fun i wr=>i=.int .i64 0/\J [] wr) (fun _ _=>0)
 case atStart=>exact ⟨rfl,h0⟩
 case round =>
  obtain ⟨rfl,hJs⟩:=hrel
  gi_wp2
  go_end0
  exact ⟨⟨_,rfl⟩,hJs⟩
def Strs (n₀:Nat) (W:World) (sv:Value) (zs:List (List UInt8)):Prop :=
 (∃ a cap,sv=.slice a 0 cap/\zs=[])\/∃ b off cap,sv=.slice (some ⟨b,off,none⟩) zs.length cap/\b<n₀/\∀ j,j<zs.length->W.cell? ⟨b,off+j,none⟩=some (encStr (zs[j]?.getD []))
theorem Strs.below {n₀:Nat} {A B:World} (h:Below n₀ A B) {sv:Value} {zs:List (List UInt8)}:Strs n₀ A sv zs->Strs n₀ B sv zs
 | .inl e=>.inl e
 | .inr ⟨b,off,cap,e,hb,hc⟩=>.inr ⟨b,off,cap,e,hb,fun j hj=>(h.cell (p:=⟨b,off+j,none⟩) hb).trans (hc j hj)⟩
theorem yj (F:Fence) (n:Nat) (h7:F.fn 232) (hro:F.round=none) (hn:1<=n) (Bs n₀:Nat) (sv:Value) (zs:List (List UInt8)) (hreach:zs.length * 16<=140737488351232) (w:World) (hBs:Bs<w.heap.size) (hn₀:n₀<=w.heap.size)
 (hc:w.cell? ⟨Bs,0,none⟩=some sv) (hI:Strs n₀ w sv zs) :
 SeqStopsK F n Tryz.prog 232 #[.pointer (some ⟨Bs,0,none⟩)] (fun x:List UInt8=>#[encStr x]) (Below n₀) (fun ys=>ys=zs) (fun pre=>pre <+: zs) zs.length w:=fun l J Jx W hW _ _ hY h0=>by
 have hc':=(hW.cell (p:=⟨Bs,0,none⟩) hBs).trans hc;rcases hI.below (hW.mono hn₀) with ⟨a,cap,rfl,rfl⟩|⟨b,off,cap,rfl,hb,hcs⟩
 . exact (tS F n h7 hro l Bs a cap J W hc' h0).mono fun e W' ⟨he,hj⟩=>⟨he,.inl ⟨_,rfl,hj⟩⟩
 refine (C6 F n h7 hro hn l Bs n₀ b off zs.length cap zs hreach hb J Jx hY W hc' hcs h0).mono ?_;rintro e W' ⟨he,⟨ys,rfl,hj⟩|⟨pre,⟨k,hk,rfl⟩,hj⟩⟩
 . exact ⟨he,.inl ⟨_,HK zs,hj⟩⟩
 . exact ⟨he,.inr ⟨_,by rw [FF zs hk];exact List.take_prefix _ _,hj⟩⟩
theorem Q6:(Tryz.prog.info? 9).map (fun i=>(i.zero,i.size,i.bytes))=some (some (.string ⟨#[]⟩),1,16):=by kernel_rfl
attribute [local go_sem] Oper.semAt_some
set_option maxRecDepth 100000 in
set_option maxHeartbeats 4000000 in
theorem rR (F:Fence) (n:Nat) (h7:F.fn 232) (h231:F.fn 265) (hro:F.round=none) (hn:3<=n) (Bs:Nat) (sv:Value) (zs:List (List UInt8)) (hz1:zs.length+1<=maxLen) (hz2:(zs.length+1) * 16<=140737488351232) (w:World) (hBs:Bs<w.heap.size)
 (hc:w.cell? ⟨Bs,0,none⟩=some sv) (hI:Strs w.heap.size w sv zs) :
 CallsIn F n Tryz.prog 265 #[.slice none 0 0,.func (.func 232) #[] #[.pointer (some ⟨Bs,0,none⟩)]] w fun e W'=>∃ v,e=.returned v /\
  W'.ownsRow w.heap.size 9 1 v zs.length (zs.map encStr)/\Below w.heap.size w W':=by
 have h1:1<=n:=by omega
 obtain ⟨i0,hi,hi0,hi1,hi2⟩:=info_parts Q6;refine callsIn_of_wp_marks Tryz.func265 rfl h231 ?_ hro;simp only [Tryz.ntmps265,List.size_toArray,List.length_cons,List.length_nil,Nat.reduceAdd,Nat.reduceSub,Array.replicate_succ,Array.replicate_zero,List.push_toArray,List.append_toArray,List.nil_append,List.cons_append]
 gi_wp2
 have bS:=Boxed.new w 40 (.slice none 0 0);have hB0:Below w.heap.size w (w.alloc (.cells #[.slice none 0 0] 40)):=(Below.refl _ w).alloc (Nat.le_refl _) _
 refine wpIn_rangeFunc_ownG hro h1 (gf:=232) (lb:=#[.pointer (some ⟨Bs,0,none⟩)]) rfl h7 (enters_of Tryz.func232 (by kernel_rfl) rfl)
  (yj F (n - 1) h7 hro (by omega) Bs w.heap.size _ zs (by omega) (w.alloc (.cells #[.slice none 0 0] 40)) (by simp;omega) (by simp) (Below.cell (p:=⟨Bs,0,none⟩) hB0 hBs |>.trans hc) (hI.below hB0)) belowK_t (belowK_b (by simp)) (Below.refl _ _) (fun _=>rfl)
  (fun pre W=>(∃ v,Boxed W w.heap.size 40 v/\W.ownsRow w.heap.size 9 1 v pre.length (pre.map encStr)/\(v=.slice none 0 0↔pre=[]))/\Below w.heap.size w W)
  (fun _ _ _=>False)
  (OwnFrom.and (Own.from (holdsRow_own w.heap.size w.heap.size 40 9 1 (fun pre=>pre.length) (fun pre=>pre.map encStr) (fun pre v=>(v=.slice none 0 0↔pre=[]))) _) (ownFrom_below (Nat.le_refl _) (by simp)))
  (fun _ _ _ _ _ hs _ _=>hs)
  ⟨⟨_,bS,World.ownsRow_nil _ _ _ _,by simp⟩,hB0⟩
  (fun x=>{ tmps:=#[.slice none 0 0,.func (.func 232) #[] #[.pointer (some ⟨Bs,0,none⟩)],.pointer (some ⟨w.heap.size,0,none⟩),undef,.slice none 0 0,encStr x,.func (.func 232) #[] #[.pointer (some ⟨Bs,0,none⟩)],encStr x,undef,undef,undef,undef,undef],defers:=[] }) ?assign ?body ?done ?stop
 case assign =>
  intro l x W K hK
  gi_wp2
  exact hK
 case body =>
  rintro l pre x W ⟨⟨v,hv,hrow,hnil⟩,hB⟩ hlt;have hvc:=hv.cell;have hvl:=hv.lt;have hle:w.heap.size<=w.heap.size:=Nat.le_refl _
  gi_wp2_with (gi_at_builtin;refine wpListIn_append_own _ rfl _ _ 40 rfl w.heap.size 9 i0 (.string ⟨#[]⟩) 1 16 Tryz.underlying40 hi hi0 hi1 hi2 rfl (by decide) _ _ _ rfl (hrow.alloc _) ⟨W.heap.size,0,none⟩ 1 1 [encStr x] rfl rfl (cell_one_new _ _ _) (by simp [Value.oneCell',encStr]) (by omega) (by omega) (by have:=hB.size;simp;omega) ?_;intro v' w1 hown' hgrow hnn;obtain ⟨g',cap',rfl⟩:=ownsRow_succ hown';obtain ⟨hv1,hv2,hr2,hk2,hb2⟩:=hv.appended (by decide) hrow hB.size hle hown' hgrow;have hc1:=hv1.cell;have hf1:=hv1.frozen)
  exact ⟨hk2.from _,hb2,⟨_,hv2,by simpa using hr2,by simp⟩,hB.trans hb2⟩
 case done =>
  rintro D ys W hD rfl ⟨⟨v,hv,hrow,hnil⟩,hB⟩ hK;have hvc:=hv.cell
  gi_wp2
  refine ⟨by simp,.inl ⟨_,_,rfl,run_takeDeferred hK,?_⟩⟩;exact ⟨_,results_tmp rfl _ _ _,v,rfl,ownsRow_putObj hrow _ hK rfl,hB.trans (belowK_b (w:=w) (Nat.le_refl _) W D _ _ (by simp at hD;omega) hK rfl rfl)⟩
 case stop =>
  rintro D c pre W _ _ h _;exact h.elim
def Cq (x:List UInt8):List (List UInt8)->List (List UInt8)
 | []=>[x]
 | y::l=>bif aS y x then y::Cq x l else x::y::l
def bw:List (List UInt8)->List (List UInt8)
 | []=>[]
 | x::l=>Cq x (bw l)
theorem pP (x:List UInt8):∀ l,(Cq x l).Perm (x::l)
 | []=>.refl _
 | y::l=>by
  simp only [Cq];cases aS y x with
  | true=>exact ((pP x l).cons y).trans (.swap x y l)
  | false=>exact .refl _
theorem eM:∀ l,(bw l).Perm l
 | []=>.refl _
 | x::l=>(pP x _).trans ((eM l).cons x)
theorem sI (x y:List UInt8):aS x y=decide (x<y):=bytesLess_eq x y
theorem qW (x:List UInt8):∀ l:List (List UInt8),l.Pairwise (fun a b=>leB a b=true)->(Cq x l).Pairwise (fun a b=>leB a b=true)
 | [],_=>by simp [Cq]
 | y::l,h=>by
  simp only [Cq,sI];have h':=List.pairwise_cons.1 h;by_cases hlt:y<x
  . rw [decide_eq_true hlt];refine List.pairwise_cons.2 ⟨fun z hz=>?_,qW x l h'.2⟩;have:=(pP x l).mem_iff.1 hz;simp only [List.mem_cons] at this;rcases this with rfl|hz
    . simp only [leB,decide_eq_true_eq];exact List.le_of_lt hlt
    . exact h'.1 z hz
  . rw [decide_eq_false hlt];have hxy:x<=y:=List.not_lt.1 hlt;refine List.pairwise_cons.2 ⟨fun z hz=>?_,h⟩;simp only [List.mem_cons] at hz;simp only [leB,decide_eq_true_eq];rcases hz with rfl|hz
    . exact hxy
    . have:=h'.1 z hz;simp only [leB,decide_eq_true_eq] at this;exact List.le_trans hxy this
theorem kS:∀ l,(bw l).Pairwise (fun a b=>leB a b=true)
 | []=>.nil
 | x::l=>qW x _ (kS l)
theorem zQ {l l':List (List UInt8)} (h:l.Perm l'):l.mergeSort (fun x y=>decide (x<=y))=bw l':=by
 have tr:∀ a b c:List UInt8,leB a b=true->leB b c=true->leB a c=true:=fun a b c h1 h2=>by simp only [leB,decide_eq_true_eq] at *;exact List.le_trans h1 h2
 have to:∀ a b:List UInt8,(leB a b || leB b a)=true:=fun a b=>by simp only [leB,Bool.or_eq_true,decide_eq_true_eq];exact List.le_total a b
 refine List.Perm.eq_of_pairwise (le:=fun a b=>leB a b=true) (fun a b _ _ h1 h2=>?_) (List.pairwise_mergeSort tr to l) (kS l') (((List.mergeSort_perm l leB).trans h).trans (eM l').symm);simp only [leB,decide_eq_true_eq] at h1 h2;exact List.le_antisymm h1 h2
set_option maxRecDepth 100000 in
set_option maxHeartbeats 4000000 in
theorem pW (F:Fence) (n:Nat) (h7:F.fn 232) (h205:F.fn 230) (h231:F.fn 265) (hro:F.round=none) (hn:4<=n) (Bs:Nat) (sv:Value) (zs:List (List UInt8)) (hz1:zs.length+1<=maxLen) (hz2:(zs.length+1) * 16<=140737488351232) (w:World) (hBs:Bs<w.heap.size)
 (hc:w.cell? ⟨Bs,0,none⟩=some sv) (hI:Strs w.heap.size w sv zs) :
 CallsIn F n Tryz.prog 230 #[.func (.func 232) #[] #[.pointer (some ⟨Bs,0,none⟩)]] w fun e W'=>∃ v,e=.returned v /\
  W'.ownsRow w.heap.size 9 1 v zs.length (zs.map encStr)/\Below w.heap.size w W':=by
 have h1:1<=n:=by omega
 refine callsIn_of_wp Tryz.func230 rfl h205 ?_ hro;simp only [Tryz.ntmps230,List.size_toArray,List.length_cons,List.length_nil,Nat.reduceAdd,Nat.reduceSub,Array.replicate_succ,Array.replicate_zero,List.push_toArray,List.append_toArray,List.nil_append,List.cons_append]
 gi_wp2_with (gi_at_call 265;refine (rR F (n - 1) h7 h231 hro (by omega) Bs sv zs hz1 hz2 _ hBs hc hI).mono ?_;rintro e w' ⟨v,rfl,hrow,hb⟩)
 go_ret
 exact ⟨v,rfl,hrow,hb⟩
set_option maxRecDepth 100000 in
set_option maxHeartbeats 4000000 in
theorem rB (F:Fence) (n:Nat) (h7:F.fn 232) (h166:F.fn 179) (h205:F.fn 230) (h206:F.fn 231) (h231:F.fn 265) (hro:F.round=none) (hn:5<=n)
 (hs206:∀ (blk off cap:Nat) (ss:List (List UInt8)) (W:World),Holds encStr W blk off ss.toArray->blk<W.heap.size->ss.length<4611686018427387904 ->
  CallsIn F (n - 1) Tryz.prog 231 #[.slice (some ⟨blk,off,none⟩) ss.length cap] W fun e w'=>e=.returned (.tuple #[])/\∃ k os,w'=grow (putRow encStr (Sort.ahead W k) blk off (ss.mergeSort fun x y=>decide (x<=y)).toArray) os)
 (hs0:∀ (p:Option Addr) (cap:Nat) (W:World),CallsIn F (n - 1) Tryz.prog 231 #[.slice p 0 cap] W fun e w'=>e=.returned (.tuple #[])/\w'=W) (Bs:Nat) (sv:Value) (zs:List (List UInt8)) (hz1:zs.length+1<=maxLen) (hz2:(zs.length+1) * 16<=140737488351232) (w:World) (hBs:Bs<w.heap.size)
 (hc:w.cell? ⟨Bs,0,none⟩=some sv) (hI:Strs w.heap.size w sv zs) :
 CallsIn F n Tryz.prog 179 #[.func (.func 232) #[] #[.pointer (some ⟨Bs,0,none⟩)]] w fun e W'=>∃ v,e=.returned v /\
  W'.ownsRow w.heap.size 9 1 v zs.length ((zs.mergeSort (fun x y=>decide (x<=y))).map encStr)/\Below w.heap.size w W':=by
 have h1:1<=n:=by omega
 refine callsIn_of_wp Tryz.func179 rfl h166 ?_ hro;simp only [Tryz.ntmps179,List.size_toArray,List.length_cons,List.length_nil,Nat.reduceAdd,Nat.reduceSub,Array.replicate_succ,Array.replicate_zero,List.push_toArray,List.append_toArray,List.nil_append,List.cons_append]
 gi_wp2_with (gi_at_call 230;refine (pW F (n - 1) h7 h205 h231 hro (by omega) Bs sv zs hz1 hz2 _ hBs hc hI).mono ?_;rintro e W ⟨v,rfl,hrow,hb⟩)
 rcases hrow.2 with ⟨rfl,hz⟩|⟨gb,cap,cur,rfl,hbase,hgb,r1,r2,r3,r4⟩
 . have hss:zs=[]:=List.eq_nil_of_length_eq_zero hz;subst hss
   gi_wp2_with (gi_at_call 231;refine (hs0 none 0 W).mono ?_;rintro e w' ⟨rfl,rfl⟩)
   go_ret
   exact ⟨_,rfl,by simpa using hrow,hb⟩
 . have hH:Holds encStr W gb 0 zs.toArray:=holds_of_block hgb (by simpa using r4);have hgl:gb<W.heap.size:=(Array.getElem?_eq_some_iff.1 hgb).1;have hsz:zs.length<4611686018427387904:=by omega
   have cS:=hs206 gb 0 cap zs W hH hgl hsz
   gi_wp2_with (gi_at_call 231;refine cS.mono ?_;rintro e w' ⟨rfl,nn,os,rfl⟩)
   go_ret
   exact ⟨_,rfl,ownsRow_sorted (by simp) hbase hgb r1 r2 r3,hb.grown (grownBy_sorted _) hb.size (fun j hj=>by cases hj;exact hbase)⟩
theorem pa (Bs:Nat) (sv:Value) (zs:List (List UInt8)) (hz1:zs.length+1<=maxLen) (hz2:(zs.length+1) * 16<=140737488351232) (w:World) (hBs:Bs<w.heap.size)
 (hc:w.cell? ⟨Bs,0,none⟩=some sv) (hI:Strs w.heap.size w sv zs) :
 Calls Tryz.prog 179 #[.func (.func 232) #[] #[.pointer (some ⟨Bs,0,none⟩)]] w fun e W'=>∃ v,e=.returned v /\
  W'.ownsRow w.heap.size 9 1 v zs.length ((bw zs).map encStr)/\Below w.heap.size w W':=by
 rw [<- zQ (List.Perm.refl zs)]
 exact callsIn_wide.1 (rB Fence.wide 5 trivial trivial trivial trivial trivial rfl (by omega)
  (fun blk off cap ss W hH hblk hsz=>callsIn_wide.2 (AnyM.slices_Sort_string Tryz.sort206 blk off cap ss W hH hblk hsz)) (fun p cap W=>callsIn_wide.2 (AnyM.slices_Sort_string_none Tryz.sort206 p cap W)) Bs sv zs hz1 hz2 w hBs hc hI)
end Go.Proofs.YtcpklndelobigaaGreatDoor
namespace Go.Proofs.YtcpklndelobigaaGreatDoor
open Go.Proofs.YtcpklndelobigaaGreatDoor.Abs Go.RowKit Go.Shelf Go.Maps Go.Sort
set_option maxHeartbeats 1000000
theorem AA (ss:List (List UInt8)):gq 1 (ss.map .str)=true:=by
 induction ss with
 | nil=>rfl
 | cons s l ih=>simpa [gq,aa.cells] using ih
theorem xw {h:af} {o:Nat} {x:aa} {ss:List (List UInt8)} (ho:h[o]?=some (.box [x])) (hx:fz h x=some (ss.map .str)) (hsz:ss.length<=1000000) :
 av cx 179 [.fn (.func 232) [] [.ptr o 0]] h (fun v h'=>v=.imm ((bw ss).map .str)/\h'=h):=by
 refine li (v:=.imm ((bw ss).map .str)) ⟨_,Tryz.func179,rfl,rfl⟩ ⟨rfl,rfl⟩ ?_;intro ρ w cargs wf _ hv;obtain ⟨u,rfl,hu⟩:=hv.one
 have hcv:∃ p,u=.func (.func 232) #[] #[p]/\VR ρ h w (.ptr o 0) p:=by
  cases hu with
  | fn _ _ _ us vs hl hl' hu1 hv1 =>
   obtain ⟨us⟩:=us;obtain ⟨vs⟩:=vs
   match us,vs,hl,hl',hv1 with
   | [],[p],_,_,hv2=>exact ⟨p,rfl,hv2 0 _ _ rfl rfl⟩
 obtain ⟨p,rfl,hp⟩:=hcv;obtain ⟨c,t,q1,q2,q3⟩:=wf.obj o _ ho;have hpe:p=.pointer (some ⟨(ρ.loc o).blk,0,none⟩):=by cases hp;rfl
 subst hpe;have hlt:(ρ.loc o).blk<w.heap.size:=(Array.getElem?_eq_some_iff.1 q1).1;simp only [List.length_cons,List.length_nil] at q2;have hc0:c[0]?=some c[0]:=Array.getElem?_eq_getElem oq;have hcell:w.cell? ⟨(ρ.loc o).blk,0,none⟩=some c[0]:=by simp [World.cell?,q1,hc0]
 obtain ⟨cs,hR,hE⟩:=jT wf (q3 0 x c[0] rfl hc0) hx (AA ss);obtain ⟨a,cap0,e0,hcl,hcs⟩:=hR;simp only [List.length_map,Nat.mul_one] at hcl e0
 have hI:Strs w.heap.size w c[0] ss:=by
  rcases Nat.eq_zero_or_pos ss.length with hz|hpos
  . exact .inl ⟨a,cap0,by rw [e0,hz],List.eq_nil_of_length_eq_zero hz⟩
  obtain ⟨b,off,ea,hcs2⟩:=hcs oq;subst ea
  have hcells:∀ j,j<ss.length->w.cell? ⟨b,off+j,none⟩=some (encStr (ss[j]?.getD [])):=by
   intro j hj;obtain ⟨u,g1,g2⟩:=hE j (.str ss[j]) 0 (.str ss[j]) (by simp [hj]) (by simp [aa.cells]);have h2:=hcs2 j u (by simpa using g1);generalize e:ss[j]=s at g2;cases g2
   rw [h2];simp [hj,e,encStr]
  have hbl:b<w.heap.size:=by
   have h1:=hcells 0 hpos;unfold World.cell? at h1;by_cases hb:b<w.heap.size
   . exact hb
   . simp [Array.getElem?_eq_none (show w.heap.size<=b by omega)] at h1
  exact .inr ⟨b,off,cap0,e0,hbl,hcells⟩
 refine (pa (ρ.loc o).blk c[0] ss (Nat.le_trans (by omega:ss.length+1<=1000001) dq) oq w hlt hcell hI).mono ?_;rintro e w' ⟨v,rfl,hrow,hb⟩;have hl:ss.length=(bw ss).length:=(eM _).symm.length_eq;obtain ⟨hx,⟨rfl,hn⟩|⟨gb,cap,cur,rfl,hbase,hgb,hcap,hcm,hcs,hcur⟩⟩:=hrow
 . have hz:bw ss=[]:=List.eq_nil_of_length_eq_zero oq;refine ⟨_,ρ.I,rfl,hb,fun _ _ h=>h,fun _ _ h=>.inl h,fun _=>?_⟩;rw [hz];exact .imm [] none 0 0 0 0 (fun _ _=>undef) (Nat.le_refl _) zq zq zq zq
 . refine ⟨_,fun b j=>ρ.I b j\/b=gb,rfl,hb,fun _ _ h=>.inl h,fun b j hI=>?_,fun _=>?_⟩
   . rcases hI with h|rfl
     . exact .inl h
     . exact .inr ⟨hbase,(Array.getElem?_eq_some_iff.1 hgb).1⟩
   . rw [show (Value.slice (some ⟨gb,0,none⟩) ss.length cap)=Value.slice (some ⟨gb,0,none⟩) ((bw ss).map aa.str).length cap by rw [List.length_map,<- hl]];refine .imm _ _ cap 1 gb 0 (fun i _=>encStr ((bw ss).getD i [])) (by rw [List.length_map,<- hl];exact hcap) (fun _=>rfl) ?_ ?_ ?_
     . intro i x hx;simp only [List.getElem?_map,Option.map_eq_some_iff] at hx;obtain ⟨s,_,rfl⟩:=hx;rfl
     . intro i x j y hx hy;simp only [List.getElem?_map,Option.map_eq_some_iff] at hx;obtain ⟨s,hs,rfl⟩:=hx
       have hj:j=0:=by
        have:=(List.getElem?_eq_some_iff.1 hy).1;simp [aa.cells] at this;exact this
       subst hj;refine ⟨.inr rfl,?_⟩;have hi:i<(bw ss).length:=(List.getElem?_eq_some_iff.1 hs).1
       have hc:cur[i]?=some (encStr s):=by
        have h1:(cur.toList.take (ss.length * 1))[i]?=some (encStr s):=by rw [hcur,List.getElem?_map,hs];rfl
        rw [List.getElem?_take] at h1;split at h1
        . rwa [Array.getElem?_toList] at h1
        . simp at h1
       have hg':(bw ss).getD i []=s:=by rw [List.getD_eq_getElem?_getD,hs];rfl
       rw [hg'];simp [World.cell?,hgb,hc]
     . intro i x j y hx hy;simp only [List.getElem?_map,Option.map_eq_some_iff] at hx;obtain ⟨s,hs,rfl⟩:=hx
       have hj:j=0:=by
        have:=(List.getElem?_eq_some_iff.1 hy).1;simp [aa.cells] at this;exact this
       subst hj;simp [aa.cells] at hy;subst hy;have hg':(bw ss).getD i []=s:=by rw [List.getD_eq_getElem?_getD,hs];rfl
       show VR _ h w' (.str s) (encStr ((bw ss).getD i []));rw [hg'];exact .str s
end Go.Proofs.YtcpklndelobigaaGreatDoor
namespace Go.Proofs.YtcpklndelobigaaGreatDoor
open Go.Proofs.YtcpklndelobigaaGreatDoor.Abs Go.RowKit Go.Shelf Go.Maps Go.Sort
def i6 (a b:List UInt8):Int:=bif aS a b then -1 else bif aS b a then 1 else 0
theorem DL:∀ a b,i6 a b=Lib.compareBytes a b
 | [],[]=>by simp [i6,aS,Op.bytesLess,Lib.compareBytes]
 | [],_::_=>by simp [i6,aS,Op.bytesLess,Lib.compareBytes]
 | _::_,[]=>by simp [i6,aS,Op.bytesLess,Lib.compareBytes]
 | x::a,y::b=>by
  have ih:=DL a b;simp only [i6,aS] at ih ⊢;rw [Lib.compareBytes,<- ih];by_cases h:x=y
  . subst h;simp [Op.bytesLess,UInt8.lt_irrefl]
  . have h':¬ y=x:=fun e=>h e.symm
    by_cases h1:x<y
    . simp [Op.bytesLess,h1,h]
    . have h2:y<x:=by
       rcases Nat.lt_trichotomy x.toNat y.toNat with q|q|q
       . exact absurd (UInt8.lt_iff_toNat_lt.2 q) h1
       . exact absurd (UInt8.toNat_inj.1 q) h
       . exact UInt8.lt_iff_toNat_lt.2 q
      have hb:(x==y)=false:=by simpa using h
      simp [Op.bytesLess,h1,h2,hb]
set_option maxRecDepth 100000 in
theorem kG (a b:List UInt8):ae cx 35 [.str a,.str b] (.int .i64 (i6 a b)):=by
 refine rE ⟨_,Tryz.func35,rfl,rfl⟩ rfl fun ρ w cargs hv=>?_
 obtain ⟨u,v,rfl,hu,hv2⟩:=hv.two;cases hu;cases hv2
 rw [DL];refine (Any.strings_Compare Tryz.lays106 ⟨a.toArray⟩ ⟨b.toArray⟩ w).mono ?_;rintro e w' ⟨rfl,rfl⟩;exact ⟨rfl,Below.refl _ _⟩
def p6:List aa->Option (List (List UInt8))
 | []=>some []
 | .str s::l=>match p6 l with
  | some r=>some (s::r)
  | none=>none
 | _=>none
theorem tU:∀ {l:List aa} {ss:List (List UInt8)},p6 l=some ss->l=ss.map .str
 | [],ss,h=>by simp [p6] at h;subst h;rfl
 | x::l,ss,h=>by
  cases x <;> simp only [p6] at h <;> try (simp at h;done)
  rename_i s;cases hl:p6 l with
  | none=>rw [hl] at h;simp at h
  | some r =>
   rw [hl] at h;simp at h;subst h;rw [tU hl];rfl
def pO:List aa->af->Option (aa×af)
 | [.fn (.func 232) [] [.ptr o 0]],h=>match h[o]? with
  | some (.box [x])=>match fz h x with
   | some l=>match p6 l with
    | some ss=>bif Nat.ble ss.length 1000000 then some (.imm ((bw ss).map .str),h) else none
    | none=>none
   | none=>none
  | _=>none
 | _,_=>none
theorem xD {args:List aa} {h:af} {r:aa×af} (hr:pO args h=some r):av cx 179 args h fun v h'=>v=r.1/\h'=r.2:=by
 unfold pO at hr;split at hr <;> try (simp at hr;done)
 rename_i o;split at hr <;> try (simp at hr;done)
 rename_i x ho;split at hr <;> try (simp at hr;done)
 rename_i l hl;split at hr <;> try (simp at hr;done)
 rename_i ss hs;cases hc:Nat.ble ss.length 1000000 with
 | false=>rw [hc] at hr;simp at hr
 | true =>
  rw [hc] at hr;simp only [cond_true,Option.some.injEq] at hr;subst hr;rw [tU hs] at hl;exact xw ho hl (Nat.le_of_ble_eq_true hc)
def nu:List aa->af->Option (aa×af)
 | [.str a,.str b],h=>some (.int .i64 (i6 a b),h)
 | _,_=>none
theorem uC {args:List aa} {h:af} {r:aa×af} (hr:nu args h=some r):av cx 35 args h fun v h'=>v=r.1/\h'=r.2:=by
 unfold nu at hr;split at hr <;> try (simp at hr;done)
 simp only [Option.some.injEq] at hr;subst hr;exact wG (kG _ _) (by simp [aN,aa.frz]) (by simp [aC,aa.bel]) ⟨rfl,rfl⟩
def tX:yP:=fun f args h =>
 bif Nat.beq f 179 then pO args h
 else bif Nat.beq f 35 then nu args h
 else none
theorem Av:Ae cx tX:=by
 intro f args h r hr;unfold tX at hr;cases h1:Nat.beq f 179 with
 | true =>
  rw [h1] at hr;rw [Nat.eq_of_beq_eq_true h1];exact xD hr
 | false =>
  cases h2:Nat.beq f 35 with
  | true =>
   rw [h1,h2] at hr;rw [Nat.eq_of_beq_eq_true h2];exact uC hr
  | false=>rw [h1,h2] at hr;simp at hr
def y6:m8:=fun f args h=>bif Nat.beq f 179 || Nat.beq f 35 then Ac (fun _ _ _=>none) tX (fun _=>false) f args h else mr f args h
theorem bR:∀ f args h r,y6 f args h=some r->kr cx f args h r.1 r.2.1 r.2.2:=by
 intro f args h r hr;unfold y6 at hr;cases hc:Nat.beq f 179 || Nat.beq f 35 with
 | false=>rw [hc] at hr;exact Nr f args h r hr
 | true =>
  rw [hc] at hr;simp only [cond_true] at hr;exact lV (raw:=fun _=>false) (mr:=fun _ _ _=>none) zq Av f args h r hr
end Go.Proofs.YtcpklndelobigaaGreatDoor
namespace Go.Proofs.YtcpklndelobigaaGreatDoor
open Go.Proofs.YtcpklndelobigaaGreatDoor.Abs
set_option maxRecDepth 100000
theorem uN : Tryz.prog.funcs.toList.all (fun fn => !(fn.name == "runtime.NumGoroutine")) = true := by kernel_rfl
theorem bi : ∀ (f : FuncId) (fn : Func), cx.P.funcs[f]? = some fn → (fn.name == "runtime.NumGoroutine") = false := by
 intro f fn hf;have hm:fn∈Tryz.prog.funcs.toList:=Array.mem_toList_iff.2 (Array.mem_of_getElem? hf);have:=List.all_eq_true.1 uN fn hm;simpa using this
def xp:XP:=⟨1000,fun f=>Nat.beq f 28 || Nat.beq f 33 || Nat.beq f 82 || Nat.beq f 84 || Nat.beq f 97 || Nat.beq f 154 || Nat.beq f 171 || Nat.beq f 226,fun f g=>(Nat.beq f 7 && Nat.beq g 29) || (Nat.beq f 44 && Nat.beq g 78)⟩
theorem FB:Bh cx.P cx.G y6 xp 60 false 12 [] []=some (.bool true,[]):=by kernel_rfl
theorem sy:ae cx 12 [] (.bool true):=bg cxM bi bR 60 false 12 [] [] _ FB
end Go.Proofs.YtcpklndelobigaaGreatDoor
