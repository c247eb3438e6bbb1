/- The types that Open makes: every part is formed, rows have the names of their numbers. No condition. -/
import Derived.Test.YtcpklndelobigaaGreatDoorPC
import Derived.Test.YtcpklndelobigaaGreatDoorS4
set_option linter.all false
namespace Go.Proofs.YtcpklndelobigaaGreatDoor
open Go.Proofs.YtcpklndelobigaaGreatDoor.Abs
set_option maxRecDepth 20000
set_option maxHeartbeats 4000000
theorem ay {f:Nat} {args:List aa} {v:aa} (h:(xr cx.P cx.G yu xp 60 false f args []).map (fun r=>r.1.frz r.2)=some v) (hb:v.bel 0=true):af cx f args v:=by
 cases hx:xr cx.P cx.G yu xp 60 false f args [] with
 | none=>rw [hx] at h;cases h
 | some r =>
  rw [hx] at h;exact eX (a8 cxM bb bE 60 false f args [] r hx) (by rintro v' h' ⟨rfl,rfl⟩;exact Option.some.inj h) hb
def lfT:Nat->Ty
 | 0=>.mk 0 [] 0 [] []
 | 1=>.mk 1 [] 0 [] []
 | 2=>.mk 2 [] 0 [] []
 | 3=>.mk 3 [67,111,108,111,114] 0 [] []
 | 4=>.mk 3 [83,104,97,112,101] 0 [] []
 | 5=>.mk 6 [] 1 [] []
 | 6=>.mk 6 [] 2 [] []
 | _=>.mk 3 [83,105,122,101] 0 [] []
theorem Ri:∀ j,j<8->af cx 189 [(lfT j).v] (.bool true)/\af cx 169 [(lfT j).v] (.bool true)
 | 0,_=>⟨ay kq rfl,ay kq rfl⟩
 | 1,_=>⟨ay kq rfl,ay kq rfl⟩
 | 2,_=>⟨ay kq rfl,ay kq rfl⟩
 | 3,_=>⟨ay kq rfl,ay kq rfl⟩
 | 4,_=>⟨ay kq rfl,ay kq rfl⟩
 | 5,_=>⟨ay kq rfl,ay kq rfl⟩
 | 6,_=>⟨ay kq rfl,ay kq rfl⟩
 | 7,_=>⟨ay kq rfl,ay kq rfl⟩
 | j+8,h=>absurd h oq
theorem uP (j:Nat) (h:j<8):Vp (lfT j):=by
 have hf:=Ri j h
 match j,h with
 | 0,_=>exact ⟨⟨by decide,hf.1,hf.2,fun h=>(by first|decide|cases h),fun h=>(by cases h.1)⟩,trivial⟩
 | 1,_=>exact ⟨⟨by decide,hf.1,hf.2,fun h=>(by first|decide|cases h),fun h=>(by cases h.1)⟩,trivial⟩
 | 2,_=>exact ⟨⟨by decide,hf.1,hf.2,fun h=>(by first|decide|cases h),fun h=>(by cases h.1)⟩,trivial⟩
 | 3,_=>exact ⟨⟨by decide,hf.1,hf.2,fun h=>(by first|decide|cases h),fun h=>(by cases h.1)⟩,trivial⟩
 | 4,_=>exact ⟨⟨by decide,hf.1,hf.2,fun h=>(by first|decide|cases h),fun h=>(by cases h.1)⟩,trivial⟩
 | 5,_=>exact ⟨⟨by decide,hf.1,hf.2,fun h=>(by first|decide|cases h),fun h=>(by cases h.1)⟩,trivial⟩
 | 6,_=>exact ⟨⟨by decide,hf.1,hf.2,fun h=>(by first|decide|cases h),fun h=>(by cases h.1)⟩,trivial⟩
 | 7,_=>exact ⟨⟨by decide,hf.1,hf.2,fun h=>(by first|decide|cases h),fun h=>(by cases h.1)⟩,trivial⟩
 | j+8,h=>exact absurd h oq
theorem O5 (x:Ty):af cx 189 [(Ty.mk 4 [] 0 [] [x]).v] (.bool true)/\af cx 169 [(Ty.mk 4 [] 0 [] [x]).v] (.bool true):=⟨ay kq rfl,ay kq rfl⟩
theorem Ru {x:Ty} (h:Vp x):Vp (.mk 4 [] 0 [] [x]):=⟨⟨by show (0:Int)<=4;decide,(O5 x).1,(O5 x).2,fun h=>(by cases h),fun h=>(by cases h.1)⟩,h,trivial⟩
def rv (w:Nat):Nat:=(if w.testBit 0 then 8 else 0)+(if w.testBit 1 then 4 else 0)+(if w.testBit 2 then 2 else 0)+(if w.testBit 3 then 1 else 0)
def sel {α:Type} (w:Nat) (kid:Nat->α):List α:=(bif w.testBit 0 then [kid 0] else [])++(bif w.testBit 1 then [kid 1] else [])++(bif w.testBit 2 then [kid 2] else [])++(bif w.testBit 3 then [kid 3] else [])
theorem JI (k0 k1:Nat->Ty):∀ w,w<16->mq k0 4 0 ((w:Nat):Int) DU=.mk 5 [] 0 (nc (rv w)) (sel w k0)/\opF (nc (rv w)) k1 4 0 0 (sel w k0)=(((rv w:Nat):Int),sel w k1)
 | 0,_=>⟨by kernel_rfl,by kernel_rfl⟩
 | 1,_=>⟨by kernel_rfl,by kernel_rfl⟩
 | 2,_=>⟨by kernel_rfl,by kernel_rfl⟩
 | 3,_=>⟨by kernel_rfl,by kernel_rfl⟩
 | 4,_=>⟨by kernel_rfl,by kernel_rfl⟩
 | 5,_=>⟨by kernel_rfl,by kernel_rfl⟩
 | 6,_=>⟨by kernel_rfl,by kernel_rfl⟩
 | 7,_=>⟨by kernel_rfl,by kernel_rfl⟩
 | 8,_=>⟨by kernel_rfl,by kernel_rfl⟩
 | 9,_=>⟨by kernel_rfl,by kernel_rfl⟩
 | 10,_=>⟨by kernel_rfl,by kernel_rfl⟩
 | 11,_=>⟨by kernel_rfl,by kernel_rfl⟩
 | 12,_=>⟨by kernel_rfl,by kernel_rfl⟩
 | 13,_=>⟨by kernel_rfl,by kernel_rfl⟩
 | 14,_=>⟨by kernel_rfl,by kernel_rfl⟩
 | 15,_=>⟨by kernel_rfl,by kernel_rfl⟩
 | w+16,h=>absurd h oq
theorem Rj (k:Nat->Ty):af cx 189 [(Ty.mk 5 [] 11 [] []).v] (.bool true)/\af cx 169 [(Ty.mk 5 [] 11 [] []).v] (.bool true):=⟨ay kq rfl,ay kq rfl⟩
theorem Qx (k:Nat->Ty):af cx 189 [(Ty.mk 5 [] 0 [] []).v] (.bool true)/\af cx 169 [(Ty.mk 5 [] 0 [] []).v] (.bool true):=⟨ay kq rfl,ay kq rfl⟩
theorem QV (k:Nat->Ty):af cx 189 [(Ty.mk 5 [] 19 [[97]] [k 0]).v] (.bool true)/\af cx 169 [(Ty.mk 5 [] 19 [[97]] [k 0]).v] (.bool true):=⟨ay kq rfl,ay kq rfl⟩
theorem QM (k:Nat->Ty):af cx 189 [(Ty.mk 5 [] 0 [[97]] [k 0]).v] (.bool true)/\af cx 169 [(Ty.mk 5 [] 0 [[97]] [k 0]).v] (.bool true):=⟨ay kq rfl,ay kq rfl⟩
theorem Qt (k:Nat->Ty):af cx 189 [(Ty.mk 5 [] 15 [[98]] [k 1]).v] (.bool true)/\af cx 169 [(Ty.mk 5 [] 15 [[98]] [k 1]).v] (.bool true):=⟨ay kq rfl,ay kq rfl⟩
theorem QK (k:Nat->Ty):af cx 189 [(Ty.mk 5 [] 0 [[98]] [k 1]).v] (.bool true)/\af cx 169 [(Ty.mk 5 [] 0 [[98]] [k 1]).v] (.bool true):=⟨ay kq rfl,ay kq rfl⟩
theorem Rm (k:Nat->Ty):af cx 189 [(Ty.mk 5 [] 23 [[97],[98]] [k 0,k 1]).v] (.bool true)/\af cx 169 [(Ty.mk 5 [] 23 [[97],[98]] [k 0,k 1]).v] (.bool true):=⟨ay kq rfl,ay kq rfl⟩
theorem RF (k:Nat->Ty):af cx 189 [(Ty.mk 5 [] 0 [[97],[98]] [k 0,k 1]).v] (.bool true)/\af cx 169 [(Ty.mk 5 [] 0 [[97],[98]] [k 0,k 1]).v] (.bool true):=⟨ay kq rfl,ay kq rfl⟩
theorem Rl (k:Nat->Ty):af cx 189 [(Ty.mk 5 [] 13 [[99]] [k 2]).v] (.bool true)/\af cx 169 [(Ty.mk 5 [] 13 [[99]] [k 2]).v] (.bool true):=⟨ay kq rfl,ay kq rfl⟩
theorem Rs (k:Nat->Ty):af cx 189 [(Ty.mk 5 [] 0 [[99]] [k 2]).v] (.bool true)/\af cx 169 [(Ty.mk 5 [] 0 [[99]] [k 2]).v] (.bool true):=⟨ay kq rfl,ay kq rfl⟩
theorem Qn (k:Nat->Ty):af cx 189 [(Ty.mk 5 [] 21 [[97],[99]] [k 0,k 2]).v] (.bool true)/\af cx 169 [(Ty.mk 5 [] 21 [[97],[99]] [k 0,k 2]).v] (.bool true):=⟨ay kq rfl,ay kq rfl⟩
theorem Qo (k:Nat->Ty):af cx 189 [(Ty.mk 5 [] 0 [[97],[99]] [k 0,k 2]).v] (.bool true)/\af cx 169 [(Ty.mk 5 [] 0 [[97],[99]] [k 0,k 2]).v] (.bool true):=⟨ay kq rfl,ay kq rfl⟩
theorem Qm (k:Nat->Ty):af cx 189 [(Ty.mk 5 [] 17 [[98],[99]] [k 1,k 2]).v] (.bool true)/\af cx 169 [(Ty.mk 5 [] 17 [[98],[99]] [k 1,k 2]).v] (.bool true):=⟨ay kq rfl,ay kq rfl⟩
theorem Ro (k:Nat->Ty):af cx 189 [(Ty.mk 5 [] 0 [[98],[99]] [k 1,k 2]).v] (.bool true)/\af cx 169 [(Ty.mk 5 [] 0 [[98],[99]] [k 1,k 2]).v] (.bool true):=⟨ay kq rfl,ay kq rfl⟩
theorem Ql (k:Nat->Ty):af cx 189 [(Ty.mk 5 [] 25 [[97],[98],[99]] [k 0,k 1,k 2]).v] (.bool true)/\af cx 169 [(Ty.mk 5 [] 25 [[97],[98],[99]] [k 0,k 1,k 2]).v] (.bool true):=⟨ay kq rfl,ay kq rfl⟩
theorem RG (k:Nat->Ty):af cx 189 [(Ty.mk 5 [] 0 [[97],[98],[99]] [k 0,k 1,k 2]).v] (.bool true)/\af cx 169 [(Ty.mk 5 [] 0 [[97],[98],[99]] [k 0,k 1,k 2]).v] (.bool true):=⟨ay kq rfl,ay kq rfl⟩
theorem Qs (k:Nat->Ty):af cx 189 [(Ty.mk 5 [] 12 [[105,100]] [k 3]).v] (.bool true)/\af cx 169 [(Ty.mk 5 [] 12 [[105,100]] [k 3]).v] (.bool true):=⟨ay kq rfl,ay kq rfl⟩
theorem QW (k:Nat->Ty):af cx 189 [(Ty.mk 5 [] 0 [[105,100]] [k 3]).v] (.bool true)/\af cx 169 [(Ty.mk 5 [] 0 [[105,100]] [k 3]).v] (.bool true):=⟨ay kq rfl,ay kq rfl⟩
theorem RD (k:Nat->Ty):af cx 189 [(Ty.mk 5 [] 20 [[97],[105,100]] [k 0,k 3]).v] (.bool true)/\af cx 169 [(Ty.mk 5 [] 20 [[97],[105,100]] [k 0,k 3]).v] (.bool true):=⟨ay kq rfl,ay kq rfl⟩
theorem Q2 (k:Nat->Ty):af cx 189 [(Ty.mk 5 [] 0 [[97],[105,100]] [k 0,k 3]).v] (.bool true)/\af cx 169 [(Ty.mk 5 [] 0 [[97],[105,100]] [k 0,k 3]).v] (.bool true):=⟨ay kq rfl,ay kq rfl⟩
theorem Pf (k:Nat->Ty):af cx 189 [(Ty.mk 5 [] 16 [[98],[105,100]] [k 1,k 3]).v] (.bool true)/\af cx 169 [(Ty.mk 5 [] 16 [[98],[105,100]] [k 1,k 3]).v] (.bool true):=⟨ay kq rfl,ay kq rfl⟩
theorem O7 (k:Nat->Ty):af cx 189 [(Ty.mk 5 [] 0 [[98],[105,100]] [k 1,k 3]).v] (.bool true)/\af cx 169 [(Ty.mk 5 [] 0 [[98],[105,100]] [k 1,k 3]).v] (.bool true):=⟨ay kq rfl,ay kq rfl⟩
theorem NL (k:Nat->Ty):af cx 189 [(Ty.mk 5 [] 24 [[97],[98],[105,100]] [k 0,k 1,k 3]).v] (.bool true)/\af cx 169 [(Ty.mk 5 [] 24 [[97],[98],[105,100]] [k 0,k 1,k 3]).v] (.bool true):=⟨ay kq rfl,ay kq rfl⟩
theorem Nu (k:Nat->Ty):af cx 189 [(Ty.mk 5 [] 0 [[97],[98],[105,100]] [k 0,k 1,k 3]).v] (.bool true)/\af cx 169 [(Ty.mk 5 [] 0 [[97],[98],[105,100]] [k 0,k 1,k 3]).v] (.bool true):=⟨ay kq rfl,ay kq rfl⟩
theorem NA (k:Nat->Ty):af cx 189 [(Ty.mk 5 [] 14 [[99],[105,100]] [k 2,k 3]).v] (.bool true)/\af cx 169 [(Ty.mk 5 [] 14 [[99],[105,100]] [k 2,k 3]).v] (.bool true):=⟨ay kq rfl,ay kq rfl⟩
theorem NK (k:Nat->Ty):af cx 189 [(Ty.mk 5 [] 0 [[99],[105,100]] [k 2,k 3]).v] (.bool true)/\af cx 169 [(Ty.mk 5 [] 0 [[99],[105,100]] [k 2,k 3]).v] (.bool true):=⟨ay kq rfl,ay kq rfl⟩
theorem Nr (k:Nat->Ty):af cx 189 [(Ty.mk 5 [] 22 [[97],[99],[105,100]] [k 0,k 2,k 3]).v] (.bool true)/\af cx 169 [(Ty.mk 5 [] 22 [[97],[99],[105,100]] [k 0,k 2,k 3]).v] (.bool true):=⟨ay kq rfl,ay kq rfl⟩
theorem Na (k:Nat->Ty):af cx 189 [(Ty.mk 5 [] 0 [[97],[99],[105,100]] [k 0,k 2,k 3]).v] (.bool true)/\af cx 169 [(Ty.mk 5 [] 0 [[97],[99],[105,100]] [k 0,k 2,k 3]).v] (.bool true):=⟨ay kq rfl,ay kq rfl⟩
theorem OI (k:Nat->Ty):af cx 189 [(Ty.mk 5 [] 18 [[98],[99],[105,100]] [k 1,k 2,k 3]).v] (.bool true)/\af cx 169 [(Ty.mk 5 [] 18 [[98],[99],[105,100]] [k 1,k 2,k 3]).v] (.bool true):=⟨ay kq rfl,ay kq rfl⟩
theorem Nh (k:Nat->Ty):af cx 189 [(Ty.mk 5 [] 0 [[98],[99],[105,100]] [k 1,k 2,k 3]).v] (.bool true)/\af cx 169 [(Ty.mk 5 [] 0 [[98],[99],[105,100]] [k 1,k 2,k 3]).v] (.bool true):=⟨ay kq rfl,ay kq rfl⟩
theorem NO (k:Nat->Ty):af cx 189 [(Ty.mk 5 [] 26 [[97],[98],[99],[105,100]] [k 0,k 1,k 2,k 3]).v] (.bool true)/\af cx 169 [(Ty.mk 5 [] 26 [[97],[98],[99],[105,100]] [k 0,k 1,k 2,k 3]).v] (.bool true):=⟨ay kq rfl,ay kq rfl⟩
theorem OQ (k:Nat->Ty):af cx 189 [(Ty.mk 5 [] 0 [[97],[98],[99],[105,100]] [k 0,k 1,k 2,k 3]).v] (.bool true)/\af cx 169 [(Ty.mk 5 [] 0 [[97],[98],[99],[105,100]] [k 0,k 1,k 2,k 3]).v] (.bool true):=⟨ay kq rfl,ay kq rfl⟩
theorem JX (k:Nat->Ty):∀ w,w<16->∀ b:Bool,af cx 189 [(Ty.mk 5 [] (bif b then 11+((rv w:Nat):Int) else 0) (nc (rv w)) (sel w k)).v] (.bool true)/\af cx 169 [(Ty.mk 5 [] (bif b then 11+((rv w:Nat):Int) else 0) (nc (rv w)) (sel w k)).v] (.bool true)
 | 0,_,true=>Rj k
 | 0,_,false=>Qx k
 | 1,_,true=>QV k
 | 1,_,false=>QM k
 | 2,_,true=>Qt k
 | 2,_,false=>QK k
 | 3,_,true=>Rm k
 | 3,_,false=>RF k
 | 4,_,true=>Rl k
 | 4,_,false=>Rs k
 | 5,_,true=>Qn k
 | 5,_,false=>Qo k
 | 6,_,true=>Qm k
 | 6,_,false=>Ro k
 | 7,_,true=>Ql k
 | 7,_,false=>RG k
 | 8,_,true=>Qs k
 | 8,_,false=>QW k
 | 9,_,true=>RD k
 | 9,_,false=>Q2 k
 | 10,_,true=>Pf k
 | 10,_,false=>O7 k
 | 11,_,true=>NL k
 | 11,_,false=>Nu k
 | 12,_,true=>NA k
 | 12,_,false=>NK k
 | 13,_,true=>Nr k
 | 13,_,false=>Na k
 | 14,_,true=>OI k
 | 14,_,false=>Nh k
 | 15,_,true=>NO k
 | 15,_,false=>OQ k
 | w+16,h,_=>absurd h oq
theorem OM {w:Nat} {k:Nat->Ty} (h:∀ i,Vp (k i)):VpL (sel w k):=by
 unfold sel;cases w.testBit 0 <;> cases w.testBit 1 <;> cases w.testBit 2 <;> cases w.testBit 3 <;> simp [VpL,h]
theorem Ko {w:Nat} (hw:w<16) (b:Bool) {k:Nat->Ty} (h:∀ i,Vp (k i)):Vp (.mk 5 [] (bif b then 11+((rv w:Nat):Int) else 0) (nc (rv w)) (sel w k)):=by
 refine ⟨⟨(by show (0:Int)<=5;decide),(JX k w hw b).1,(JX k w hw b).2,fun h=>(by cases h),fun hn=>?_⟩,OM h⟩;cases b with
 | false=>exact absurd rfl hn.2
 | true =>
  refine ⟨?_,?_⟩
  . show (10:Int)<11+((rv w:Nat):Int);omega
  . show nc (rv w)=nc (11+((rv w:Nat):Int) - 11).toNat;rw [show 11+((rv w:Nat):Int) - 11=((rv w:Nat):Int) by omega];rfl
theorem Eu {k:Int} (h:0<=k/\k<5):Vp (gu k):=by
 have h5:k=0\/k=1\/k=2\/k=3\/k=4:=by omega
 rcases h5 with rfl|rfl|rfl|rfl|rfl
 . exact uP 0 dq
 . exact uP 1 dq
 . exact uP 2 dq
 . exact uP 3 dq
 . exact uP 4 dq
theorem KE (l:List Int) (q:Nat):Vp (.mk 6 [] (1+ah l q 2) [] []):=by
 have h:=a6 l q 2 dq;have h2:ah l q 2=0\/ah l q 2=1:=by omega
 rcases h2 with e|e <;> rw [e]
 . exact uP 5 dq
 . exact uP 6 dq
theorem Oh (l:List Int) (q:Nat):Vp (ai l 0 q):=by
 have h:=a6 l q 8 dq;have h2:=qj h.1 (show (0:Int)<5 by decide);exact Eu ⟨by omega,by omega⟩
theorem GC (l:List Int) (q:Nat):Vp (bA l 0 q):=by
 unfold bA;split
 . exact KE l _
 . exact Oh l q
theorem Fz (l:List Int) (q:Nat):Vp (bA l 1 q):=by
 unfold bA;split
 . exact KE l _
 . have h:=a6 l q 8 dq;by_cases h1:ah l q 8<5
   . have e:ai l (0+1) q=gu (ah l q 8):=uf (d:=1) dq h1;rw [e]
     have hb:(gu (ah l q 8)).kind<4:=by
      have h5:ah l q 8=0\/ah l q 8=1\/ah l q 8=2\/ah l q 8=3\/ah l q 8=4:=by omega
      rcases h5 with e|e|e|e|e <;> rw [e] <;> decide
     rw [if_neg oq,if_neg oq];exact Eu ⟨h.1,by omega⟩
   . by_cases h2:ah l q 8=5
     . have e:ai l (0+1) q=.mk 4 [] 0 [] [ai l 0 (q+1)]:=tH (d:=1) dq h2;rw [e];exact Ru (GC l _)
     . have hp:=a6 l (q+1) 16 dq;obtain ⟨w,hw⟩:∃ w:Nat,ah l (q+1) 16=w:=⟨(ah l (q+1) 16).toNat,by omega⟩;have hlt:w<16:=by omega
       have e:ai l (0+1) q=.mk 5 [] 0 (nc (rv w)) (sel w (fun i=>ai l 0 (q+2+3 * i))):=by
        rw [ai,if_neg h1,if_neg h2,hw];exact (JI _ (fun _=>Ty.zero) w hlt).1
       rw [e];have e2:=(JI (fun i=>ai l 0 (q+2+3 * i)) (fun i=>bA l 0 (q+3+i)) w hlt).2;show Vp (if (5:Int)=4 then _ else if (5:Int)=5 then Ty.mk 5 [] (if ah l (q+7) 5<3 then 11+(opF (nc (rv w)) (fun i=>bA l 0 (q+3+i)) 4 0 0 (sel w (fun i=>ai l 0 (q+2+3 * i)))).1 else 0) (nc (rv w)) (opF (nc (rv w)) (fun i=>bA l 0 (q+3+i)) 4 0 0 (sel w (fun i=>ai l 0 (q+2+3 * i)))).2 else _);rw [if_neg dq,if_pos rfl,e2];by_cases h3:ah l (q+7) 5<3
       . rw [if_pos h3];exact Ko hlt true (fun i=>GC l _)
       . rw [if_neg h3];exact Ko hlt false (fun i=>GC l _)
end Go.Proofs.YtcpklndelobigaaGreatDoor
