/- The types that Open makes: every part is formed, rows have the names of their numbers. No condition. -/
import Derived.Test.YtcpklndelobigaaGreatDoorPA
set_option linter.all false
namespace Go.Proofs.YtcpklndelobigaaGreatDoor
open Go.Proofs.YtcpklndelobigaaGreatDoor.Abs
set_option maxRecDepth 20000
set_option maxHeartbeats 4000000
theorem aw {f:Nat} {args:List aa} {v:aa} (h:(Bh cx.P cx.G y6 xp 60 false f args []).map (fun r=>r.1.frz r.2)=some v) (hb:v.bel 0=true):ae cx f args v:=by
 cases hx:Bh cx.P cx.G y6 xp 60 false f args [] with
 | none=>rw [hx] at h;cases h
 | some r =>
  rw [hx] at h;exact eD (bg cxM bi bR 60 false f args [] r hx) (by rintro v' h' ⟨rfl,rfl⟩;exact Option.some.inj h) hb
def lfT:Nat->Ty
 | 0=>.mk 0 [] 0 [] []
 | 1=>.mk 1 [] 0 [] []
 | 2=>.mk 2 [] 0 [] []
 | 3=>.mk 3 [67,111,108,111,114] 0 [] []
 | 4=>.mk 3 [83,104,97,112,101] 0 [] []
 | 5=>.mk 6 [] 1 [] []
 | 6=>.mk 6 [] 2 [] []
 | _=>.mk 3 [83,105,122,101] 0 [] []
theorem Xt:∀ j,j<8->ae cx 189 [(lfT j).v] (.bool true)/\ae cx 169 [(lfT j).v] (.bool true)
 | 0,_=>⟨aw kq rfl,aw kq rfl⟩
 | 1,_=>⟨aw kq rfl,aw kq rfl⟩
 | 2,_=>⟨aw kq rfl,aw kq rfl⟩
 | 3,_=>⟨aw kq rfl,aw kq rfl⟩
 | 4,_=>⟨aw kq rfl,aw kq rfl⟩
 | 5,_=>⟨aw kq rfl,aw kq rfl⟩
 | 6,_=>⟨aw kq rfl,aw kq rfl⟩
 | 7,_=>⟨aw kq rfl,aw kq rfl⟩
 | j+8,h=>absurd h oq
theorem vd (j:Nat) (h:j<8):Vp (lfT j):=by
 have hf:=Xt j h
 match j,h with
 | 0,_=>exact ⟨⟨by decide,hf.1,hf.2,fun h=>(by first|decide|cases h),fun h=>(by cases h.1)⟩,trivial⟩
 | 1,_=>exact ⟨⟨by decide,hf.1,hf.2,fun h=>(by first|decide|cases h),fun h=>(by cases h.1)⟩,trivial⟩
 | 2,_=>exact ⟨⟨by decide,hf.1,hf.2,fun h=>(by first|decide|cases h),fun h=>(by cases h.1)⟩,trivial⟩
 | 3,_=>exact ⟨⟨by decide,hf.1,hf.2,fun h=>(by first|decide|cases h),fun h=>(by cases h.1)⟩,trivial⟩
 | 4,_=>exact ⟨⟨by decide,hf.1,hf.2,fun h=>(by first|decide|cases h),fun h=>(by cases h.1)⟩,trivial⟩
 | 5,_=>exact ⟨⟨by decide,hf.1,hf.2,fun h=>(by first|decide|cases h),fun h=>(by cases h.1)⟩,trivial⟩
 | 6,_=>exact ⟨⟨by decide,hf.1,hf.2,fun h=>(by first|decide|cases h),fun h=>(by cases h.1)⟩,trivial⟩
 | 7,_=>exact ⟨⟨by decide,hf.1,hf.2,fun h=>(by first|decide|cases h),fun h=>(by cases h.1)⟩,trivial⟩
 | j+8,h=>exact absurd h oq
theorem Va (x:Ty):ae cx 189 [(Ty.mk 4 [] 0 [] [x]).v] (.bool true)/\ae cx 169 [(Ty.mk 4 [] 0 [] [x]).v] (.bool true):=⟨aw kq rfl,aw kq rfl⟩
theorem V4 {x:Ty} (h:Vp x):Vp (.mk 4 [] 0 [] [x]):=⟨⟨by show (0:Int)<=4;decide,(Va x).1,(Va x).2,fun h=>(by cases h),fun h=>(by cases h.1)⟩,h,trivial⟩
def rv (w:Nat):Nat:=(if w.testBit 0 then 8 else 0)+(if w.testBit 1 then 4 else 0)+(if w.testBit 2 then 2 else 0)+(if w.testBit 3 then 1 else 0)
def sel {α:Type} (w:Nat) (kid:Nat->α):List α:=(bif w.testBit 0 then [kid 0] else [])++(bif w.testBit 1 then [kid 1] else [])++(bif w.testBit 2 then [kid 2] else [])++(bif w.testBit 3 then [kid 3] else [])
theorem O9 (k0 k1:Nat->Ty):∀ w,w<16->nw k0 4 0 ((w:Nat):Int) GW=.mk 5 [] 0 (oN (rv w)) (sel w k0)/\opF (oN (rv w)) k1 4 0 0 (sel w k0)=(((rv w:Nat):Int),sel w k1)
 | 0,_=>⟨by kernel_rfl,by kernel_rfl⟩
 | 1,_=>⟨by kernel_rfl,by kernel_rfl⟩
 | 2,_=>⟨by kernel_rfl,by kernel_rfl⟩
 | 3,_=>⟨by kernel_rfl,by kernel_rfl⟩
 | 4,_=>⟨by kernel_rfl,by kernel_rfl⟩
 | 5,_=>⟨by kernel_rfl,by kernel_rfl⟩
 | 6,_=>⟨by kernel_rfl,by kernel_rfl⟩
 | 7,_=>⟨by kernel_rfl,by kernel_rfl⟩
 | 8,_=>⟨by kernel_rfl,by kernel_rfl⟩
 | 9,_=>⟨by kernel_rfl,by kernel_rfl⟩
 | 10,_=>⟨by kernel_rfl,by kernel_rfl⟩
 | 11,_=>⟨by kernel_rfl,by kernel_rfl⟩
 | 12,_=>⟨by kernel_rfl,by kernel_rfl⟩
 | 13,_=>⟨by kernel_rfl,by kernel_rfl⟩
 | 14,_=>⟨by kernel_rfl,by kernel_rfl⟩
 | 15,_=>⟨by kernel_rfl,by kernel_rfl⟩
 | w+16,h=>absurd h oq
theorem Xd (k:Nat->Ty):ae cx 189 [(Ty.mk 5 [] 11 [] []).v] (.bool true)/\ae cx 169 [(Ty.mk 5 [] 11 [] []).v] (.bool true):=⟨aw kq rfl,aw kq rfl⟩
theorem Wf (k:Nat->Ty):ae cx 189 [(Ty.mk 5 [] 0 [] []).v] (.bool true)/\ae cx 169 [(Ty.mk 5 [] 0 [] []).v] (.bool true):=⟨aw kq rfl,aw kq rfl⟩
theorem Ws (k:Nat->Ty):ae cx 189 [(Ty.mk 5 [] 19 [[97]] [k 0]).v] (.bool true)/\ae cx 169 [(Ty.mk 5 [] 19 [[97]] [k 0]).v] (.bool true):=⟨aw kq rfl,aw kq rfl⟩
theorem Wb (k:Nat->Ty):ae cx 189 [(Ty.mk 5 [] 0 [[97]] [k 0]).v] (.bool true)/\ae cx 169 [(Ty.mk 5 [] 0 [[97]] [k 0]).v] (.bool true):=⟨aw kq rfl,aw kq rfl⟩
theorem WZ (k:Nat->Ty):ae cx 189 [(Ty.mk 5 [] 15 [[98]] [k 1]).v] (.bool true)/\ae cx 169 [(Ty.mk 5 [] 15 [[98]] [k 1]).v] (.bool true):=⟨aw kq rfl,aw kq rfl⟩
theorem W9 (k:Nat->Ty):ae cx 189 [(Ty.mk 5 [] 0 [[98]] [k 1]).v] (.bool true)/\ae cx 169 [(Ty.mk 5 [] 0 [[98]] [k 1]).v] (.bool true):=⟨aw kq rfl,aw kq rfl⟩
theorem WS (k:Nat->Ty):ae cx 189 [(Ty.mk 5 [] 23 [[97],[98]] [k 0,k 1]).v] (.bool true)/\ae cx 169 [(Ty.mk 5 [] 23 [[97],[98]] [k 0,k 1]).v] (.bool true):=⟨aw kq rfl,aw kq rfl⟩
theorem Xy (k:Nat->Ty):ae cx 189 [(Ty.mk 5 [] 0 [[97],[98]] [k 0,k 1]).v] (.bool true)/\ae cx 169 [(Ty.mk 5 [] 0 [[97],[98]] [k 0,k 1]).v] (.bool true):=⟨aw kq rfl,aw kq rfl⟩
theorem V5 (k:Nat->Ty):ae cx 189 [(Ty.mk 5 [] 13 [[99]] [k 2]).v] (.bool true)/\ae cx 169 [(Ty.mk 5 [] 13 [[99]] [k 2]).v] (.bool true):=⟨aw kq rfl,aw kq rfl⟩
theorem Wt (k:Nat->Ty):ae cx 189 [(Ty.mk 5 [] 0 [[99]] [k 2]).v] (.bool true)/\ae cx 169 [(Ty.mk 5 [] 0 [[99]] [k 2]).v] (.bool true):=⟨aw kq rfl,aw kq rfl⟩
theorem WX (k:Nat->Ty):ae cx 189 [(Ty.mk 5 [] 21 [[97],[99]] [k 0,k 2]).v] (.bool true)/\ae cx 169 [(Ty.mk 5 [] 21 [[97],[99]] [k 0,k 2]).v] (.bool true):=⟨aw kq rfl,aw kq rfl⟩
theorem Xb (k:Nat->Ty):ae cx 189 [(Ty.mk 5 [] 0 [[97],[99]] [k 0,k 2]).v] (.bool true)/\ae cx 169 [(Ty.mk 5 [] 0 [[97],[99]] [k 0,k 2]).v] (.bool true):=⟨aw kq rfl,aw kq rfl⟩
theorem Xj (k:Nat->Ty):ae cx 189 [(Ty.mk 5 [] 17 [[98],[99]] [k 1,k 2]).v] (.bool true)/\ae cx 169 [(Ty.mk 5 [] 17 [[98],[99]] [k 1,k 2]).v] (.bool true):=⟨aw kq rfl,aw kq rfl⟩
theorem WP (k:Nat->Ty):ae cx 189 [(Ty.mk 5 [] 0 [[98],[99]] [k 1,k 2]).v] (.bool true)/\ae cx 169 [(Ty.mk 5 [] 0 [[98],[99]] [k 1,k 2]).v] (.bool true):=⟨aw kq rfl,aw kq rfl⟩
theorem Xv (k:Nat->Ty):ae cx 189 [(Ty.mk 5 [] 25 [[97],[98],[99]] [k 0,k 1,k 2]).v] (.bool true)/\ae cx 169 [(Ty.mk 5 [] 25 [[97],[98],[99]] [k 0,k 1,k 2]).v] (.bool true):=⟨aw kq rfl,aw kq rfl⟩
theorem V3 (k:Nat->Ty):ae cx 189 [(Ty.mk 5 [] 0 [[97],[98],[99]] [k 0,k 1,k 2]).v] (.bool true)/\ae cx 169 [(Ty.mk 5 [] 0 [[97],[98],[99]] [k 0,k 1,k 2]).v] (.bool true):=⟨aw kq rfl,aw kq rfl⟩
theorem WM (k:Nat->Ty):ae cx 189 [(Ty.mk 5 [] 12 [[105,100]] [k 3]).v] (.bool true)/\ae cx 169 [(Ty.mk 5 [] 12 [[105,100]] [k 3]).v] (.bool true):=⟨aw kq rfl,aw kq rfl⟩
theorem WD (k:Nat->Ty):ae cx 189 [(Ty.mk 5 [] 0 [[105,100]] [k 3]).v] (.bool true)/\ae cx 169 [(Ty.mk 5 [] 0 [[105,100]] [k 3]).v] (.bool true):=⟨aw kq rfl,aw kq rfl⟩
theorem Wa (k:Nat->Ty):ae cx 189 [(Ty.mk 5 [] 20 [[97],[105,100]] [k 0,k 3]).v] (.bool true)/\ae cx 169 [(Ty.mk 5 [] 20 [[97],[105,100]] [k 0,k 3]).v] (.bool true):=⟨aw kq rfl,aw kq rfl⟩
theorem WB (k:Nat->Ty):ae cx 189 [(Ty.mk 5 [] 0 [[97],[105,100]] [k 0,k 3]).v] (.bool true)/\ae cx 169 [(Ty.mk 5 [] 0 [[97],[105,100]] [k 0,k 3]).v] (.bool true):=⟨aw kq rfl,aw kq rfl⟩
theorem Tk (k:Nat->Ty):ae cx 189 [(Ty.mk 5 [] 16 [[98],[105,100]] [k 1,k 3]).v] (.bool true)/\ae cx 169 [(Ty.mk 5 [] 16 [[98],[105,100]] [k 1,k 3]).v] (.bool true):=⟨aw kq rfl,aw kq rfl⟩
theorem Vg (k:Nat->Ty):ae cx 189 [(Ty.mk 5 [] 0 [[98],[105,100]] [k 1,k 3]).v] (.bool true)/\ae cx 169 [(Ty.mk 5 [] 0 [[98],[105,100]] [k 1,k 3]).v] (.bool true):=⟨aw kq rfl,aw kq rfl⟩
theorem Tg (k:Nat->Ty):ae cx 189 [(Ty.mk 5 [] 24 [[97],[98],[105,100]] [k 0,k 1,k 3]).v] (.bool true)/\ae cx 169 [(Ty.mk 5 [] 24 [[97],[98],[105,100]] [k 0,k 1,k 3]).v] (.bool true):=⟨aw kq rfl,aw kq rfl⟩
theorem TP (k:Nat->Ty):ae cx 189 [(Ty.mk 5 [] 0 [[97],[98],[105,100]] [k 0,k 1,k 3]).v] (.bool true)/\ae cx 169 [(Ty.mk 5 [] 0 [[97],[98],[105,100]] [k 0,k 1,k 3]).v] (.bool true):=⟨aw kq rfl,aw kq rfl⟩
theorem SL (k:Nat->Ty):ae cx 189 [(Ty.mk 5 [] 14 [[99],[105,100]] [k 2,k 3]).v] (.bool true)/\ae cx 169 [(Ty.mk 5 [] 14 [[99],[105,100]] [k 2,k 3]).v] (.bool true):=⟨aw kq rfl,aw kq rfl⟩
theorem Ua (k:Nat->Ty):ae cx 189 [(Ty.mk 5 [] 0 [[99],[105,100]] [k 2,k 3]).v] (.bool true)/\ae cx 169 [(Ty.mk 5 [] 0 [[99],[105,100]] [k 2,k 3]).v] (.bool true):=⟨aw kq rfl,aw kq rfl⟩
theorem Um (k:Nat->Ty):ae cx 189 [(Ty.mk 5 [] 22 [[97],[99],[105,100]] [k 0,k 2,k 3]).v] (.bool true)/\ae cx 169 [(Ty.mk 5 [] 22 [[97],[99],[105,100]] [k 0,k 2,k 3]).v] (.bool true):=⟨aw kq rfl,aw kq rfl⟩
theorem UK (k:Nat->Ty):ae cx 189 [(Ty.mk 5 [] 0 [[97],[99],[105,100]] [k 0,k 2,k 3]).v] (.bool true)/\ae cx 169 [(Ty.mk 5 [] 0 [[97],[99],[105,100]] [k 0,k 2,k 3]).v] (.bool true):=⟨aw kq rfl,aw kq rfl⟩
theorem SD (k:Nat->Ty):ae cx 189 [(Ty.mk 5 [] 18 [[98],[99],[105,100]] [k 1,k 2,k 3]).v] (.bool true)/\ae cx 169 [(Ty.mk 5 [] 18 [[98],[99],[105,100]] [k 1,k 2,k 3]).v] (.bool true):=⟨aw kq rfl,aw kq rfl⟩
theorem Uy (k:Nat->Ty):ae cx 189 [(Ty.mk 5 [] 0 [[98],[99],[105,100]] [k 1,k 2,k 3]).v] (.bool true)/\ae cx 169 [(Ty.mk 5 [] 0 [[98],[99],[105,100]] [k 1,k 2,k 3]).v] (.bool true):=⟨aw kq rfl,aw kq rfl⟩
theorem Vi (k:Nat->Ty):ae cx 189 [(Ty.mk 5 [] 26 [[97],[98],[99],[105,100]] [k 0,k 1,k 2,k 3]).v] (.bool true)/\ae cx 169 [(Ty.mk 5 [] 26 [[97],[98],[99],[105,100]] [k 0,k 1,k 2,k 3]).v] (.bool true):=⟨aw kq rfl,aw kq rfl⟩
theorem Vy (k:Nat->Ty):ae cx 189 [(Ty.mk 5 [] 0 [[97],[98],[99],[105,100]] [k 0,k 1,k 2,k 3]).v] (.bool true)/\ae cx 169 [(Ty.mk 5 [] 0 [[97],[98],[99],[105,100]] [k 0,k 1,k 2,k 3]).v] (.bool true):=⟨aw kq rfl,aw kq rfl⟩
theorem Po (k:Nat->Ty):∀ w,w<16->∀ b:Bool,ae cx 189 [(Ty.mk 5 [] (bif b then 11+((rv w:Nat):Int) else 0) (oN (rv w)) (sel w k)).v] (.bool true)/\ae cx 169 [(Ty.mk 5 [] (bif b then 11+((rv w:Nat):Int) else 0) (oN (rv w)) (sel w k)).v] (.bool true)
 | 0,_,true=>Xd k
 | 0,_,false=>Wf k
 | 1,_,true=>Ws k
 | 1,_,false=>Wb k
 | 2,_,true=>WZ k
 | 2,_,false=>W9 k
 | 3,_,true=>WS k
 | 3,_,false=>Xy k
 | 4,_,true=>V5 k
 | 4,_,false=>Wt k
 | 5,_,true=>WX k
 | 5,_,false=>Xb k
 | 6,_,true=>Xj k
 | 6,_,false=>WP k
 | 7,_,true=>Xv k
 | 7,_,false=>V3 k
 | 8,_,true=>WM k
 | 8,_,false=>WD k
 | 9,_,true=>Wa k
 | 9,_,false=>WB k
 | 10,_,true=>Tk k
 | 10,_,false=>Vg k
 | 11,_,true=>Tg k
 | 11,_,false=>TP k
 | 12,_,true=>SL k
 | 12,_,false=>Ua k
 | 13,_,true=>Um k
 | 13,_,false=>UK k
 | 14,_,true=>SD k
 | 14,_,false=>Uy k
 | 15,_,true=>Vi k
 | 15,_,false=>Vy k
 | w+16,h,_=>absurd h oq
theorem U6 {w:Nat} {k:Nat->Ty} (h:∀ i,Vp (k i)):VpL (sel w k):=by
 unfold sel;cases w.testBit 0 <;> cases w.testBit 1 <;> cases w.testBit 2 <;> cases w.testBit 3 <;> simp [VpL,h]
theorem OL {w:Nat} (hw:w<16) (b:Bool) {k:Nat->Ty} (h:∀ i,Vp (k i)):Vp (.mk 5 [] (bif b then 11+((rv w:Nat):Int) else 0) (oN (rv w)) (sel w k)):=by
 refine ⟨⟨(by show (0:Int)<=5;decide),(Po k w hw b).1,(Po k w hw b).2,fun h=>(by cases h),fun hn=>?_⟩,U6 h⟩;cases b with
 | false=>exact absurd rfl hn.2
 | true =>
  refine ⟨?_,?_⟩
  . show (10:Int)<11+((rv w:Nat):Int);omega
  . show oN (rv w)=oN (11+((rv w:Nat):Int) - 11).toNat;rw [show 11+((rv w:Nat):Int) - 11=((rv w:Nat):Int) by omega];rfl
theorem JP {k:Int} (h:0<=k/\k<5):Vp (ia k):=by
 have h5:k=0\/k=1\/k=2\/k=3\/k=4:=by omega
 rcases h5 with rfl|rfl|rfl|rfl|rfl
 . exact vd 0 dq
 . exact vd 1 dq
 . exact vd 2 dq
 . exact vd 3 dq
 . exact vd 4 dq
theorem O3 (l:List Int) (q:Nat):Vp (.mk 6 [] (1+ah l q 2) [] []):=by
 have h:=bb l q 2 dq;have h2:ah l q 2=0\/ah l q 2=1:=by omega
 rcases h2 with e|e <;> rw [e]
 . exact vd 5 dq
 . exact vd 6 dq
theorem TX (l:List Int) (q:Nat):Vp (ak l 0 q):=by
 have h:=bb l q 8 dq;have h2:=sk h.1 (show (0:Int)<5 by decide);exact JP ⟨by omega,by omega⟩
theorem Ip (l:List Int) (q:Nat):Vp (bP l 0 q):=by
 unfold bP;split
 . exact O3 l _
 . exact TX l q
theorem Jr (l:List Int) (q:Nat):Vp (bP l 1 q):=by
 unfold bP;split
 . exact O3 l _
 . have h:=bb l q 8 dq;by_cases h1:ah l q 8<5
   . have e:ak l (0+1) q=ia (ah l q 8):=wl (d:=1) dq h1;rw [e]
     have hb:(ia (ah l q 8)).kind<4:=by
      have h5:ah l q 8=0\/ah l q 8=1\/ah l q 8=2\/ah l q 8=3\/ah l q 8=4:=by omega
      rcases h5 with e|e|e|e|e <;> rw [e] <;> decide
     rw [if_neg oq,if_neg oq];exact JP ⟨h.1,by omega⟩
   . by_cases h2:ah l q 8=5
     . have e:ak l (0+1) q=.mk 4 [] 0 [] [ak l 0 (q+1)]:=wa (d:=1) dq h2;rw [e];exact V4 (Ip l _)
     . have hp:=bb l (q+1) 16 dq;obtain ⟨w,hw⟩:∃ w:Nat,ah l (q+1) 16=w:=⟨(ah l (q+1) 16).toNat,by omega⟩;have hlt:w<16:=by omega
       have e:ak l (0+1) q=.mk 5 [] 0 (oN (rv w)) (sel w (fun i=>ak l 0 (q+2+3 * i))):=by
        rw [ak,if_neg h1,if_neg h2,hw];exact (O9 _ (fun _=>Ty.zero) w hlt).1
       rw [e];have e2:=(O9 (fun i=>ak l 0 (q+2+3 * i)) (fun i=>bP l 0 (q+3+i)) w hlt).2;show Vp (if (5:Int)=4 then _ else if (5:Int)=5 then Ty.mk 5 [] (if ah l (q+7) 5<3 then 11+(opF (oN (rv w)) (fun i=>bP l 0 (q+3+i)) 4 0 0 (sel w (fun i=>ak l 0 (q+2+3 * i)))).1 else 0) (oN (rv w)) (opF (oN (rv w)) (fun i=>bP l 0 (q+3+i)) 4 0 0 (sel w (fun i=>ak l 0 (q+2+3 * i)))).2 else _);rw [if_neg dq,if_pos rfl,e2];by_cases h3:ah l (q+7) 5<3
       . rw [if_pos h3];exact OL hlt true (fun i=>Ip l _)
       . rw [if_neg h3];exact OL hlt false (fun i=>Ip l _)
end Go.Proofs.YtcpklndelobigaaGreatDoor
