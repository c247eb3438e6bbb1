/- The schemas that the generators make: names, types and checks. No condition. -/
import Derived.Test.YtcpklndelobigaaGreatDoorPD
set_option linter.all false
namespace Go.Proofs.YtcpklndelobigaaGreatDoor
open Go.Proofs.YtcpklndelobigaaGreatDoor.Abs
set_option maxRecDepth 20000
set_option maxHeartbeats 4000000
theorem ED (x:Ty):∀ (ks:List Ty) (j:Nat),Ty.szL (ks.set j x)<=Ty.szL ks+x.sz
 | [],j=>by simp [Ty.szL]
 | y::ks,0=>by simp only [List.set_cons_zero,Ty.szL];omega
 | y::ks,j+1=>by have:=ED x ks j;simp only [List.set_cons_succ,Ty.szL];omega
theorem B6 (names:List ej) (kid:Nat->Ty) (b:Nat) (hk:∀ i,(kid i).sz<=b):∀ f i m ks,Ty.szL (opF names kid f i m ks).2<=Ty.szL ks+f * b
 | 0,i,m,ks=>by simp [opF]
 | f+1,i,m,ks=>by
  have e:(f+1) * b=f * b+b:=Nat.succ_mul _ _;unfold opF;split
  . have:=B6 names kid b hk f (i+1) (2 * m+1) (ks.set (dJ names (nms.getD i [])).toNat (kid i));have h2:=ED (kid i) ks (dJ names (nms.getD i [])).toNat;have h3:=hk i;omega
  . have:=B6 names kid b hk f (i+1) (2 * m) ks;omega
def bo:Nat->Nat
 | 0=>30
 | n+1=>bd (n+1)+4 * bo n+30
theorem ze (l:List Int):∀ d q,(bP l d q).sz<=bo d
 | 0,q=>by
  unfold bP;split
  . simp only [Ty.sz,szS,Ty.szL,List.length_nil,bo];omega
  . exact Nat.le_trans (kU l 0 q) dq
 | d+1,q=>by
  have ih:=ze l d;have hc:=kU l (d+1) q;have he:=sF (ak l (d+1) q);unfold bP;split
  . simp only [Ty.sz,szS,Ty.szL,List.length_nil,bo];omega
  . split
    . have:=ih (q+1);simp only [Ty.sz,Ty.szL,bo];omega
    . split
      . have:=B6 (ak l (d+1) q).names (fun i=>bP l d (q+3+i)) (bo d) (fun i=>ih _) 4 0 0 (ak l (d+1) q).kids;simp only [Ty.sz,bo];omega
      . simp only [bo];omega
theorem qS (l:List Int) (d q:Nat) (h:d<=2):(bP l d q).sz<=100000:=by
 refine Nat.le_trans (ze l d q) ?_
 match d,h with
 | 0,_=>decide
 | 1,_=>decide
 | 2,_=>decide
def nmA:List (List UInt8):=[[105,100],[110],[120],[111,112,101,110],[73,100],[],[105,116,101,109],[115,104,111,112],[97,98,99,100,101,102,103,104,105,106,107,108,109,110,111,112,113],[116,121,112,101],[110,97,109,101],[99,111,108,111,114],[97,116],[115,105,122,101],[112,108,97,99,101],[115,101,108,108,115],[99,48],[99,49],[99,50],[99,51],[99,52],[99,53],[99,54],[99,55],[99,56],[67,111,108,111,114],[83,105,122,101],[73,110,116],[90,101,100],[114,101,100]]
def smA:List (List UInt8):=[[67,111,108,111,114],[83,105,122,101],[73,110,116],[90,101,100],[114,101,100],[]]
def ctA:List (List UInt8):=[[82,101,100],[66,108,117,101],[83,109,97,108,108],[66,105,103],[73,110,116],[120],[71,114,101,101,110]]
def exA:List Ex:=[Ex.zero,u5 2 1,opX,u5 16 0]
structure GdC (c:Co):Prop where
 n:c.name∈nmA
 q:Vp c.type
 z:c.type.sz<=100000
structure GdA (c:Ct):Prop where
 n:c.name∈ctA
 q:Vp c.arg
 z:c.arg.sz<=100000
structure GdT (b:Nat) (t:Tb):Prop where
 n:t.name∈nmA
 l:0<t.cols.length/\t.cols.length<=9
 c:∀ c∈t.cols,GdC c
 k:t.key.length<=b
 r:t.refs.length<=b
 x:t.chk∈exA
structure GdM (s:Sm):Prop where
 n:s.name∈smA
 l:s.ctors.length<=2
 c:∀ c∈s.ctors,GdA c
structure Gd (b:Nat) (s:Sc):Prop where
 l:0<s.sums.length/\s.sums.length<=2
 m:0<s.tabs.length/\s.tabs.length<=b
 ss:∀ x∈s.sums,GdM x
 tt:∀ x∈s.tabs,GdT b x
theorem TQ:∀ j,(lfT j).sz<=100000
 | 0|1|2|3|4|5|6=>by decide
 | _+7=>by show (Ty.mk 3 [83,105,122,101] 0 [] []).sz<=100000;decide
theorem gdC {n:List UInt8} (h:n∈nmA) (j:Nat) (hj:j<8):GdC ⟨n,lfT j⟩:=⟨h,vd j hj,TQ j⟩
theorem gdA {n:List UInt8} (h:n∈ctA) (b:Bool):GdA ⟨n,b,iO⟩:=⟨h,vd 0 dq,TQ 0⟩
theorem Mb {α:Type} {P:α->Prop} {a b:α} (ha:P a) (hb:P b):∀ x∈[a,b],P x:=by
 intro x hx;simp only [List.mem_cons,List.not_mem_nil,or_false] at hx;rcases hx with rfl|rfl <;> assumption
theorem Qi {α:Type} {P:α->Prop} {a b c:α} (ha:P a) (hb:P b) (hc:P c):∀ x∈[a,b,c],P x:=by
 intro x hx;simp only [List.mem_cons,List.not_mem_nil,or_false] at hx;rcases hx with rfl|rfl|rfl <;> assumption
theorem sY:∀ x∈eX,GdM x:=Mb ⟨by decide,by decide,Mb (gdA dq _) (gdA dq _)⟩ ⟨by decide,by decide,Mb (gdA dq _) (gdA dq _)⟩
theorem RA {n:List UInt8} (h:n∈nmA):∀ i,GdC ⟨n,kY.getD i Ty.zero⟩
 | 0=>gdC h 0 dq
 | 1=>gdC h 1 dq
 | _+2=>gdC h 0 dq
theorem EH (l:List Int):∀ c∈Cf l,GdC c:=Qi (RA dq _) (gdC dq 1 dq) (gdC dq 2 dq)
theorem Kk (l:List Int):∀ c∈plC l,GdC c:=by
 intro c hc;unfold plC at hc;split at hc
 . rcases List.mem_append.1 hc with h|h
   . exact EH l c h
   . rw [List.mem_singleton] at h;subst h;exact gdC dq 3 dq
 . exact EH l c hc
theorem NC (l:List Int):(plC l).length<=9:=by unfold plC Cf;split <;> simp
theorem Qk (l:List Int):GdT 3 (plT l):=⟨by show ([112,108,97,99,101]:List UInt8)∈nmA;decide,⟨Nat.lt_of_lt_of_le dq (ym l),NC l⟩,Kk l,(by decide:1<=3),(by decide:0<=3),.tail _ (.head _)⟩
theorem Qq (l:List Int):∀ c∈itC l,GdC c:=by
 intro c hc;simp only [itC,List.mem_cons,List.not_mem_nil,or_false] at hc;have h0:=Kk l ((plC l).getD 0 Co.zero) (aH (plC l) Co.zero 0 (Nat.lt_of_lt_of_le dq (ym l)));rcases hc with rfl|rfl|rfl|rfl
 . exact gdC dq 0 dq
 . exact gdC dq 0 dq
 . exact ⟨by show ([97,116]:List UInt8)∈nmA;decide,h0.q,h0.z⟩
 . exact gdC dq 7 dq
theorem PH (l:List Int):itX l∈exA:=by
 unfold itX;split
 . exact .tail _ (.tail _ (.head _))
 . exact .tail _ (.head _)
theorem Kq (l:List Int):(lw l).length<=3:=by unfold lw;split <;> decide
theorem I7 (l:List Int) (r:List Rf) (h:r.length<=3):GdT 3 (itT l r):=⟨by show ([105,116,101,109]:List UInt8)∈nmA;decide,⟨by show 0<4;decide,by show 4<=9;decide⟩,Qq l,by show 1<=3;decide,h,PH l⟩
theorem PP (l:List Int):GdT 3 (shT l):=by
 refine ⟨(by show ([115,104,111,112]:List UInt8)∈nmA;decide),⟨(by show 0<3;decide),(by show 3<=9;decide)⟩,Qi (gdC dq 1 dq) (gdC dq 0 dq) (gdC dq 2 dq),?_,?_,.tail _ (.head _)⟩
 . show (shK l).length<=3;unfold shK;split <;> decide
 . show (shR l).length<=3;unfold shR;split <;> decide
theorem o6 (l:List Int):Gd 3 (ii l):=by
 have h1:=I7 l _ (Kq l);have h2:=Qk l;have h3:=PP l;unfold ii;split
 . refine ⟨⟨(by show 0<2;decide),(by show 2<=2;decide)⟩,⟨(by show 0<1;decide),(by show 1<=3;decide)⟩,sY,fun x hx=>?_⟩;rw [List.mem_singleton.1 hx];exact I7 l [] dq
 . split
   . exact ⟨⟨by show 0<2;decide,by show 2<=2;decide⟩,⟨by show 0<2;decide,by show 2<=3;decide⟩,sY,Mb h1 h2⟩
   . exact ⟨⟨by show 0<2;decide,by show 2<=2;decide⟩,⟨by show 0<3;decide,by show 3<=3;decide⟩,sY,Qi h1 h2 h3⟩
theorem WH:∀ j,j<10->([[105,100],[110],[120],[111,112,101,110],[73,100],[],[105,116,101,109],[115,104,111,112],[97,98,99,100,101,102,103,104,105,106,107,108,109,110,111,112,113],[116,121,112,101]]:List ej).getD j []∈nmA:=by decide
theorem T9 (l:List Int):bW l∈nmA:=by
 have:=bb l 2 10 dq;exact WH _ oq
theorem Xx:∀ j,j<5->([[83,105,122,101],[73,110,116],[90,101,100],[114,101,100],[]]:List ej).getD j []∈smA:=by decide
theorem SG:∀ j,j<4->([[83,109,97,108,108],[73,110,116],[120],[71,114,101,101,110]]:List ej).getD j []∈ctA:=by decide
theorem Xu:∀ j,j<9->[99]++uO j∈nmA:=by decide
theorem GdT.up {b c:Nat} {t:Tb} (h:GdT b t) (hc:b<=c):GdT c t:=⟨h.n,h.l,h.c,Nat.le_trans h.k hc,Nat.le_trans h.r hc,h.x⟩
theorem Gd.up {b c:Nat} {s:Sc} (h:Gd b s) (hc:b<=c):Gd c s:=⟨h.l,⟨h.m.1,Nat.le_trans h.m.2 hc⟩,h.ss,fun x hx=>(h.tt x hx).up hc⟩
theorem wI {b:Nat} {s:Sc} (l:List Int) (h:Gd b s):GdT b (bT s l):=by
 have h0:=h.m.1;have:=bb l 1 ((s.tabs.length:Nat):Int) oq;exact h.tt _ (aH _ _ _ (by unfold bI;omega))
theorem T4 {b:Nat} {s:Sc} (l:List Int) (h:Gd b s):GdC (bC s l):=by
 have ht:=wI l h;have h0:=ht.l.1;have:=bb l 3 (((bT s l).cols.length:Nat):Int) oq;exact ht.c _ (aH _ _ _ (by unfold bK;omega))
theorem vL:∀ n c,(k6 n c).length=c.length+n
 | 0,c=>rfl
 | n+1,c=>by rw [k6,vL n];simp;omega
theorem zj:∀ n c,c.length+n<=9->(∀ x∈c,GdC x)->∀ x∈k6 n c,GdC x
 | 0,c,_,h=>h
 | n+1,c,hn,h=>by
  rw [k6];refine zj n _ (by simp;omega) fun x hx=>?_
  rcases List.mem_append.1 hx with hx|hx
  . exact h x hx
  . rw [List.mem_singleton] at hx;subst hx;exact gdC (Xu _ oq) 0 dq
theorem my {α:Type} {P:α->Prop} {l:List α} {i:Nat} {x:α} (h:∀ y∈l,P y) (hx:P x):∀ y∈l.set i x,P y:=fun y hy=>by
 rcases List.mem_or_eq_of_mem_set hy with hy|rfl
 . exact h y hy
 . exact hx
theorem Ia {b:Nat} {s:Sc} {l:List Int} (q:Int) (h:Gd b s):(0<(mj q s l).length/\(mj q s l).length<=9)/\∀ c∈mj q s l,GdC c:=by
 have ht:=wI l h;have hc:=T4 l h;have hl:=ht.l;unfold mj;split
 . exact ⟨by rw [List.length_set];exact hl,my ht.c ⟨T9 l,hc.q,hc.z⟩⟩
 . split
   . exact ⟨by rw [List.length_set];exact hl,my ht.c ⟨hc.n,Jr l 4,qS l 1 4 dq⟩⟩
   . split
     . exact ⟨by rw [vL];omega,zj _ _ oq ht.c⟩
     . exact ⟨hl,ht.c⟩
theorem MM {b:Nat} {s:Sc} {l:List Int} (q:Int) (h:Gd b s):(ug q s l).length<=b+1:=by
 have hk:=(wI l h).k;unfold ug;split
 . simp;omega
 . split
   . split
     . rw [List.length_set];omega
     . omega
   . split
     . simp
     . omega
theorem JG {b:Nat} {s:Sc} {l:List Int} (q:Int) (h:Gd b s):(vK q s l).length<=b+1:=by
 have hk:=(wI l h).r;unfold vK;split
 . simp;omega
 . split
   . simp;omega
   . omega
theorem G8 {b:Nat} {s:Sc} {l:List Int} (q:Int) (h:Gd b s):(jc q s l).length=s.sums.length/\∀ x∈jc q s l,GdM x:=by
 have h0:=h.l.1;have hg:=h.ss _ (aH s.sums Sm.zero 0 h0);unfold jc;split
 . have:=bb l 2 5 dq;exact ⟨List.length_set ..,my h.ss ⟨Xx _ oq,hg.l,hg.c⟩⟩
 . split
   . have:=bb l 2 4 dq;refine ⟨List.length_set ..,my h.ss ⟨hg.n,(by show 1<=2;decide),fun c hc=>?_⟩⟩;rw [List.mem_singleton.1 hc];exact ⟨SG _ oq,Jr l 5,qS l 1 5 dq⟩
   . split
     . have hz:=h.ss _ (aH s.sums Sm.zero (0+(((s.sums.length:Nat):Int) - 1).toNat) oq);exact ⟨List.length_set ..,my h.ss ⟨hz.n,by show 0<=2;decide,fun c hc=>by cases hc⟩⟩
     . exact ⟨rfl,h.ss⟩
theorem Dz {b:Nat} {s:Sc} (l:List Int) (h:Gd b s):Gd (b+1) (tp s l):=by
 have hs:=G8 (l:=l) (ah l 0 14) h;have hc:=Ia (l:=l) (ah l 0 14) h;have ht:=wI l h;have hm:=h.m
 have hb:(0<(e7 (ah l 0 14) s l).length/\(e7 (ah l 0 14) s l).length<=b+1)/\∀ x∈e7 (ah l 0 14) s l,GdT (b+1) x:=by
  unfold e7;split
  . refine ⟨(by simp;omega),fun x hx=>?_⟩;rcases List.mem_append.1 hx with hx|hx
    . exact (h.tt x hx).up oq
    . rw [List.mem_singleton.1 hx];exact ht.up oq
  . exact ⟨by omega,fun x hx=>(h.tt x hx).up oq⟩
 refine ⟨(by show 0<(jc _ s l).length/\(jc _ s l).length<=2;rw [hs.1];exact h.l),(by show 0<((e7 _ s l).set _ _).length/\((e7 _ s l).set _ _).length<=b+1;rw [List.length_set];exact hb.1),hs.2,my hb.2 ⟨?_,hc.1,hc.2,MM _ h,JG _ h,?_⟩⟩
 . show ql _ s l∈nmA;unfold ql;split
   . exact T9 l
   . exact ht.n
 . show iV _ s l∈exA;unfold iV;split
   . exact .tail _ (.tail _ (.tail _ (.head _)))
   . exact ht.x
def du (l m:List Int) (bend:Bool):Sc:=bif bend then tp (ii l) m else ii l
theorem nT (l m:List Int) (bend:Bool):Gd 4 (du l m bend):=by
 cases bend
 . exact (o6 l).up dq
 . exact Dz m (o6 l)
end Go.Proofs.YtcpklndelobigaaGreatDoor
