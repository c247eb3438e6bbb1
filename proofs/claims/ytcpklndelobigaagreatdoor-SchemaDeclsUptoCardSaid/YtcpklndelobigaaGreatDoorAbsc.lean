/- An evaluator over abstract values, rules for written proofs, and the way to what a row KC. No condition. -/
import Derived.Test.YtcpklndelobigaaGreatDoorAbsb
import Derived.Below
import GoSem.ClaimJoined
import Derived.ProofKit
import Derived.OpenShut
import Derived.Carry
import Derived.ChangeOld
set_option linter.all false
namespace Go.Proofs.YtcpklndelobigaaGreatDoor.Abs
section
theorem ow {a b:Nat} (h:a≠b):Nat.beq a b=false:=by
 cases hb:Nat.beq a b
 . rfl
 . exact absurd (Nat.eq_of_beq_eq_true hb) h
theorem Ht {a b:Nat} (h:a=b):Nat.beq a b=true:=by subst h;exact Nat.beq_refl a
inductive Tt where
 | e
 | n (v:aa) (l r:Tt)
def Tt.get:Tt->Nat->aa
 | .e,_=>.any
 | .n v l r,k=>bif Nat.beq k 0 then v else bif Nat.beq (k % 2) 1 then l.get (k / 2) else r.get (k / 2 - 1)
def Tt.setF:Nat->Tt->Nat->aa->Tt
 | 0,t,_,_=>t
 | f+1,.e,k,x=>bif Nat.beq k 0 then .n x .e .e else bif Nat.beq (k % 2) 1 then .n .any (Tt.setF f .e (k / 2) x) .e else .n .any .e (Tt.setF f .e (k / 2 - 1) x)
 | f+1,.n v l r,k,x=>bif Nat.beq k 0 then .n x l r else bif Nat.beq (k % 2) 1 then .n v (Tt.setF f l (k / 2) x) r else .n v l (Tt.setF f r (k / 2 - 1) x)
theorem Tt.get_e (k:Nat):Tt.e.get k=.any:=by simp [Tt.get]
theorem Tt.get_set:∀ (f:Nat) (t:Tt) (k:Nat) (x:aa) (j:Nat),k+1<2 ^ f->(Tt.setF f t k x).get j=if j=k then x else t.get j
 | 0,t,k,x,j,h=>by simp at h
 | f+1,t,k,x,j,h=>by
  have h2:2 ^ (f+1)=2 * 2 ^ f:=by rw [Nat.pow_succ];omega
  by_cases k0:k=0
  . subst k0;cases t <;> by_cases j0:j=0 <;> simp [Tt.setF,Tt.get,j0,ow]
  . have kb:Nat.beq k 0=false:=ow k0;by_cases k1:k % 2=1
    . have kb1:Nat.beq (k % 2) 1=true:=Ht k1;cases t with
      | e =>
       simp only [Tt.setF,kb,kb1,cond_true,cond_false];by_cases j0:j=0
       . subst j0;simp [Tt.get,Ne.symm k0]
       . have jb:Nat.beq j 0=false:=ow j0;simp only [Tt.get,jb,cond_false];by_cases j1:j % 2=1
         . have jb1:Nat.beq (j % 2) 1=true:=Ht j1;simp only [jb1,cond_true];rw [Tt.get_set f _ _ _ _ oq];by_cases e:j=k
           . subst e;simp
           . rw [if_neg oq,if_neg e];simp [Tt.get]
         . have jb1:Nat.beq (j % 2) 1=false:=ow j1
           grind
      | n v l r =>
       simp only [Tt.setF,kb,kb1,cond_true,cond_false];by_cases j0:j=0
       . subst j0;simp [Tt.get,Ne.symm k0]
       . have jb:Nat.beq j 0=false:=ow j0;simp only [Tt.get,jb,cond_false];by_cases j1:j % 2=1
         . have jb1:Nat.beq (j % 2) 1=true:=Ht j1;simp only [jb1,cond_true];rw [Tt.get_set f _ _ _ _ oq]
           grind
         . have jb1:Nat.beq (j % 2) 1=false:=ow j1
           grind
    . have kb1:Nat.beq (k % 2) 1=false:=ow k1;cases t with
      | e =>
       simp only [Tt.setF,kb,kb1,cond_false];by_cases j0:j=0
       . subst j0;simp [Tt.get,Ne.symm k0]
       . have jb:Nat.beq j 0=false:=ow j0;simp only [Tt.get,jb,cond_false];by_cases j1:j % 2=1
         . have jb1:Nat.beq (j % 2) 1=true:=Ht j1
           grind
         . have jb1:Nat.beq (j % 2) 1=false:=ow j1;simp only [jb1,cond_false];rw [Tt.get_set f _ _ _ _ oq];by_cases e:j=k
           . subst e;simp
           . rw [if_neg oq,if_neg e];simp [Tt.get]
      | n v l r =>
       simp only [Tt.setF,kb,kb1,cond_false];by_cases j0:j=0
       . subst j0;simp [Tt.get,Ne.symm k0]
       . have jb:Nat.beq j 0=false:=ow j0;simp only [Tt.get,jb,cond_false];by_cases j1:j % 2=1
         . have jb1:Nat.beq (j % 2) 1=true:=Ht j1
           grind
         . have jb1:Nat.beq (j % 2) 1=false:=ow j1;simp only [jb1,cond_false];rw [Tt.get_set f _ _ _ _ oq]
           grind
def gg (T:Tm) (tt:Tt):Prop:=∀ t,Tm.get T t=tt.get t
def uL (tt:Tt) (d:Option Tmp) (v:aa):Tt:=match d with
 | some d=>tt.setF 12 d v
 | none=>tt
theorem gg.put {T:Tm} {tt:Tt} (hs:gg T tt) {n:Nat} (hn:n<=4095) {d:Option Tmp} (hd:iP n d=true) (v:aa):gg (ci T d v) (uL tt d v):=by
 cases d with
 | none=>exact hs
 | some d =>
  have:d<n:=by simpa [iP] using hd
  have hlt:d+1<2 ^ 12:=Nat.succ_lt_succ (Nat.lt_of_lt_of_le this hn);intro t;simp only [ci,uL,Tm.get];rw [Tt.get_set 12 tt d v t hlt];by_cases e:d=t
  . subst e;simp
  . rw [if_neg e,if_neg (fun h=>e h.symm)];exact hs t
def tev (G:Nat->Option (List aa)) (tt:Tt):Operand->aa
 | .tmp t=>tt.get t
 | .const v=>match fU v with
  | some x=>x
  | none=>.any
 | .global g=>match G g with
  | some cs=>.pimm cs 0
  | none=>.any
 | .func f=>.fn (.func f) [] []
theorem CD {G:Nat->Option (List aa)} {T:Tm} {tt:Tt} (hs:gg T tt):tev G tt=aev G T:=by
 funext x;cases x
 . exact (hs _).symm
 all_goals first|rfl|(simp only [tev,aev];split <;> simp_all)
def xc (ops:Array Oper) (tt:Tt):Option (Nat×Bool)->Option Bool
 | none=>some true
 | some (j,want)=>match (ops[j]?).bind (·.dst) with
  | some d=>match tt.get d with
   | .bool b=>some (b==want)
   | .tup _=>some false
   | _=>none
  | none=>none
theorem wq {ops:Array Oper} {T:Tm} {tt:Tt} (hs:gg T tt) (g:Option (Nat×Bool)):xc ops tt g=dr ops T g:=by
 unfold xc dr;cases g with
 | none=>rfl
 | some p =>
  obtain ⟨j,want⟩:=p;dsimp only;cases (ops[j]?).bind (·.dst) with
  | none=>rfl
  | some d=>dsimp only;rw [hs d];cases tt.get d <;> rfl
abbrev m8:=FuncId->List aa->af->Option (List Nat×aa×af)
def AM (P:Program) (G:Nat->Option (List aa)) (call:m8) (n:Nat) (ops:Array Oper):List Oper->Tt->af->Option (Tt×af)
 | [],T,h=>some (T,h)
 | o::os,T,h=>bif iP n o.dst then
  match xc ops T o.guard with
  | some true=>match aop P h (tev G T) o.op with
   | some r=>AM P G call n ops os (uL T o.dst r.1) r.2
   | none=>match aI (tev G T) o.op with
    | some c=>match call c.1 c.2 h with
     | some r=>AM P G call n ops os (uL T o.dst r.2.1) r.2.2
     | none=>none
    | none=>match anx P h (tev G T) o.op with
     | some [r]=>AM P G call n ops os (uL T o.dst r.1) r.2
     | _=>none
  | some false=>AM P G call n ops os (uL T o.dst (.tup [])) h
  | none=>none
  else none
def qs (P:Program) (G:Nat->Option (List aa)) (call:m8) (n:Nat) (ops:Array Oper):List Oper->Nat->Tt->af->List (List Nat×List Nat)->Option (List (List Nat×List Nat)×Tt×af)
 | [],_,T,h,rs=>some (rs,T,h)
 | o::os,k,T,h,rs=>bif iP n o.dst then
  match xc ops T o.guard with
  | some true=>bif fv o.op then
   (match apl P (tev G T) o.op with
   | some cs=>bif lQ h k then qs P G call n ops os (k+1) (uL T o.dst (.ptr k 0)) (h.set k (.box cs)) (rs++[([k],[k])]) else none
   | none=>none)
   else match aop P h (tev G T) o.op with
   | some r=>qs P G call n ops os k (uL T o.dst r.1) r.2 (rs++[(ard (tev G T) o.op,awr h (tev G T) o.op)])
   | none=>match aI (tev G T) o.op with
    | some c=>match call c.1 c.2 h with
     | some r=>qs P G call n ops os k (uL T o.dst r.2.1) r.2.2 (rs++[(r.1,r.1)])
     | none=>none
    | none=>none
  | some false=>qs P G call n ops os (bif fv o.op then k+1 else k) (uL T o.dst (.tup [])) h (rs++[([],[])])
  | none=>none
  else none
def yz (ops:Array Oper) (ms:List Nat) (i:Nat) (o:Oper):List (Nat×Oper)->Bool
 | []=>true
 | s::ss=>((ms.getD i 0).testBit s.1 || s.2.apart ops o) && yz ops ms i o ss
def sOk (ops:Array Oper) (ms:List Nat):Nat->List (Nat×Oper)->List Oper->Bool
 | _,_,[]=>true
 | i,pre,o::os=>yz ops ms i o pre && sOk ops ms (i+1) ((i,o)::pre) os
def yR (ops:Array Oper):Bool:=io 0 ops.toList && sOk ops (zw ops.toList []) 0 [] ops.toList
def Ba:List (List Nat×List Nat)->Bool
 | []=>true
 | r::rs=>r.2.isEmpty && Ba rs
theorem m3 {ops:Array Oper} {ms:List Nat} {t:Tr} (ht:t.wr=[]):∀ {pre:List Tr},(∀ s∈pre,s.wr=[])->yz ops ms t.i t.o (pre.map fun s=>(s.i,s.o))=true->pN ops ms t pre=true
 | [],_,_=>rfl
 | s::ss,hw,h=>by
  simp only [List.map_cons,yz,Bool.and_eq_true,Bool.or_eq_true] at h;simp only [pN,Bool.and_eq_true,Bool.or_eq_true];refine ⟨?_,m3 ht (fun x hx=>hw x (by simp [hx])) h.2⟩;rcases h.1 with g|g
  . exact .inl g
  . refine .inr ?_;have:=hw s zq;simp [lu,g,Q0,ht,this,Mp]
theorem tL {ops:Array Oper} {ms:List Nat}:∀ (os:List Oper) (i:Nat) (rs:List fH) (pre:List Tr),(∀ s∈pre,s.wr=[])->Ba rs=true ->
 sOk ops ms i (pre.map fun s=>(s.i,s.o)) os=true->lP ops ms pre (gi i os rs)=true
 | [],i,rs,pre,_,_,_=>by cases rs <;> simp [gi,lP]
 | o::os,i,[],pre,_,_,_=>by simp [gi,lP]
 | o::os,i,r::rs,pre,hw,hq,hs=>by
  simp only [sOk,Bool.and_eq_true] at hs;simp only [Ba,Bool.and_eq_true,List.isEmpty_iff] at hq;simp only [gi,lP,Bool.and_eq_true];refine ⟨m3 hq.1 hw hs.1,?_⟩;refine tL os (i+1) rs _ ?_ hq.2 ?_
  . grind
  . simpa using hs.2
def si (ops:Array Oper) (rs:List (List Nat×List Nat)):Bool:=bif Ba rs then yR ops else (io 0 ops.toList && mC ops rs)
theorem xg {ops:Array Oper} {rs:List fH} (h:si ops rs=true):io 0 ops.toList=true/\mC ops rs=true:=by
 unfold si at h;cases hq:Ba rs with
 | true =>
  rw [hq] at h;simp only [cond_true,yR,Bool.and_eq_true] at h;exact ⟨h.1,tL _ 0 rs [] zq hq (by simpa using h.2)⟩
 | false =>
  grind
def z8 (body:Tt->af->Option (Exit×Tt×af)):Nat->Tt->af->Option (Exit×Tt×af)
 | 0,_,_=>none
 | k+1,T,h=>match body T h with
  | some (.normal,T',h')=>z8 body k T' h'
  | r=>r
def er (P:Program) (G:Nat->Option (List aa)) (call:m8) (n lf:Nat):Code->Tt->af->Option (Exit×Tt×af)
 | .skip,T,h=>some (.normal,T,h)
 | .label _,T,h=>some (.normal,T,h)
 | .scope c,T,h=>match er P G call n lf c T h with
  | some (.goto _,_,_)=>none
  | r=>r
 | .ret,T,h=>some (.ret,T,h)
 | .exit id,T,h=>some (.exit id,T,h)
 | .seq a b,T,h=>match er P G call n lf a T h with
  | some (.normal,T',h')=>er P G call n lf b T' h'
  | r=>r
 | .cond c a b,T,h=>match tev G T c with
  | .bool true=>er P G call n lf a T h
  | .bool false=>er P G call n lf b T h
  | _=>none
 | .block id c,T,h=>match er P G call n lf c T h with
  | some (.exit id',T',h')=>bif Nat.beq id' id then some (.normal,T',h') else some (.exit id',T',h')
  | r=>r
 | .loop c,T,h=>z8 (er P G call n lf c) lf T h
 | .region _ ops false,T,h=>match AM P G call n ops ops.toList T h with
  | some (T',h')=>some (.normal,T',h')
  | none=>none
 | .region _ ops true,T,h=>match qs P G call n ops ops.toList h.length T (h++hP (nAl ops.toList)) [] with
  | some (rs,T',h')=>bif si ops rs then some (.normal,T',h') else none
  | none=>none
 | _,_,_=>none
section
variable {cx:Cx} {call:m8} {n m lf:Nat}
theorem iU (hcall:∀ f args h r,call f args h=some r->kr cx f args h r.1 r.2.1 r.2.2) (hn:n<=4095) {ops:Array Oper} {K:Tm->af->Prop}:∀ (os:List Oper) (tt:Tt) (h:af) (T:Tm) (r:Tt×af),gg T tt ->
 AM cx.P cx.G call n ops os tt h=some r->(∀ T',gg T' r.1->K T' r.2)->td cx n ops os T h K
 | [],tt,h,T,r,hs,hx,hk=>by simp [AM] at hx;subst hx;exact hk T hs
 | o::os,tt,h,T,r,hs,hx,hk=>by
  simp only [AM] at hx;cases hd:iP n o.dst with
  | false=>rw [hd] at hx;simp at hx
  | true =>
   rw [hd] at hx;simp only [cond_true,wq hs,CD hs] at hx;simp only [td];refine ⟨hd,?_⟩;split at hx
   . rename_i hg;rw [hg];split at hx
     . rename_i q hq;rw [hq];exact .inl (iU hcall hn os _ _ _ r (hs.put hn hd _) hx hk)
     . rename_i hq;rw [hq];split at hx
       . rename_i c hc;rw [hc];split at hx <;> try (simp at hx;done)
         rename_i q hq';refine av.mono (hcall _ _ _ _ hq').2.1 ?_;rintro v h' ⟨rfl,rfl⟩;exact iU hcall hn os _ _ _ r (hs.put hn hd _) hx hk
       . rename_i hc;rw [hc];split at hx <;> try (simp at hx;done)
         rename_i q hq';rw [hq'];intro r' hr';rw [List.mem_singleton] at hr';subst hr';exact iU hcall hn os _ _ _ r (hs.put hn hd _) hx hk
   . rename_i hg;rw [hg];exact iU hcall hn os _ _ _ r (hs.put hn hd _) hx hk
   . simp at hx
theorem gJ (hcall:∀ f args h r,call f args h=some r->kr cx f args h r.1 r.2.1 r.2.2) (hn:n<=4095) {ops:Array Oper} {K:List fH->Tm->af->Prop}:∀ (os:List Oper) (k:Nat) (tt:Tt) (h:af) (rs:List fH) (T:Tm) (r:List fH×Tt×af),gg T tt ->
 qs cx.P cx.G call n ops os k tt h rs=some r->(∀ T',gg T' r.2.1->K r.1 T' r.2.2)->lq cx n ops os k T h rs K
 | [],k,tt,h,rs,T,r,hs,hx,hk=>by simp [qs] at hx;subst hx;exact hk T hs
 | o::os,k,tt,h,rs,T,r,hs,hx,hk=>by
  simp only [qs] at hx;cases hd:iP n o.dst with
  | false=>rw [hd] at hx;simp at hx
  | true =>
   rw [hd] at hx;simp only [cond_true,wq hs,CD hs] at hx;simp only [lq];refine ⟨hd,?_⟩;split at hx
   . rename_i hg;rw [hg];cases hal:fv o.op with
     | true =>
      rw [hal] at hx;simp only [cond_true] at hx ⊢;split at hx <;> try (simp at hx;done)
      rename_i cs hcs;rw [hcs];cases hh:lQ h k with
      | false=>rw [hh] at hx;simp at hx
      | true =>
       rw [hh] at hx;exact ⟨rfl,gJ hcall hn os _ _ _ _ _ r (hs.put hn hd _) hx hk⟩
     | false =>
      rw [hal] at hx;simp only [cond_false] at hx ⊢;split at hx
      . rename_i q hq;rw [hq];exact gJ hcall hn os _ _ _ _ _ r (hs.put hn hd _) hx hk
      . rename_i hq;rw [hq];split at hx
        . rename_i c hc;rw [hc];split at hx <;> try (simp at hx;done)
          rename_i q hq';exact ⟨q.1,q.2.1,q.2.2,hcall _ _ _ _ hq',gJ hcall hn os _ _ _ _ _ r (hs.put hn hd _) hx hk⟩
        . simp at hx
   . rename_i hg;rw [hg];exact gJ hcall hn os _ _ _ _ _ r (hs.put hn hd _) hx hk
   . simp at hx
theorem gg.ext {T T':Tm} {tt:Tt} (hs:gg T tt) (he:∀ t,Tm.get T t=Tm.get T' t):gg T' tt:=fun t=>(he t).symm.trans (hs t)
theorem cB (hmix:cx.P.follows .mixedOrders=true) (hcall:∀ f args h r,call f args h=some r->kr cx f args h r.1 r.2.1 r.2.2) (hn:n<=4095):∀ (c:Code) (tt:Tt) (h:af) (T:Tm) (e:Exit) (tt':Tt) (h':af) (Q:cP),gg T tt ->
 er cx.P cx.G call n lf c tt h=some (e,tt',h')->(∀ T',gg T' tt'->Q e T' h')->wpA cx n m c Q T h
 | .skip,tt,h,T,e,tt',h',Q,hs,hx,hq=>by simp [er] at hx;obtain ⟨rfl,rfl,rfl⟩:=hx;exact Ar (hq T hs)
 | .ret,tt,h,T,e,tt',h',Q,hs,hx,hq=>by simp [er] at hx;obtain ⟨rfl,rfl,rfl⟩:=hx;exact EX (hq T hs)
 | .exit id,tt,h,T,e,tt',h',Q,hs,hx,hq=>by simp [er] at hx;obtain ⟨rfl,rfl,rfl⟩:=hx;exact yU (hq T hs)
 | .seq a b,tt,h,T,e,tt',h',Q,hs,hx,hq=>by
  simp only [er] at hx;refine Em ?_;split at hx
  . rename_i T1 h1 hr;exact cB hmix hcall hn a tt h T _ _ _ _ hs hr fun T' hT'=>cB hmix hcall hn b _ _ T' _ _ _ Q hT' hx hq
  . rename_i r hne;refine cB hmix hcall hn a tt h T _ _ _ _ hs hx ?_;intro T' hT';cases e with
    | normal=>exact (hne _ _ hx).elim
    | _=>exact hq T' hT'
 | .cond c a b,tt,h,T,e,tt',h',Q,hs,hx,hq=>by
  simp only [er,CD hs] at hx;split at hx
  . rename_i hc;exact GO hc (cB hmix hcall hn a tt h T _ _ _ Q hs hx hq)
  . rename_i hc;exact EZ hc (cB hmix hcall hn b tt h T _ _ _ Q hs hx hq)
  . simp at hx
 | .block id c,tt,h,T,e,tt',h',Q,hs,hx,hq=>by
  simp only [er] at hx;refine wn ?_;split at hx
  . rename_i id' T1 h1 hr;refine cB hmix hcall hn c tt h T _ _ _ _ hs hr ?_;intro T' hT';by_cases hid:id'=id
    . subst hid;simp at hx;obtain ⟨rfl,rfl,rfl⟩:=hx;exact ao (hq T' hT')
    . have hb:Nat.beq id' id=false:=ow hid;rw [hb] at hx;simp at hx;obtain ⟨rfl,rfl,rfl⟩:=hx;exact eS hid (hq T' hT')
  . rename_i r hne;refine cB hmix hcall hn c tt h T _ _ _ _ hs hx ?_;intro T' hT';cases e with
    | exit id'=>exact (hne _ _ _ hx).elim
    | _=>exact hq T' hT'
 | .loop c,tt,h,T,e,tt',h',Q,hs,hx,hq=>by
  simp only [er] at hx;refine uf (fun k T1 h1=>∃ tt1,gg T1 tt1/\z8 (er cx.P cx.G call n lf c) k tt1 h1=some (e,tt',h')) lf ⟨tt,hs,hx⟩ ?_;rintro k T1 h1 ⟨tt1,hs1,hx1⟩;cases k with
  | zero=>simp [z8] at hx1
  | succ k =>
   simp only [z8] at hx1;split at hx1
   . rename_i T2 h2 hr;exact cB hmix hcall hn c tt1 h1 T1 _ _ _ _ hs1 hr fun T' hT'=>⟨k,Nat.lt_succ_self k,T2,hT',hx1⟩
   . rename_i r hne;refine cB hmix hcall hn c tt1 h1 T1 _ _ _ _ hs1 hx1 ?_;intro T' hT';cases e with
     | normal=>exact (hne _ _ hx1).elim
     | _=>exact hq T' hT'
 | .region id ops false,tt,h,T,e,tt',h',Q,hs,hx,hq=>by
  simp only [er] at hx;split at hx <;> simp at hx;rename_i T1 h1 hr;obtain ⟨rfl,rfl,rfl⟩:=hx;exact te (iU hcall hn _ tt h T _ hs hr hq)
 | .region id ops true,tt,h,T,e,tt',h',Q,hs,hx,hq=>by
  simp only [er] at hx;split at hx <;> try (simp at hx;done)
  rename_i rs T1 h1 hr;cases hok:si ops rs with
  | false=>rw [hok] at hx;simp at hx
  | true =>
   rw [hok] at hx;simp at hx;obtain ⟨rfl,rfl,rfl⟩:=hx;obtain ⟨g1,g2⟩:=xg hok;refine lU (y9 hmix g1 (Q:=fun e T' h''=>e=.normal/\gg T' T1/\h''=h1) ?_ ?_) ?_
   . rintro T2 T3 h3 ht ⟨_,a,b⟩;exact ⟨rfl,a.ext ht,b⟩
   . exact gJ hcall hn _ _ tt _ [] T _ hs hr fun T' hT'=>⟨g2,rfl,hT',rfl⟩
   . grind
 | .rangeFunc _ _ _ _,tt,h,T,e,tt',h',Q,hs,hx,hq=>by simp [er] at hx
 | .scope c,tt,h,T,e,tt',h',Q,hs,hx,hq=>by
  simp only [er] at hx;split at hx
  . simp at hx
  . rename_i r hne;refine vr (cB hmix hcall hn c tt h T _ _ _ _ hs hx ?_);intro T' hT';cases e with
    | goto l=>exact (hne _ _ _ hx).elim
    | _=>exact hq T' hT'
 | .label _,tt,h,T,e,tt',h',Q,hs,hx,hq=>by simp [er] at hx;obtain ⟨rfl,rfl,rfl⟩:=hx;exact vW (hq T hs)
 | .goto _,tt,h,T,e,tt',h',Q,hs,hx,hq=>by simp [er] at hx
 | .refuse _,tt,h,T,e,tt',h',Q,hs,hx,hq=>by simp [er] at hx
end
end
section
def idx:List Nat->Nat->Nat
 | [],_=>0
 | x::L,o=>bif Nat.beq x o then 0 else idx L o+1
def l9:List Nat->Nat->Bool
 | [],_=>false
 | x::L,o=>bif Nat.beq x o then true else l9 L o
def ur:List Nat->Bool
 | []=>true
 | x::L=>bif l9 L x then false else ur L
theorem j9:∀ (L:List Nat) (o:Nat),l9 L o=true↔o∈L
 | [],o=>by simp [l9]
 | x::L,o=>by
  simp only [l9];by_cases e:x=o
  . subst e;simp
  . have:Nat.beq x o=false:=ow e;rw [this,cond_false,j9 L o,List.mem_cons]
    grind
theorem qU:∀ (L:List Nat),ur L=true->L.Nodup
 | [],_=>.nil
 | x::L,h=>by
  simp only [ur] at h;cases hm:l9 L x with
  | true=>rw [hm] at h;simp at h
  | false =>
   rw [hm] at h;refine List.nodup_cons.2 ⟨fun hx=>?_,qU L (by simpa using h)⟩;rw [(j9 L x).2 hx] at hm;simp at hm
theorem yc:∀ (L:List Nat) (o:Nat),o∈L->L[idx L o]?=some o
 | [],o,h=>by simp at h
 | x::L,o,h=>by
  simp only [idx];by_cases e:x=o
  . subst e;simp
  . have hb:Nat.beq x o=false:=ow e;rw [hb,cond_false,List.getElem?_cons_succ];exact yc L o (by simpa [Ne.symm e] using h)
theorem pH {L:List Nat} {o:Nat} (h:l9 L o=true):idx L o<L.length:=by
 have:=yc L o ((j9 L o).1 h)
 grind
theorem iF {L:List Nat} {o:Nat} (m:Nat) (h:l9 L o=true):cb L m (idx L o)=o:=dx m (yc L o ((j9 L o).1 h))
mutual
def aa.win (L:List Nat):aa->Bool
 | .agg cs=>mR L cs
 | .tup cs=>mR L cs
 | .ptr o _=>l9 L o
 | .pimm cs _=>mR L cs
 | .pown o _ _ _=>l9 L o
 | .imm l=>mR L l
 | .full l=>mR L l
 | .own o _ _=>l9 L o
 | .map o=>l9 L o
 | .fn _ xs ys=>mR L xs && mR L ys
 | .itr o=>l9 L o
 | .iface _ v=>v.win L
 | .any=>true
 | .bool _=>true
 | .int _ _=>true
 | .str _=>true
 | .nilp=>true
 | .nilm=>true
 | .nilfn=>true
 | .nili=>true
def mR (L:List Nat):List aa->Bool
 | []=>true
 | x::xs=>x.win L && mR L xs
end
def FN (L:List Nat):List (aa×aa)->Bool
 | []=>true
 | e::es=>e.1.win L && e.2.win L && FN L es
def am.winO (L:List Nat):am->Bool
 | .hole=>true
 | .box cs=>mR L cs
 | .arr _ es _=>mR L es
 | .map es=>FN L es
 | .iter m _=>l9 L m
mutual
theorem sj (L:List Nat) (m:Nat):∀ x:aa,x.win L=true->(x.ren (idx L)).ren (cb L m)=x
 | .agg cs,h=>by simp only [aa.ren,eb L m cs h]
 | .tup cs,h=>by simp only [aa.ren,eb L m cs h]
 | .ptr o _,h=>by simp only [aa.ren,iF m h]
 | .pimm cs _,h=>by simp only [aa.ren,eb L m cs h]
 | .pown o _ _ _,h=>by simp only [aa.ren,iF m h]
 | .imm l,h=>by simp only [aa.ren,eb L m l h]
 | .full l,h=>by simp only [aa.ren,eb L m l h]
 | .own o _ _,h=>by simp only [aa.ren,iF m h]
 | .map o,h=>by simp only [aa.ren,iF m h]
 | .fn _ xs ys,h=>by
  simp only [aa.win,Bool.and_eq_true] at h;simp only [aa.ren,eb L m xs h.1,eb L m ys h.2]
 | .itr o,h=>by simp only [aa.ren,iF m h]
 | .iface _ v,h=>by simp only [aa.ren,sj L m v h]
 | .any,_=>rfl
 | .bool _,_=>rfl
 | .int _ _,_=>rfl
 | .str _,_=>rfl
 | .nilp,_=>rfl
 | .nilm,_=>rfl
 | .nilfn,_=>rfl
 | .nili,_=>rfl
theorem eb (L:List Nat) (m:Nat):∀ xs:List aa,mR L xs=true->bX (cb L m) (bX (idx L) xs)=xs
 | [],_=>rfl
 | x::xs,h=>by
  simp only [mR,Bool.and_eq_true] at h;simp only [bX,sj L m x h.1,eb L m xs h.2]
end
mutual
theorem r6 (L:List Nat):∀ x:aa,x.win L=true->(x.ren (idx L)).bel L.length=true
 | .agg cs,h=>by simp only [aa.ren,aa.bel];exact d9 L cs h
 | .tup cs,h=>by simp only [aa.ren,aa.bel];exact d9 L cs h
 | .ptr o _,h=>by simp only [aa.ren,aa.bel];simpa using pH h
 | .pimm cs _,h=>by simp only [aa.ren,aa.bel];exact d9 L cs h
 | .pown o _ _ _,h=>by simp only [aa.ren,aa.bel];simpa using pH h
 | .imm l,h=>by simp only [aa.ren,aa.bel];exact d9 L l h
 | .full l,h=>by simp only [aa.ren,aa.bel];exact d9 L l h
 | .own o _ _,h=>by simp only [aa.ren,aa.bel];simpa using pH h
 | .map o,h=>by simp only [aa.ren,aa.bel];simpa using pH h
 | .fn _ xs ys,h=>by
  simp only [aa.win,Bool.and_eq_true] at h;simp only [aa.ren,aa.bel,d9 L xs h.1,d9 L ys h.2,Bool.and_self]
 | .itr o,h=>by simp only [aa.ren,aa.bel];simpa using pH h
 | .iface _ v,h=>by simp only [aa.ren,aa.bel];exact r6 L v h
 | .any,_=>rfl
 | .bool _,_=>rfl
 | .int _ _,_=>rfl
 | .str _,_=>rfl
 | .nilp,_=>rfl
 | .nilm,_=>rfl
 | .nilfn,_=>rfl
 | .nili,_=>rfl
theorem d9 (L:List Nat):∀ xs:List aa,mR L xs=true->aC L.length (bX (idx L) xs)=true
 | [],_=>rfl
 | x::xs,h=>by
  simp only [mR,Bool.and_eq_true] at h;simp only [bX,aC,r6 L x h.1,d9 L xs h.2,Bool.and_self]
end
theorem yQ (L:List Nat) (m:Nat):∀ es,FN L es=true->nY (cb L m) (nY (idx L) es)=es
 | [],_=>rfl
 | e::es,h=>by
  simp only [FN,Bool.and_eq_true] at h;simp only [nY,sj L m _ h.1.1,sj L m _ h.1.2,yQ L m es h.2]
theorem zG (L:List Nat):∀ es,FN L es=true->((nY (idx L) es).all fun e=>e.1.bel L.length && e.2.bel L.length)=true
 | [],_=>rfl
 | e::es,h=>by
  simp only [FN,Bool.and_eq_true] at h;have:=zG L es h.2;simp only [nY,List.all_cons,r6 L _ h.1.1,r6 L _ h.1.2,Bool.and_self,Bool.true_and];exact this
theorem KN (L:List Nat) (m:Nat) (x:am) (h:x.winO L=true):(x.ren (idx L)).ren (cb L m)=x:=by
 cases x <;> simp only [am.ren,am.winO] at h ⊢
 . rw [eb L m _ h]
 . rw [eb L m _ h]
 . rw [yQ L m _ h]
 . rw [iF m h]
theorem I8 (L:List Nat) (x:am) (h:x.winO L=true):(x.ren (idx L)).belO L.length=true:=by
 cases x <;> simp only [am.ren,am.winO,am.belO] at h ⊢
 . exact d9 L _ h
 . exact d9 L _ h
 . exact zG L _ h
 . simpa using pH h
mutual
def aa.objs:aa->List Nat
 | .agg cs=>ln cs
 | .tup cs=>ln cs
 | .ptr o _=>[o]
 | .pimm cs _=>ln cs
 | .pown o _ _ _=>[o]
 | .imm l=>ln l
 | .full l=>ln l
 | .own o _ _=>[o]
 | .map o=>[o]
 | .fn _ xs ys=>ln xs++ln ys
 | .itr o=>[o]
 | .iface _ v=>v.objs
 | .any=>[]
 | .bool _=>[]
 | .int _ _=>[]
 | .str _=>[]
 | .nilp=>[]
 | .nilm=>[]
 | .nilfn=>[]
 | .nili=>[]
def ln:List aa->List Nat
 | []=>[]
 | x::xs=>x.objs++ln xs
end
def Pf:List (aa×aa)->List Nat
 | []=>[]
 | e::es=>e.1.objs++(e.2.objs++Pf es)
def am.objsO:am->List Nat
 | .hole=>[]
 | .box cs=>ln cs
 | .arr _ es _=>ln es
 | .map es=>Pf es
 | .iter m _=>[m]
def t7 (h:af):Nat->List Nat->List Nat->List Nat
 | 0,_,acc=>acc
 | _+1,[],acc=>acc
 | n+1,o::todo,acc=>bif l9 acc o then t7 h n todo acc else
  match h[o]? with
  | some x=>t7 h n (x.objsO++todo) (acc++[o])
  | none=>t7 h n todo (acc++[o])
def ua (h:af) (L:List Nat):List Nat->Option af
 | []=>some []
 | o::os=>match h[o]? with
  | some x=>bif x.winO L then
   match ua h L os with
   | some xs=>some (x.ren (idx L)::xs)
   | none=>none
   else none
  | none=>none
def tI (L:List Nat):Nat->af->Bool
 | _,[]=>true
 | o,x::h=>(match x with
  | .iter m _=>l9 L o || !(l9 L m)
  | _=>true) && tI L (o+1) h
theorem qL {h:af} {L:List Nat}:∀ {os:List Nat} {hs:af},ua h L os=some hs->hs.length=os.length /\
 (∀ (i:Nat) o x,os[i]?=some o->hs[i]?=some x->h[o]?=some (x.ren (cb L h.length)))/\hs.all (am.belO L.length)=true
 | [],hs,hx=>by simp [ua] at hx;subst hx;simp
 | o::os,hs,hx=>by
  simp only [ua] at hx;split at hx <;> try (simp at hx;done)
  rename_i x ho;cases hw:x.winO L with
  | false=>rw [hw] at hx;simp at hx
  | true =>
   rw [hw] at hx;simp only [cond_true] at hx;split at hx <;> simp at hx;rename_i xs hxs;subst hx;obtain ⟨g1,g2,g3⟩:=qL hxs;refine ⟨by simp [g1],?_,?_⟩
   . intro i p y hp hy;cases i with
     | zero =>
      simp at hp hy;subst hp hy;rw [KN L _ x hw];exact ho
     | succ i=>simp at hp hy;exact g2 i p y hp hy
   . simp only [List.all_cons,I8 L x hw,Bool.true_and];exact g3
theorem re {L:List Nat}:∀ {h:af} {k:Nat},tI L k h=true->∀ (o m:Nat) left,h[o]?=some (.iter m left)->(k+o)∉L->m∉L
 | [],k,_,o,m,left,ho=>by simp at ho
 | x::h,k,hk,o,m,left,ho=>by
  simp only [tI,Bool.and_eq_true] at hk;cases o with
  | zero =>
   simp at ho;subst ho;intro hn hm;have h1:=hk.1;simp only [Bool.or_eq_true,Bool.not_eq_true'] at h1;rcases h1 with h1|h1
   . exact hn (by simpa using (j9 L k).1 h1)
   . rw [(j9 L m).2 hm] at h1;simp at h1
  | succ o =>
   simp at ho;have:=re hk.2 o m left ho
   grind
section
variable {cx:Cx}
theorem nv {f:FuncId} {args:List aa} {h:af} {K:aa->af->Prop} (hc:av cx f (aN h args) (db h (aF args)) K):av cx f args h K:=by
 refine ⟨hc.1,fun ρ w cargs wf hg hv=>?_⟩;obtain ⟨ρ1,q1,q2,q3,q4⟩:=fe (aF args) wf (Fr.refl ρ h w)
 have hv1:VRs ρ1 (db h (aF args)) w (aN h args) cargs:=by
  refine ⟨by rw [hv.1,cm];simp,fun i x u hx hu=>?_⟩;rw [cm] at hx;simp at hx;obtain ⟨y,hy,rfl⟩:=hx;exact (hv.2 i y u hy hu).frz q2 q4 (fun o ho=>dO hy o ho)
 refine (hc.2 ρ1 w cargs q1 (fun g cs hg'=>(hg g cs hg').nil_mono q2) hv1).mono ?_;rintro e w' ⟨ρ2,cv,v',h',rfl,hk,r1,r2,r3,r4⟩;exact ⟨ρ2,cv,v',h',rfl,hk,r1,r2,q2.trans r3,q3.comp r4⟩
mutual
theorem mE (g h:af):∀ x:aa,x.owns=[]->x.frz g=x.frz h
 | .agg cs,e=>by simp only [aa.frz,cV g h cs e]
 | .tup cs,e=>by simp only [aa.frz,cV g h cs e]
 | .ptr _ _,_=>rfl
 | .pimm _ _,_=>rfl
 | .pown _ _ _ _,_=>rfl
 | .imm l,e=>by simp only [aa.frz,cV g h l e]
 | .full l,e=>by simp only [aa.frz,cV g h l e]
 | .own o _ _,e=>by simp [aa.owns] at e
 | .map _,_=>rfl
 | .fn _ xs ys,e=>by
  simp only [aa.owns,List.append_eq_nil_iff] at e;simp only [aa.frz,cV g h xs e.1,cV g h ys e.2]
 | .itr _,_=>rfl
 | .iface _ v,e=>by simp only [aa.frz,mE g h v e]
 | .any,_=>rfl
 | .bool _,_=>rfl
 | .int _ _,_=>rfl
 | .str _,_=>rfl
 | .nilp,_=>rfl
 | .nilm,_=>rfl
 | .nilfn,_=>rfl
 | .nili,_=>rfl
theorem cV (g h:af):∀ xs:List aa,aF xs=[]->aN g xs=aN h xs
 | [],_=>rfl
 | x::xs,e=>by
  simp only [aF,List.append_eq_nil_iff] at e;simp only [aN,mE g h x e.1,cV g h xs e.2]
end
mutual
theorem o3 (r:Nat->Nat):∀ x:aa,x.bel 0=true->x.ren r=x
 | .agg cs,h=>by simp only [aa.ren,dA r cs h]
 | .tup cs,h=>by simp only [aa.ren,dA r cs h]
 | .ptr o _,h=>by simp [aa.bel] at h
 | .pimm cs _,h=>by simp only [aa.ren,dA r cs h]
 | .pown o _ _ _,h=>by simp [aa.bel] at h
 | .imm l,h=>by simp only [aa.ren,dA r l h]
 | .full l,h=>by simp only [aa.ren,dA r l h]
 | .own o _ _,h=>by simp [aa.bel] at h
 | .map o,h=>by simp [aa.bel] at h
 | .fn _ xs ys,h=>by
  simp only [aa.bel,Bool.and_eq_true] at h;simp only [aa.ren,dA r xs h.1,dA r ys h.2]
 | .itr o,h=>by simp [aa.bel] at h
 | .iface _ v,h=>by simp only [aa.ren,o3 r v h]
 | .any,_=>rfl
 | .bool _,_=>rfl
 | .int _ _,_=>rfl
 | .str _,_=>rfl
 | .nilp,_=>rfl
 | .nilm,_=>rfl
 | .nilfn,_=>rfl
 | .nili,_=>rfl
theorem dA (r:Nat->Nat):∀ xs:List aa,aC 0 xs=true->bX r xs=xs
 | [],_=>rfl
 | x::xs,h=>by
  simp only [aC,Bool.and_eq_true] at h;simp only [bX,o3 r x h.1,dA r xs h.2]
end
theorem eE:∀ (os:List Nat) (h:af),(db h os).length=h.length
 | [],h=>rfl
 | o::os,h=>by
  simp only [db];split
  . rw [eE os];simp
  . exact eE os h
theorem kO:∀ (os:List Nat) (h:af) (o:Nat),o∉os->(db h os)[o]?=h[o]?
 | [],h,o,_=>rfl
 | p::os,h,o,ho=>by
  simp only [List.mem_cons,not_or] at ho;simp only [db];split
  . rw [kO os _ o ho.2,List.getElem?_set_ne (fun e=>ho.1 e.symm)]
  . exact kO os h o ho.2
abbrev yP:=FuncId->List aa->af->Option (aa×af)
def EM (run:yP) (f:FuncId) (owns:List Nat) (args:List aa) (h:af):Option (List Nat×aa×af) :=
 let L:=t7 h 100000 (ln args) []
 bif ur L && mR L args && tI L 0 h then
  match ua h L L with
  | some hs=>match run f (bX (idx L) args) hs with
   | some (v,hs')=>bif (owns++L++List.range' h.length (hs'.length - L.length)).isEmpty && !(v.bel 0 && hs'.isEmpty) then none else
    some (owns++L++List.range' h.length (hs'.length - L.length),v.ren (cb L h.length),eY h L hs')
   | none=>none
  | none=>none
 else none
def Ac (mr:m8) (run:yP) (raw:FuncId->Bool) (f:FuncId) (args:List aa) (h:af):Option (List Nat×aa×af) :=
 match mr f args h with
 | some r=>some r
 | none=>bif raw f then EM run f [] args h else EM run f (aF args) (aN h args) (db h (aF args))
def Ae (cx:Cx) (run:yP):Prop:=∀ f args h r,run f args h=some r->av cx f args h fun v h'=>v=r.1/\h'=r.2
theorem qb {run:yP} (hrun:Ae cx run) {f:FuncId} {owns:List Nat} {args:List aa} {h:af} {r:List Nat×aa×af} (hx:EM run f owns args h=some r) :
 (∀ o,o∉r.1->r.2.2[o]?=h[o]?)/\(∀ o∈owns,o∈r.1)/\(av cx f args h fun v' g'=>v'=r.2.1/\g'=r.2.2)/\(r.1=[]->ae cx f args r.2.1/\aC 0 args=true/\r.2.1.bel 0=true):=by
 unfold EM at hx;dsimp only at hx;generalize hL:t7 h 100000 (ln args) []=L at hx;cases hc:ur L && mR L args && tI L 0 h with
 | false=>rw [hc] at hx;simp at hx
 | true =>
  rw [hc] at hx;simp only [cond_true] at hx;simp only [Bool.and_eq_true] at hc;obtain ⟨⟨c1,c2⟩,c3⟩:=hc;split at hx <;> try (simp at hx;done)
  rename_i hs hhs;split at hx <;> try (simp at hx;done)
  rename_i v hs' hr;obtain ⟨g1,g2,g3⟩:=qL hhs;have le:uV h L hs:=⟨g1,qU L c1,g2,by rw [g1];exact g3,fun o m left ho hn=>re c3 o m left ho (by simpa using hn)⟩;have hA:=hrun _ _ _ _ hr;cases hz:(owns++L++List.range' h.length (hs'.length - L.length)).isEmpty && !(v.bel 0 && hs'.isEmpty) with
  | true=>rw [hz] at hx;simp at hx
  | false =>
   rw [hz] at hx;simp only [cond_false,Option.some.injEq] at hx;subst hx
   have hcall:av cx f args h fun v' g'=>v'=v.ren (cb L h.length)/\g'=eY h L hs':=by
    have:=gE (K:=fun v' g'=>v'=v.ren (cb L h.length)/\g'=eY h L hs') le hA (by rw [g1];exact d9 L args c2) (by
     rintro v' hs1 _ ⟨rfl,rfl⟩;exact ⟨rfl,rfl⟩)
    rwa [eb L h.length args c2] at this
   refine ⟨?_,fun o ho=>by simp [ho],hcall,?_⟩
   . intro o ho;simp only [List.mem_append,not_or,List.mem_range'_1] at ho;by_cases hlt:o<h.length
     . exact jF ho.1.2 hlt
     . have hge:h.length+(hs'.length - L.length)<=o:=by omega
       rw [List.getElem?_eq_none (l:=h) oq,List.getElem?_eq_none];unfold eY;rw [List.length_append,c9,jl];simp;omega
   . intro he;dsimp only at he
     have hL0:L=[]:=by
      simp only [List.append_eq_nil_iff] at he;exact he.1.2
     rw [show (owns++L++List.range' h.length (hs'.length - L.length)).isEmpty=true from by rw [he];rfl] at hz;simp only [Bool.true_and,Bool.not_eq_false',Bool.and_eq_true,List.isEmpty_iff] at hz;subst hL0;have hb:aC 0 (bX (idx []) args)=true:=d9 [] args c2
     have hba:bX (idx []) args=args:=by
      have e1:=eb [] 0 args c2;rw [dA _ _ hb] at e1;exact e1
     rw [hba] at hb hr hA;obtain ⟨hv,hs0⟩:=hz;subst hs0;have hsnil:hs=[]:=by simpa using g1
     subst hsnil;refine ⟨?_,hb,by dsimp only;rw [o3 _ _ hv];exact hv⟩;dsimp only;rw [o3 _ _ hv];exact hA
theorem lV {mr:m8} {run:yP} {raw:FuncId->Bool} (hhook:∀ f args h r,mr f args h=some r->kr cx f args h r.1 r.2.1 r.2.2) (hrun:Ae cx run) :
 ∀ f args h r,Ac mr run raw f args h=some r->kr cx f args h r.1 r.2.1 r.2.2:=by
 intro f args h r hx;unfold Ac at hx;split at hx
 . grind
 . cases hraw:raw f with
   | true =>
    rw [hraw] at hx;obtain ⟨h1,h2,h3,h4⟩:=qb hrun hx;refine ⟨h1,h3,fun e=>?_⟩;obtain ⟨h5,h6,h7⟩:=h4 e;intro g
    have key:=gE (cx:=cx) (h:=g) (L:=[]) (hs:=[]) (args:=args) (Q:=fun v' g'=>v'=r.2.1/\g'=[]) (K:=fun v' g'=>v'=r.2.1/\g'=g) ⟨rfl,.nil,by simp,rfl,by simp⟩ h5 h6 (by
     rintro v' hs' _ ⟨rfl,rfl⟩;refine ⟨?_,by simp [eY,dG,gL]⟩;exact o3 _ _ h7)
    rwa [dA _ _ h6] at key
   | false =>
    rw [hraw] at hx;obtain ⟨h1,h2,h3,h4⟩:=qb hrun hx;refine ⟨fun o ho=>?_,nv h3,fun e=>?_⟩
    . rw [h1 o ho,kO _ _ _ (fun hin=>ho (h2 o hin))]
    . obtain ⟨h5,h6,h7⟩:=h4 e
      have ho:aF args=[]:=by
       rcases hoo:aF args with _|⟨o,os⟩
       . rfl
       . have:=h2 o (by rw [hoo];simp);rw [e] at this;simp at this
      intro g;refine jy (by rw [cV g h args ho];exact h5) (by rw [cV g h args ho];exact h6) ?_;rw [ho];exact ⟨rfl,rfl⟩
end
end
section
def Fo (P:Program) (T:Tt) (h:af):List ResultVar->Option (List aa)
 | []=>some []
 | .tmp t::rs=>match Fo P T h rs with
  | some l=>some (T.get t::l)
  | none=>none
 | .cell a t::rs=>match nV h (T.get a) with
  | some r=>match lh P t r.1 r.2 with
   | some x=>match Fo P T h rs with
    | some l=>some (x::l)
    | none=>none
   | none=>none
  | none=>none
theorem rZ {P:Program} {T:Tm} {tt:Tt} (hs:gg T tt) (h:af):∀ rs,Fo P tt h rs=gu P T h rs
 | []=>rfl
 | .tmp t::rs=>by
  simp only [Fo,gu,rZ hs h rs];cases gu P T h rs with
  | none=>rfl
  | some l=>dsimp only;rw [hs t]
 | .cell a t::rs=>by
  simp only [Fo,gu,rZ hs h rs,hs a]
  grind
def GD:Nat->List aa->Tt->Tt
 | _,[],T=>T
 | k,x::xs,T=>GD (k+1) xs (T.setF 12 k x)
theorem zJ:∀ (xs:List aa) (k:Nat) (T:Tt) (t:Nat),k+xs.length<=4095->(GD k xs T).get t=if k<=t/\t<k+xs.length then (xs[t - k]?).getD .any else T.get t
 | [],k,T,t,_=>by simp [GD];intro h1 h2;omega
 | x::xs,k,T,t,h=>by
  simp only [List.length_cons] at h ⊢;rw [GD,zJ xs (k+1) _ t oq,Tt.get_set 12 T k x t (by show k+1<4096;omega)]
  grind
theorem vJ (xs:List aa) (h:xs.length<=4095):gg (lm 0 xs) (GD 0 xs .e):=by
 intro t;rw [mL,zJ xs 0 .e t oq,Tt.get_e]
 grind
def jOk (v:aa) (h:af) (j:Nat):Bool:=v.bel j && (h.take j).all (am.belO j)
def pq (v:aa) (h:af):Nat->Nat->Option Nat
 | 0,j=>bif jOk v h j then some j else none
 | c+1,j=>bif jOk v h j then some j else pq v h c (j+1)
theorem mo {v:aa} {h:af}:∀ {c j k:Nat},pq v h c j=some k->j<=k/\jOk v h k=true
 | 0,j,k,hx=>by
  simp only [pq] at hx
  grind
 | c+1,j,k,hx=>by
  simp only [pq] at hx;cases hj:jOk v h j with
  | false =>
   rw [hj] at hx;simp at hx;obtain ⟨h1,h2⟩:=mo hx;exact ⟨by omega,h2⟩
  | true=>rw [hj] at hx;simp at hx;subst hx;exact ⟨Nat.le_refl _,hj⟩
def Exit.fine:Exit->Bool
 | .normal=>true
 | .ret=>true
 | _=>false
def St (raw:Bool) (m:Nat) (v:aa) (h:af):Option (aa×af) :=
 bif raw then (match pq v h (h.length - m) m with
  | some j=>some (v,h.take j)
  | none=>none)
 else match pq (v.frz h) (db h v.owns) (h.length - m) m with
  | some j=>some (v.frz h,(db h v.owns).take j)
  | none=>none
structure XP where
 lf:Nat
 rawArg:FuncId->Bool
 rawRes:FuncId->FuncId->Bool
def Bh (P:Program) (G:Nat->Option (List aa)) (mr:m8) (p:XP):Nat->Bool->yP
 | 0,_,_,_,_=>none
 | n+1,raw,f,args,h=>match P.funcs[f]? with
  | some fn=>match fn.body with
   | some c=>bif Nat.ble args.length fn.ntmps && Nat.ble fn.ntmps 4095 then
    match er P G (Ac mr (fun g=>Bh P G mr p n (p.rawRes f g) g) p.rawArg) fn.ntmps p.lf c (GD 0 args .e) h with
    | some (e,T,h')=>bif Exit.fine e then
     match Fo P T h' fn.results.toList with
     | some l=>St raw h.length (aZ l) h'
     | none=>none
     else none
    | none=>none
    else none
   | none=>none
  | none=>none
section
variable {cx:Cx}
theorem bg (hmix : cx.P.follows .mixedOrders = true) (hname : ∀ (f : FuncId) (fn : Func), cx.P.funcs[f]? = some fn → (fn.name == "runtime.NumGoroutine") = false) {mr : m8} (hhook : ∀ f args h r, mr f args h = some r → kr cx f args h r.1 r.2.1 r.2.2) {p : XP} : ∀ n raw, Ae cx (Bh cx.P cx.G mr p n raw)
 | 0,_=>fun f args h r hx=>by simp [Bh] at hx
 | n+1,raw=>fun f args h r hx=>by
  simp only [Bh] at hx;split at hx <;> try (simp at hx;done)
  rename_i fn hf;split at hx <;> try (simp at hx;done)
  rename_i c hb;cases hc:Nat.ble args.length fn.ntmps && Nat.ble fn.ntmps 4095 with
  | false=>rw [hc] at hx;simp at hx
  | true =>
   rw [hc] at hx;simp only [Bool.and_eq_true,Nat.ble_eq] at hc;simp only [cond_true] at hx;split at hx <;> try (simp at hx;done)
   rename_i e T h' hr;cases he:Exit.fine e with
   | false=>rw [he] at hx;simp at hx
   | true =>
    rw [he] at hx;simp only [cond_true] at hx;split at hx <;> try (simp at hx;done)
    rename_i l hl;have hcall:=lV (raw:=p.rawArg) (run:=fun g=>Bh cx.P cx.G mr p n (p.rawRes f g) g) hhook (fun g args h r hx=>bg hmix hname hhook (p:=p) n _ g args h r hx);have hfine:e=.normal\/e=.ret:=by cases e <;> simp [Exit.fine] at he <;> simp
    unfold St at hx;cases raw with
    | true =>
     simp only [cond_true] at hx;split at hx <;> simp at hx;rename_i j hj;subst hx;obtain ⟨j1,j2⟩:=mo hj;simp only [jOk,Bool.and_eq_true] at j2;refine iW hf hb (hname f fn hf) hc.1 ?_;refine cB hmix hcall hc.2 c _ h _ _ _ _ _ (vJ args (Nat.le_trans hc.1 hc.2)) hr ?_;intro T' hT';exact ⟨hfine,l,by rw [<- rZ hT'];exact hl,j,j1,j2.1,j2.2,rfl,rfl⟩
    | false =>
     simp only [cond_false] at hx;split at hx <;> simp at hx;rename_i j hj;subst hx;obtain ⟨j1,j2⟩:=mo hj;simp only [jOk,Bool.and_eq_true] at j2;refine lR hf hb (hname f fn hf) hc.1 ?_;refine cB hmix hcall hc.2 c _ h _ _ _ _ _ (vJ args (Nat.le_trans hc.1 hc.2)) hr ?_;intro T' hT';exact ⟨hfine,l,by rw [<- rZ hT'];exact hl,j,j1,j2.1,j2.2,rfl,rfl⟩
end
end
section
def TH (i:Nat):Code->Code
 | .seq a b=>bif Nat.beq i 0 then a else b
 | .cond _ a b=>bif Nat.beq i 0 then a else b
 | .block _ c=>c
 | .loop c=>c
 | .scope c=>c
 | c=>c
def at_ (c:Code):List Nat->Code
 | []=>c
 | i::p=>TH i (at_ c p)
def ca:Code->Nat
 | .seq _ _=>1
 | .cond _ _ _=>2
 | .block _ _=>3
 | .loop _=>4
 | .skip=>7
 | .ret=>8
 | .exit _=>9
 | .scope _=>10
 | .label _=>11
 | _=>0
def sH:Code->Operand
 | .cond o _ _=>o
 | _=>.const (.bool false)
def KV:Code->Nat
 | .block id _=>id
 | .exit id=>id
 | _=>0
def qJ:Code->Array Oper
 | .region _ ops _=>ops
 | _=>#[]
def bOf (n:Nat) (c:Code):List BOp:=match uX n (qJ c) (qJ c).toList with
 | some l=>l
 | none=>[]
def uv (n:Nat):Code->Bool
 | .region _ ops false=>(uX n ops ops.toList).isSome
 | _=>false
def Kn (n:Nat):Code->Bool
 | .region _ ops true=>(uX n ops ops.toList).isSome && io 0 ops.toList
 | _=>false
def u6 (Q:cP):Prop:=∀ T T' h,(∀ t,Tm.get T t=Tm.get T' t)->Q .normal T h->Q .normal T' h
def B9 (K:Tm->af->Prop):Prop:=∀ T T' h,(∀ t,Tm.get T t=Tm.get T' t)->K T h->K T' h
section
variable {cx:Cx} {n m:Nat} {Q:cP} {T:Tm} {h:af} {c:Code} {p:List Nat}
theorem fS (hk:ca (at_ c p)=1) (hw:wpA cx n m (at_ c (0::p)) (cM (wpA cx n m (at_ c (1::p)) Q) Q) T h):wpA cx n m (at_ c p) Q T h:=by
 simp only [at_] at hw;generalize at_ c p=d at hk hw;cases d <;> simp [ca] at hk
 exact Em hw
theorem wIf (hk:ca (at_ c p)=2) (b:Bool) (hb:aev cx.G T (sH (at_ c p))=.bool b) (h1:b=true->wpA cx n m (at_ c (0::p)) Q T h) (h2:b=false->wpA cx n m (at_ c (1::p)) Q T h):wpA cx n m (at_ c p) Q T h:=by
 simp only [at_] at h1 h2;generalize at_ c p=d at hk hb h1 h2;cases d <;> simp [ca] at hk
 exact FE b hb h1 h2
theorem ga (hk:ca (at_ c p)=2) (hb:aev cx.G T (sH (at_ c p))=.bool true) (h1:wpA cx n m (at_ c (0::p)) Q T h):wpA cx n m (at_ c p) Q T h :=
 wIf hk true hb (fun _=>h1) (fun e=>by cases e)
theorem iu (hk:ca (at_ c p)=2) (hb:aev cx.G T (sH (at_ c p))=.bool false) (h2:wpA cx n m (at_ c (1::p)) Q T h):wpA cx n m (at_ c p) Q T h :=
 wIf hk false hb (fun e=>by cases e) (fun _=>h2)
theorem Rm (id:Nat) (hk:ca (at_ c p)=3) (hid:KV (at_ c p)=id) (hw:wpA cx n m (at_ c (0::p)) (AIn id Q) T h):wpA cx n m (at_ c p) Q T h:=by
 simp only [at_] at hw;generalize at_ c p=d at hk hid hw;cases d <;> simp [ca] at hk
 simp only [KV] at hid;subst hid;exact wn hw
theorem RC (hk:ca (at_ c p)=10) (hw:wpA cx n m (at_ c (0::p)) (xW Q) T h):wpA cx n m (at_ c p) Q T h:=by
 simp only [at_] at hw;generalize at_ c p=d at hk hw;cases d <;> simp [ca] at hk
 exact vr hw
theorem QQ (hk:ca (at_ c p)=11) (hq:Q .normal T h):wpA cx n m (at_ c p) Q T h:=by
 generalize at_ c p=d at hk;cases d <;> simp [ca] at hk
 exact vW hq
theorem sE (hk:ca (at_ c p)=7) (hq:Q .normal T h):wpA cx n m (at_ c p) Q T h:=by
 generalize at_ c p=d at hk;cases d <;> simp [ca] at hk
 exact Ar hq
theorem aJ (hk:ca (at_ c p)=8) (hq:Q .ret T h):wpA cx n m (at_ c p) Q T h:=by
 generalize at_ c p=d at hk;cases d <;> simp [ca] at hk
 exact EX hq
theorem aK (id:Nat) (hk:ca (at_ c p)=9) (hid:KV (at_ c p)=id) (hq:Q (.exit id) T h):wpA cx n m (at_ c p) Q T h:=by
 generalize at_ c p=d at hk hid;cases d <;> simp [ca] at hk
 simp only [KV] at hid;subst hid;exact yU hq
theorem jv (hk:uv n (at_ c p)=true) (hw:lF cx (bOf n (at_ c p)) T h (fun T' h'=>Q .normal T' h')):wpA cx n m (at_ c p) Q T h:=by
 generalize at_ c p=d at hk hw;unfold uv at hk;split at hk <;> try (simp at hk;done)
 rename_i id ops;obtain ⟨l,hl⟩:=Option.isSome_iff_exists.1 hk;simp only [bOf,qJ,hl] at hw;exact te (iI _ _ _ _ hl hw)
theorem WI (hm:cx.P.follows .mixedOrders=true) (hk:Kn n (at_ c p)=true) (hq:u6 Q)
 (hw:jm cx (bOf n (at_ c p)) h.length T (h++hP (nAl (qJ (at_ c p)).toList)) [] (fun rs T' h'=>mC (qJ (at_ c p)) rs=true/\Q .normal T' h')):wpA cx n m (at_ c p) Q T h:=by
 generalize at_ c p=d at hk hw;unfold Kn at hk;split at hk <;> try (simp at hk;done)
 rename_i id ops;rw [Bool.and_eq_true] at hk;obtain ⟨l,hl⟩:=Option.isSome_iff_exists.1 hk.1;simp only [bOf,qJ,hl] at hw;exact y9 hm hk.2 hq (gF _ _ _ _ _ _ hl hw)
theorem aT {σ:Type} (S:σ->Tm) (H:σ->af) (I:σ->Prop) (μ:σ->Nat) (s0:σ) (hk:ca (at_ c p)=4) (i0:I s0) (h0:gt m T h (S s0) (H s0))
 (round:∀ s,I s->wpA cx n m (at_ c (0::p)) (cM (fun T' h'=>∃ s',μ s'<μ s/\I s'/\gt m T' h' (S s') (H s')) Q) (S s) (H s)):wpA cx n m (at_ c p) Q T h:=by
 simp only [at_] at round;generalize at_ c p=d at hk round;cases d <;> simp [ca] at hk
 exact Cl S H I μ s0 i0 h0 round
def rnd (cx:Cx) (n m:Nat) (d:Code) (Q:cP):Nat->Tm->af->Prop
 | 0,_,_=>False
 | j+1,T,h=>wpA cx n m d (cM (rnd cx n m d Q j) Q) T h
theorem Iw {d:Code} {j:Nat} (hr:rnd cx n m d Q j T h):wpA cx n m (.loop d) Q T h:=by
 refine uf (fun k T h=>rnd cx n m d Q k T h) j hr ?_;intro k T h hk;cases k with
 | zero=>exact hk.elim
 | succ k =>
  refine lU hk ?_;intro e T' h' q;cases e with
  | normal=>exact ⟨k,Nat.lt_succ_self k,q⟩
  | _=>exact q
theorem SF (j:Nat) (hk:ca (at_ c p)=4) (hr:rnd cx n m (at_ c (0::p)) Q j T h):wpA cx n m (at_ c p) Q T h:=by
 simp only [at_] at hr;generalize at_ c p=d at hk hr;cases d <;> simp [ca] at hk
 exact Iw hr
theorem Vs {d:Code} {j:Nat} (hw:wpA cx n m d (cM (rnd cx n m d Q j) Q) T h):rnd cx n m d Q (j+1) T h:=hw
theorem wSt (L:List Nat) (T':Tm) (h':af) (hT:ic L T=T') (hh:h=h') {d:Code} (hw:wpA cx n m d Q T' h'):wpA cx n m d Q T h:=by
 subst hT hh;exact Jn (fun t=>GH L T t) hw
theorem jg (d sz:Nat) (hsz:0<sz) (hT:Tm.get T d=.full []) {d':Code} (hw:wpA cx n m d' Q ((d,.own h.length 0 0)::T) (h++[.arr sz [] 0])):wpA cx n m d' Q T h:=by
 intro E B ρ a w hm hr
 have hst:=ce (h':=h++[.arr sz [] 0]) (w':=w) hr.wf hr.fr h.length (.arr sz [] 0) ⟨0,0,0⟩ ρ.I (getElem?_append_one _ _) (fun o' ho=>bE _ _ _ ho)
  rfl rfl rfl (Nat.le_refl _) (fun _ _ _=>rfl) zq (fun b j hI=>⟨hI,rfl⟩) (fun b j hI=>.inl hI)
  (fun hb=>by simp [am.hasBlk] at hb) (fun j hb=>by simp [am.hasBlk] at hb) (cy hr.wf)
  (fun _=>⟨Nat.le_refl _,Nat.le_refl _,hsz,by simp,fun hc=>by simp at hc⟩)
 have hr2:=hr.step hst.1 hst.2.1 hst.2.2;refine hw E B _ a w hm ⟨fun t=>?_,hr2.size,hr2.defers,hr2.glob,hr2.wf,hr2.fr,hr2.le⟩;simp only [Tm.get];by_cases e:d=t
 . subst e;rw [if_pos rfl];have hv:=hr.tm d;rw [hT] at hv
   obtain ⟨ad,hv2⟩:∃ ad,a.tmps.getD d undef=.slice ad 0 0:=by
    cases hce:a.tmps.getD d undef <;> rw [hce] at hv <;> cases hv
    exact ⟨_,rfl⟩
   rw [hv2];refine .own _ _ _ _ _ _ sz [] 0 (getElem?_append_one _ _) ⟨by simp,fun _=>⟨rfl,?_,fun h0=>by simp at h0⟩⟩;rw [Ren.put_same]
 . rw [if_neg e];exact hr2.tm t
theorem ax {d:Code} {Q':cP}:u6 (cM (wpA cx n m d Q) Q'):=fun _ _ _ he hw=>wM he hw
theorem df {id:Nat} (hq:u6 Q):u6 (AIn id Q):=fun T T' h he hw=>hq T T' h he hw
theorem LeL.ext {T T':Tm} (he:∀ t,Tm.get T t=Tm.get T' t):∀ {S:Tm},LeL T S->LeL T' S
 | [],_=>trivial
 | p::S,hl=>⟨(he p.1).symm.trans hl.1,LeL.ext he hl.2⟩
theorem gt.ext {T T' S:Tm} {g:af} (he:∀ t,Tm.get T t=Tm.get T' t) (hf:gt m T h S g):gt m T' h S g:=⟨hf.le.ext he,hf.bel,hf.len,hf.heap,hf.objs⟩
theorem tx {P:Program} {T T':Tm} (he:∀ t,Tm.get T t=Tm.get T' t) (h:af):∀ rs,gu P T h rs=gu P T' h rs
 | []=>rfl
 | .tmp t::rs=>by simp only [gu,tx he h rs,he t]
 | .cell a t::rs=>by simp only [gu,tx he h rs,he a]
theorem Cy {rs:List ResultVar} {q:aa->af->Prop}:u6 (Fin cx rs m q):=by
 rintro T T' h he ⟨h1,l,h2,h3⟩;exact ⟨h1,l,by rw [<- tx he];exact h2,h3⟩
def hdB:List BOp->BOp
 | o::_=>o
 | []=>⟨none,none,.move (.const (.bool false))⟩
def bj:List BOp->Bool
 | _::_=>true
 | []=>false
abbrev RSt:=Tm×af
def Qr (P:Program) (G:Nat->Option (List aa)) (o:BOp) (S:RSt):Option RSt:=match bt S.1 o.g with
 | some true=>match aop P S.2 (aev G S.1) o.op with
  | some r=>some (ci S.1 o.dst r.1,r.2)
  | none=>none
 | some false=>some (ci S.1 o.dst (.tup []),S.2)
 | none=>none
def j4 (P:Program) (G:Nat->Option (List aa)):Nat->List BOp->RSt->Option RSt
 | 0,_,S=>some S
 | j+1,o::os,S=>match Qr P G o S with
  | some r=>j4 P G j os r
  | none=>none
 | _+1,[],_=>none
def rS:Option RSt->RSt
 | some r=>r
 | none=>([],[])
def FZ (S:RSt) (d:Option Nat) (v:aa):RSt:=(ci S.1 d v,S.2)
def UA (S:RSt) (d:Option Nat) (v:aa) (o:Nat) (x:am):RSt:=(ci S.1 d v,S.2.set o x)
def W5 (S:RSt) (d:Option Nat) (v:aa) (os:List Nat):RSt:=(ci S.1 d v,db S.2 os)
def KF (S:RSt) (d:Nat) (y:aa):RSt:=((d,y)::S.1,S.2)
structure bS (cx:Cx) (l:List BOp) (S:RSt) (K:Tm->af->Prop):Prop where
 out:lF cx l S.1 S.2 K
variable {l:List BOp} {K:Tm->af->Prop} {S:RSt}
theorem dt (hk:bS cx l (T,h) K):lF cx l T h K:=hk.out
theorem fJ (j:Nat) (ho:(j4 cx.P cx.G j l S).isSome=true) (hk:bS cx (l.drop j) (rS (j4 cx.P cx.G j l S)) K):bS cx l S K:=by
 induction j generalizing l S with
 | zero=>simpa [j4,rS] using hk
 | succ j ih =>
  cases l with
  | nil=>simp [j4] at ho
  | cons o os =>
   simp only [j4] at ho hk;cases h1:Qr cx.P cx.G o S with
   | none=>rw [h1] at ho;simp at ho
   | some r =>
    rw [h1] at ho hk;have:=(ih ho (by simpa using hk)).out;unfold Qr at h1;refine ⟨?_⟩;simp only [lF];split at h1
    . rename_i hg;rw [hg];split at h1 <;> simp at h1;rename_i q hq;simp only [lv,hq,m0]
      grind
    . rename_i hg;rw [hg];simp at h1;subst h1;exact this
    . simp at h1
abbrev bU (cx:Cx)(S:RSt):=aev cx.G S.1
theorem kc {v:aa} {h':af} (hc:bj l=true) (hg:bt S.1 (hdB l).g=some true) (ho:aop cx.P S.2 (bU cx S) (hdB l).op=some (v,h')) (hk:bS cx l.tail (ci S.1 (hdB l).dst v,h') K):bS cx l S K:=by
 cases l with
 | nil=>simp [bj] at hc
 | cons o os =>
  refine ⟨?_⟩;simp only [hdB] at hg ho;simp only [lF,hg,lv,ho,m0];exact .inl hk.out
theorem Wm {q r:aa×af} (hc:bj l=true) (hg:bt S.1 (hdB l).g=some true) (ho:aop cx.P S.2 (bU cx S) (hdB l).op=some r) (hb:bso cx.P S.2 (bU cx S) (hdB l).op=some q) (hk:bS cx l.tail (ci S.1 (hdB l).dst q.1,q.2) K):bS cx l S K:=by
 cases l with
 | nil=>simp [bj] at hc
 | cons o os =>
  refine ⟨?_⟩;simp only [hdB] at hg ho hb;simp only [lF,hg,lv,ho,m0,hb,VA];exact .inr hk.out
theorem WO {v:aa} (hc:bj l=true) (hg:bt S.1 (hdB l).g=some true) (ho:aop cx.P S.2 (bU cx S) (hdB l).op=some (v,S.2)) (hk:bS cx l.tail (FZ S (hdB l).dst v) K):bS cx l S K:=kc hc hg ho hk
theorem Vx {v:aa} {o:Nat} {x:am} (hc:bj l=true) (hg:bt S.1 (hdB l).g=some true) (ho:aop cx.P S.2 (bU cx S) (hdB l).op=some (v,S.2.set o x)) (hk:bS cx l.tail (UA S (hdB l).dst v o x) K):bS cx l S K:=kc hc hg ho hk
theorem Bf {f:FuncId} {args:List aa} {q:aa->af->Prop} (hc:bj l=true) (hg:bt S.1 (hdB l).g=some true) (ho:aop cx.P S.2 (bU cx S) (hdB l).op=none) (ha:aI (bU cx S) (hdB l).op=some (f,args)) (hq:av cx f args S.2 q)
 (hk:∀ v h',q v h'->bS cx l.tail (ci S.1 (hdB l).dst v,h') K):bS cx l S K:=by
 cases l with
 | nil=>simp [bj] at hc
 | cons o os =>
  simp only [hdB] at hg ho ha;refine ⟨?_⟩;simp only [lF,hg,lv,ho,m0,ha,xO];exact hq.mono fun v h' q=>(hk v h' q).out
theorem Qm {f:FuncId} {args args':List aa} {v:aa} (hc:bj l=true) (hg:bt S.1 (hdB l).g=some true) (ho:aop cx.P S.2 (bU cx S) (hdB l).op=none) (ha:aI (bU cx S) (hdB l).op=some (f,args)) (hq:ae cx f args' v) (hf:aN S.2 args=args') (hb:aC 0 args'=true)
 (hk:bS cx l.tail (W5 S (hdB l).dst v (aF args)) K):bS cx l S K :=
 Bf hc hg ho ha (wG (K:=fun v' h'=>v'=v/\h'=db S.2 (aF args)) hq hf hb ⟨rfl,rfl⟩) (by rintro v' h' ⟨rfl,rfl⟩;exact hk)
theorem l1 {f:FuncId} {args args':List aa} {v:aa} (hc:bj l=true) (hg:bt S.1 (hdB l).g=some true) (ho:aop cx.P S.2 (bU cx S) (hdB l).op=none) (ha:aI (bU cx S) (hdB l).op=some (f,args)) (hq:ae cx f args' v) (hf:aN S.2 args=args') (hb:aC 0 args'=true) (hw:aF args=[])
 (hk:bS cx l.tail (FZ S (hdB l).dst v) K):bS cx l S K :=
 Qm hc hg ho ha hq hf hb (by rw [hw];exact hk)
theorem lY {L:List (aa×af)} (hc:bj l=true) (hg:bt S.1 (hdB l).g=some true) (ho:aop cx.P S.2 (bU cx S) (hdB l).op=none) (ha:aI (bU cx S) (hdB l).op=none) (hx:anx cx.P S.2 (bU cx S) (hdB l).op=some L)
 (hk:∀ r,r∈L->bS cx l.tail (ci S.1 (hdB l).dst r.1,r.2) K):bS cx l S K:=by
 cases l with
 | nil=>simp [bj] at hc
 | cons o os =>
  simp only [hdB] at hg ho ha hx;refine ⟨?_⟩;simp only [lF,hg,lv,ho,m0,ha,xO,hx,Ob];exact fun r hr=>(hk r hr).out
theorem iY (hc:bj l=false) (hk:K S.1 S.2):bS cx l S K:=by
 cases l with
 | nil=>exact ⟨hk⟩
 | cons o os=>simp [bj] at hc
theorem ul {T S:Tm} (he:∀ t,Tm.get T t=Tm.get S t) (g:Option (Nat×Bool)):bt T g=bt S g:=by
 cases g with
 | none=>rfl
 | some q=>simp only [bt,he]
theorem kf (hx:B9 K):∀ (l:List BOp) {T S:Tm} {h:af},(∀ t,Tm.get T t=Tm.get S t)->lF cx l T h K->lF cx l S h K
 | [],T,S,h,he,hb=>hx T S h he hb
 | o::os,T,S,h,he,hb=>by
  have hp:∀ v t,Tm.get (ci T o.dst v) t=Tm.get (ci S o.dst v) t:=by
   intro v t;rw [ik,ik,he]
  simp only [lF,ul he,wN (cx:=cx) he] at hb ⊢;cases hg:bt S o.g with
  | none=>rw [hg] at hb;exact hb.elim
  | some t =>
   rw [hg] at hb;cases t with
   | false=>exact kf hx os (hp _) hb
   | true =>
    simp only [lv] at hb ⊢;cases ho:aop cx.P h (aev cx.G S) o.op with
    | some r =>
     rw [ho] at hb;rcases hb with hb|hb
     . exact .inl (kf hx os (hp _) hb)
     . refine .inr ?_;cases hs:bso cx.P h (aev cx.G S) o.op with
       | none=>rw [hs] at hb;exact hb.elim
       | some w=>rw [hs] at hb;exact kf hx os (hp _) hb
    | none =>
     rw [ho] at hb;simp only [m0] at hb ⊢;cases hcl:aI (aev cx.G S) o.op with
     | none =>
      rw [hcl] at hb;simp only [xO] at hb ⊢;cases hnx:anx cx.P h (aev cx.G S) o.op with
      | none=>rw [hnx] at hb;exact hb.elim
      | some L=>rw [hnx] at hb;exact fun r hr=>kf hx os (hp _) (hb r hr)
     | some q =>
      rw [hcl] at hb;exact av.mono hb fun v h' q=>kf hx os (hp _) q
theorem TW (d:Nat) (x y:aa) (hx:B9 K) (hT:Tm.get S.1 d=x) (e:x=y) (hk:bS cx l (KF S d y) K):bS cx l S K:=by
 refine ⟨kf hx l (fun t=>?_) hk.out⟩;show Tm.get ((d,y)::S.1) t=_;simp only [Tm.get]
 grind
theorem GS {d':Code} (d:Nat) (x y:aa) (hT:Tm.get T d=x) (e:x=y) (hk:wpA cx n m d' Q ((d,y)::T) h):wpA cx n m d' Q T h:=by
 refine wM (fun t=>?_) hk;simp only [Tm.get]
 grind
abbrev DSt:=Nat×Tm×af×List (List Nat×List Nat)
def Kw (P:Program) (G:Nat->Option (List aa)) (o:BOp) (s:DSt):Option DSt:=match bt s.2.1 o.g with
 | some true=>bif fv o.op then
  (match apl P (aev G s.2.1) o.op with
  | some cs=>bif lQ s.2.2.1 s.1 then some (s.1+1,ci s.2.1 o.dst (.ptr s.1 0),s.2.2.1.set s.1 (.box cs),s.2.2.2++[([s.1],[s.1])]) else none
  | none=>none)
  else match aop P s.2.2.1 (aev G s.2.1) o.op with
  | some r=>some (s.1,ci s.2.1 o.dst r.1,r.2,s.2.2.2++[(ard (aev G s.2.1) o.op,awr s.2.2.1 (aev G s.2.1) o.op)])
  | none=>none
 | some false=>some (bif fv o.op then s.1+1 else s.1,ci s.2.1 o.dst (.tup []),s.2.2.1,s.2.2.2++[([],[])])
 | none=>none
def vS (P:Program) (G:Nat->Option (List aa)):Nat->List BOp->DSt->Option DSt
 | 0,_,s=>some s
 | j+1,o::os,s=>match Kw P G o s with
  | some r=>vS P G j os r
  | none=>none
 | _+1,[],_=>none
def dS:Option DSt->DSt
 | some r=>r
 | none=>(0,[],[],[])
structure bdr (cx:Cx) (l:List BOp) (s:DSt) (K:List (List Nat×List Nat)->Tm->af->Prop):Prop where
 out:jm cx l s.1 s.2.1 s.2.2.1 s.2.2.2 K
variable {KD:List (List Nat×List Nat)->Tm->af->Prop} {s:DSt}
theorem Q1 {k:Nat} {rs:List fH} (hk:bdr cx l (k,T,h,rs) KD):jm cx l k T h rs KD:=hk.out
theorem We (j:Nat) (ho:(vS cx.P cx.G j l s).isSome=true) (hk:bdr cx (l.drop j) (dS (vS cx.P cx.G j l s)) KD):bdr cx l s KD:=by
 induction j generalizing l s with
 | zero=>simpa [vS,dS] using hk
 | succ j ih =>
  cases l with
  | nil=>simp [vS] at ho
  | cons o os =>
   simp only [vS] at ho hk;cases h1:Kw cx.P cx.G o s with
   | none=>rw [h1] at ho;simp at ho
   | some r =>
    rw [h1] at ho hk;have:=(ih ho (by simpa using hk)).out;unfold Kw at h1;refine ⟨?_⟩;simp only [jm];split at h1
    . rename_i hg;rw [hg];cases hal:fv o.op with
      | true =>
       rw [hal] at h1;simp only [cond_true] at h1;split at h1 <;> try (simp at h1;done)
       rename_i cs hcs;cases hh:lQ s.2.2.1 s.1 with
       | false=>rw [hh] at h1;simp at h1
       | true =>
        rw [hh] at h1;simp at h1;subst h1;simp only [lv,hcs,KY];exact ⟨trivial,this⟩
      | false =>
       rw [hal] at h1;simp only [cond_false] at h1;split at h1 <;> simp at h1;rename_i q hq;simp only [lv,hq,m0];subst h1;exact this
    . rename_i hg;rw [hg];simp at h1;subst h1;exact this
    . simp at h1
def Kp (cx:Cx) (s:DSt) (o:BOp) (v:aa) (h':af):DSt:=(s.1,ci s.2.1 o.dst v,h',s.2.2.2++[(ard (aev cx.G s.2.1) o.op,awr s.2.2.1 (aev cx.G s.2.1) o.op)])
def TJ (cx:Cx) (s:DSt) (o:BOp) (v:aa):DSt:=Kp cx s o v s.2.2.1
def Ti (cx:Cx) (s:DSt) (o:BOp) (v:aa) (ob:Nat) (x:am):DSt:=Kp cx s o v (s.2.2.1.set ob x)
def O4 (s:DSt) (o:BOp) (v:aa):DSt:=(s.1,ci s.2.1 o.dst v,s.2.2.1,s.2.2.2++[([],[])])
def TC (s:DSt) (d:Nat) (y:aa):DSt:=(s.1,(d,y)::s.2.1,s.2.2.1,s.2.2.2)
theorem OQ {v:aa} {h':af} (hc:bj l=true) (hg:bt s.2.1 (hdB l).g=some true) (hal:fv (hdB l).op=false) (ho:aop cx.P s.2.2.1 (aev cx.G s.2.1) (hdB l).op=some (v,h'))
 (hk:bdr cx l.tail (Kp cx s (hdB l) v h') KD):bdr cx l s KD:=by
 cases l with
 | nil=>simp [bj] at hc
 | cons o os =>
  simp only [hdB] at hg ho hal;refine ⟨?_⟩;simp only [jm,hg,lv,hal,ho,m0];exact hk.out
theorem Xi {v:aa} (hc:bj l=true) (hg:bt s.2.1 (hdB l).g=some true) (hal:fv (hdB l).op=false) (ho:aop cx.P s.2.2.1 (aev cx.G s.2.1) (hdB l).op=some (v,s.2.2.1)) (hk:bdr cx l.tail (TJ cx s (hdB l) v) KD):bdr cx l s KD:=OQ hc hg hal ho hk
theorem TM {v:aa} {ob:Nat} {x:am} (hc:bj l=true) (hg:bt s.2.1 (hdB l).g=some true) (hal:fv (hdB l).op=false) (ho:aop cx.P s.2.2.1 (aev cx.G s.2.1) (hdB l).op=some (v,s.2.2.1.set ob x)) (hk:bdr cx l.tail (Ti cx s (hdB l) v ob x) KD):bdr cx l s KD:=OQ hc hg hal ho hk
theorem Hs {f:FuncId} {args:List aa} {L:List Nat} {v:aa} {h':af} (hc:bj l=true) (hg:bt s.2.1 (hdB l).g=some true) (hal:fv (hdB l).op=false) (ho:aop cx.P s.2.2.1 (aev cx.G s.2.1) (hdB l).op=none) (ha:aI (aev cx.G s.2.1) (hdB l).op=some (f,args))
 (hq:kr cx f args s.2.2.1 L v h') (hk:bdr cx l.tail (s.1,ci s.2.1 (hdB l).dst v,h',s.2.2.2++[(L,L)]) KD):bdr cx l s KD:=by
 cases l with
 | nil=>simp [bj] at hc
 | cons o os =>
  simp only [hdB] at hg ho ha hal;refine ⟨?_⟩;simp only [jm,hg,lv,hal,ho,m0,ha,xO];exact ⟨L,v,h',hq,hk.out⟩
theorem Qj {f:FuncId} {args args':List aa} {v:aa} (hc:bj l=true) (hg:bt s.2.1 (hdB l).g=some true) (hal:fv (hdB l).op=false) (ho:aop cx.P s.2.2.1 (aev cx.G s.2.1) (hdB l).op=none) (ha:aI (aev cx.G s.2.1) (hdB l).op=some (f,args))
 (hq:ae cx f args' v) (hf:∀ g,aN g args=args') (hb:aC 0 args'=true) (hw:aF args=[]) (hk:bdr cx l.tail (O4 s (hdB l) v) KD):bdr cx l s KD :=
 Hs hc hg hal ho ha (CX hf hq hb hw) hk
theorem bY (hc:bj l=false) (hk:KD s.2.2.2 s.2.1 s.2.2.1):bdr cx l s KD:=by
 cases l with
 | nil=>exact ⟨hk⟩
 | cons o os=>simp [bj] at hc
theorem jX (hx:∀ rs,B9 (KD rs)):∀ (l:List BOp) {k:Nat} {T S:Tm} {h:af} {rs:List fH},(∀ t,Tm.get T t=Tm.get S t)->jm cx l k T h rs KD->jm cx l k S h rs KD
 | [],k,T,S,h,rs,he,hb=>hx rs T S h he hb
 | o::os,k,T,S,h,rs,he,hb=>by
  have hp:∀ v t,Tm.get (ci T o.dst v) t=Tm.get (ci S o.dst v) t:=by
   intro v t;rw [ik,ik,he]
  simp only [jm,ul he,wN (cx:=cx) he] at hb ⊢;cases hg:bt S o.g with
  | none=>rw [hg] at hb;exact hb.elim
  | some t =>
   rw [hg] at hb;cases t with
   | false=>exact jX hx os (hp _) hb
   | true =>
    simp only [lv] at hb ⊢;cases hal:fv o.op with
    | true =>
     rw [hal] at hb;simp only at hb ⊢;cases hpl:apl cx.P (aev cx.G S) o.op with
     | none=>rw [hpl] at hb;exact hb.elim
     | some cs=>rw [hpl] at hb;exact ⟨hb.1,jX hx os (hp _) hb.2⟩
    | false =>
     rw [hal] at hb;simp only at hb ⊢;cases ho:aop cx.P h (aev cx.G S) o.op with
     | some r=>rw [ho] at hb;exact jX hx os (hp _) hb
     | none =>
      rw [ho] at hb;simp only [m0] at hb ⊢;cases hcl:aI (aev cx.G S) o.op with
      | none=>rw [hcl] at hb;exact hb.elim
      | some q =>
       rw [hcl] at hb;obtain ⟨L,v,h',q1,q2⟩:=hb;exact ⟨L,v,h',q1,jX hx os (hp _) q2⟩
theorem fq (d:Nat) (x y:aa) (hx:∀ rs,B9 (KD rs)) (hT:Tm.get s.2.1 d=x) (e:x=y) (hk:bdr cx l (TC s d y) KD):bdr cx l s KD:=by
 refine ⟨jX hx l (fun t=>?_) hk.out⟩;show Tm.get ((d,y)::s.2.1) t=_;simp only [Tm.get]
 grind
theorem fu {ops:Array Oper} (hq:u6 Q):∀ rs,B9 (fun T' h'=>mC ops rs=true/\Q .normal T' h'):=fun _ T T' h he ⟨h1,h2⟩=>⟨h1,hq T T' h he h2⟩
theorem cK (hq:u6 Q):B9 (fun T' h'=>Q .normal T' h'):=fun T T' h he h2=>hq T T' h he h2
end
end
section
def IB (ev:Operand->aa):Op->Option (Nat×aa×aa)
 | .indexAddr t x i=>some (t,ev x,ev i)
 | _=>none
def zt (ev:Operand->aa):Op->Option (BinOp×aa×aa)
 | .binOp op _ x y _=>some (op,ev x,ev y)
 | _=>none
def S8 (ev:Operand->aa):Op->Option aa
 | .unOp .neg _ x=>some (ev x)
 | _=>none
def S2 (ev:Operand->aa):Op->Option (Nat×Nat×aa)
 | .convert s d x=>some (s,d,ev x)
 | _=>none
def BX (ev:Operand->aa):Op->Option (Nat×aa×Option aa×Option aa)
 | .slice t x lo hi none=>some (t,ev x,o4 ev lo,o4 ev hi)
 | _=>none
def uU (ev:Operand->aa):Op->Option (Builtin×List Nat×List aa)
 | .call { callee:=.builtin b,args,argTypes }=>some (b,argTypes.toList,ju ev args.toList)
 | _=>none
def v8 (ev:Operand->aa):Op->Option (Nat×aa×aa×Bool)
 | .lookup t m k ok=>some (t,ev m,ev k,ok)
 | _=>none
def VL (ev:Operand->aa):Op->Option (Nat×aa×aa×aa)
 | .mapUpdate t m k x=>some (t,ev m,ev k,ev x)
 | .insert t m k x=>some (t,ev m,ev k,ev x)
 | _=>none
def OC (ev:Operand->aa):Op->Option (Nat×aa)
 | .load t a=>some (t,ev a)
 | _=>none
def nr (ev:Operand->aa):Op->Option (Nat×aa×aa)
 | .store t a x=>some (t,ev a,ev x)
 | _=>none
section
variable {P:Program} {h:af} {ev:Operand->aa} {op:Op}
theorem ph {t:Nat} {x:aa} {k:IntKind} {n:Int} (hv:IB ev op=some (t,x,.int k n)):aop P h ev op=dI h (dD P h t x n):=by
 unfold IB at hv;split at hv <;> simp at hv;obtain ⟨rfl,rfl,h3⟩:=hv;simp only [aop,h3]
theorem ny {α:Type} (l:List α) (k:Nat) (d:α) (h:k<l.length):l[k]?=some (l.getD k d):=by
 grind
theorem au {α:Type} {t e:Nat} {enc:α->aa} {l:List α} {k:IntKind} {i:Int} {a b a' b':Nat} {z z':aa} {ek:TyK} (d:α) (hv:IB ev op=some (t,.imm (l.map enc),.int k i)) (ht:aP P t=some ⟨.slice e,a,b,z⟩) (he:aP P e=some ⟨ek,a',b',z'⟩)
 (hs:∀ x,(enc x).cells.length=a') (h0:0<=i) (h1:i<l.length):aop P h ev op=some (.pimm (enc (l.getD i.toNat d)).cells 0,h):=by
 rw [ph hv];have hlt:i.toNat<l.length:=by omega
 have hc:0<=i/\i<((l.map enc).length:Nat):=by rw [List.length_map];exact ⟨h0,h1⟩
 simp only [dD,ht,he,if_pos hc,List.getElem?_map,ny l i.toNat d hlt,Option.map_some,hs,if_true,dI]
theorem bD {t e:Nat} {o off len:Nat} {k:IntKind} {i:Int} {a b a' b' sz fr:Nat} {es:List aa} {z z':aa} {ek:TyK} (hv:IB ev op=some (t,.own o off len,.int k i)) (ht:aP P t=some ⟨.slice e,a,b,z⟩) (he:aP P e=some ⟨ek,a',b',z'⟩)
 (ho:h[o]?=some (.arr sz es fr)) (hs:sz=a') (hl:off+len=es.length) (h0:0<=i) (h1:i<len):aop P h ev op=some (.pown o (off+i.toNat) 0 es.length,h):=by
 rw [ph hv];simp only [dD,ht,he,ho];rw [if_pos ⟨hl,hs,h0,h1⟩];rfl
theorem c7 {t:Nat} {o idx off k:Nat} {sz fr:Nat} {es:List aa} {x v:aa} (hv:OC ev op=some (t,.pown o idx off k)) (ho:h[o]?=some (.arr sz es fr)) (hl:es.length=k) (hx:es[idx]?=some x) (hld:lh P t x.cells off=some v):aop P h ev op=some (v,h):=by
 unfold OC at hv;split at hv <;> simp at hv;obtain ⟨rfl,h2⟩:=hv;simp only [aop,h2,nV,ho,hl,if_true,hx,Option.map_some,hld,dI]
theorem MI {t:Nat} {o idx off k:Nat} {sz fr:Nat} {es:List aa} {x y:aa} {i:TyI} (hv:nr ev op=some (t,.pown o idx off k,x)) (ho:h[o]?=some (.arr sz es fr)) (hl:es.length=k) (hf:fr<=idx) (hy:es[idx]?=some y) (ht:aP P t=some i)
 (hok:x.cells.length=i.size/\x.cells.all aa.cellOk=true) (h0:off=0) (hsz:y.cells.length=i.size) (hw:y.withCells x.cells=some x):aop P h ev op=some (.any,h.set o (.arr sz (es.set idx x) fr)):=by
 unfold nr at hv;split at hv <;> simp at hv;obtain ⟨rfl,h2,h3⟩:=hv;subst h0
 have hsp:e6 y.cells 0 x.cells=x.cells:=by
  simp only [e6,List.take_zero,List.nil_append,Nat.zero_add]
  grind
 simp only [aop,h2,h3,fc,ht,ho];rw [if_pos hok];simp only [hl,hf,hy,hsz,hsp,hw,Nat.zero_add,Nat.le_refl,and_self,if_true,rK]
theorem iE {b:Builtin} {ats:List Nat} {xs:List aa} (hv:uU ev op=some (b,ats,xs)):aop P h ev op=dT P h b ats xs:=by
 unfold uU at hv;split at hv <;> simp at hv;obtain ⟨rfl,rfl,rfl⟩:=hv;rfl
theorem aj {α:Type} {t e:Nat} {enc:α->aa} {l:List α} {a b:Nat} {z:aa} (hv:uU ev op=some (.len,[t],[.imm (l.map enc)])) (ht:aP P t=some ⟨.slice e,a,b,z⟩):aop P h ev op=some (.int .i64 (l.length:Nat),h):=by
 rw [iE hv];simp [dT,ht,TyK.lenOk,xN]
theorem cu {t e:Nat} {o off len:Nat} {a b sz fr:Nat} {es:List aa} {z:aa} (hv:uU ev op=some (.len,[t],[.own o off len])) (ht:aP P t=some ⟨.slice e,a,b,z⟩) (ho:h[o]?=some (.arr sz es fr)) (hl:off+len=es.length):aop P h ev op=some (.int .i64 (len:Nat),h):=by
 rw [iE hv];simp [dT,ht,TyK.lenOk,xN,ho,hl]
theorem tM {t t' e:Nat} {o len:Nat} {a b a' b' a2 b2 sz fr:Nat} {es src:List aa} {z z' z2:aa} {ek k2:TyK} {e2:Nat} {x:aa} (hv:uU ev op=some (.append,[t,t'],[.own o 0 len,x])) (ht:aP P t=some ⟨.slice e,a,b,z⟩) (he:aP P e=some ⟨ek,a',b',z'⟩) (ht':aP P t'=some ⟨k2,a2,b2,z2⟩) (hk2:k2=.slice e2)
 (ho:h[o]?=some (.arr sz es fr)) (hsz:sz=a') (hl:len=es.length) (hx:fz h x=some src) (hc:0<a'/\z'.cells.length=a'/\gk a' src=true) (hf:iC (len+src.length) b'=true) :
 aop P h ev op=some (.own o 0 (len+src.length),h.set o (.arr sz (es++src) fr)):=by
 rw [iE hv];subst hk2;simp only [dT,kE,ht,he,ht',hx]
 grind
theorem aX {α:Type} {enc:α->aa} {l xs:List α} {t t' e:Nat} {o len:Nat} {a b a' b' a2 b2 sz fr:Nat} {z z' z2:aa} {ek k2:TyK} {e2:Nat} {x:aa} (hv:uU ev op=some (.append,[t,t'],[.own o 0 len,x])) (ht:aP P t=some ⟨.slice e,a,b,z⟩) (he:aP P e=some ⟨ek,a',b',z'⟩) (ht':aP P t'=some ⟨k2,a2,b2,z2⟩) (hk2:k2=.slice e2)
 (ho:h[o]?=some (.arr sz (l.map enc) fr)) (hsz:sz=a') (hl:len=l.length) (hx:fz h x=some (xs.map enc)) (hz:0<a'/\z'.cells.length=a') (hok:∀ q,((enc q).cells.length==a' && (enc q).cells.all aa.cellOk)=true) (hf:(l.length+xs.length) * b'<=140737488355328) (hf2:l.length+xs.length<=140737488355328) :
 aop P h ev op=some (.own o 0 (l++xs).length,h.set o (.arr sz ((l++xs).map enc) fr)):=by
 have:=tM (h:=h) hv ht he ht' hk2 ho hsz (by rw [hl,List.length_map]) hx ⟨hz.1,hz.2,by
  unfold gk;rw [List.all_eq_true];intro q hq;obtain ⟨r,_,rfl⟩:=List.mem_map.1 hq;exact hok r⟩ (by rw [List.length_map,hl];simp [iC];exact ⟨hf,hf2⟩)
 rw [this];simp [hl]
theorem iH {b:BinOp} {x y:aa} (hv:zt ev op=some (b,x,y)) (hx:∀ t,we P b t x y=pe P b t x y:=by intro _;rfl):∃ t,aop P h ev op=dI h (pe P b t x y):=by
 unfold zt at hv;split at hv <;> simp at hv;obtain ⟨rfl,rfl,rfl⟩:=hv;exact ⟨_,congrArg (dI h) (hx _)⟩
theorem lM (n:Int) (h0:-9223372036854775808<=n) (h1:n<=9223372036854775807):IntKind.i64.wrap n=n:=by
 unfold IntKind.wrap IntKind.bits IntKind.signed;simp;omega
theorem az {a b:Int} (hv:zt ev op=some (.add,.int .i64 a,.int .i64 b)) (h0:-9223372036854775808<=a+b) (h1:a+b<=9223372036854775807):aop P h ev op=some (.int .i64 (a+b),h):=by
 obtain ⟨t,e⟩:=iH (P:=P) (h:=h) hv;rw [e];simp [pe,lM _ h0 h1,dI]
theorem eZ {a b:Int} (hv:zt ev op=some (.sub,.int .i64 a,.int .i64 b)) (h0:-9223372036854775808<=a - b) (h1:a - b<=9223372036854775807):aop P h ev op=some (.int .i64 (a - b),h):=by
 obtain ⟨t,e⟩:=iH (P:=P) (h:=h) hv;rw [e];simp [pe,lM _ h0 h1,dI]
theorem AQ {a b:Int} (hv:zt ev op=some (.mul,.int .i64 a,.int .i64 b)) (h0:-9223372036854775808<=a * b) (h1:a * b<=9223372036854775807):aop P h ev op=some (.int .i64 (a * b),h):=by
 obtain ⟨t,e⟩:=iH (P:=P) (h:=h) hv;rw [e];simp [pe,lM _ h0 h1,dI]
theorem PC {a b:Int} (hv:zt ev op=some (.quo,.int .i64 a,.int .i64 b)) (hb:b≠0) (h0:-9223372036854775808<=a.tdiv b) (h1:a.tdiv b<=9223372036854775807):aop P h ev op=some (.int .i64 (a.tdiv b),h):=by
 obtain ⟨t,e⟩:=iH (P:=P) (h:=h) hv;rw [e];simp [pe,hb,lM _ h0 h1,dI]
theorem Dt {a b:Int} (hv:zt ev op=some (.rem,.int .i64 a,.int .i64 b)) (hb:b≠0):aop P h ev op=some (.int .i64 (a.tmod b),h):=by
 obtain ⟨t,e⟩:=iH (P:=P) (h:=h) hv;rw [e];simp [pe,hb,dI]
theorem VK {a:Int} (hv:S8 ev op=some (.int .i64 a)) (h0:-9223372036854775808<=-a) (h1:-a<=9223372036854775807):aop P h ev op=some (.int .i64 (-a),h):=by
 unfold S8 at hv;split at hv <;> simp at hv;have:(0 - a)=-a:=by omega
 simp [aop,hv,aun,this,lM _ h0 h1,dI]
theorem Vz {a b:List UInt8} (hv:zt ev op=some (.add,.str a,.str b)) (h1:a.length+b.length<=9223372036854775807):aop P h ev op=some (.str (a++b),h):=by
 obtain ⟨t,e⟩:=iH (P:=P) (h:=h) hv;rw [e];have:((a.length+b.length:Nat):Int)<=9223372036854775807:=by omega
 simp only [pe,if_pos this,dI]
theorem IT {s d a b:Nat} {z:aa} {k k':IntKind} {n:Int} {i:TyI} (hv:S2 ev op=some (s,d,.int k n)) (hs:aP P s=some i) (hd:aP P d=some ⟨.int k',a,b,z⟩) (hw:k'.wrap n=n):aop P h ev op=some (.int k' n,h):=by
 unfold S2 at hv;split at hv <;> simp at hv;obtain ⟨rfl,rfl,h3⟩:=hv;simp [aop,h3,ER,hs,hd,hw,dI]
theorem mA {t:Nat} {x:aa} {lo hi:Option aa} (hv:BX ev op=some (t,x,lo,hi)):aop P h ev op=dI h (iS P h t x lo hi):=by
 unfold BX at hv;split at hv <;> simp at hv;obtain ⟨rfl,rfl,rfl,rfl⟩:=hv;rfl
def Mx:Option aa->Option Int
 | none=>some 0
 | some (.int _ n)=>some n
 | _=>none
def IU (len:Nat):Option aa->Option Int
 | none=>some len
 | some (.int _ n)=>some n
 | _=>none
theorem nK {len:Nat} {lo hi:Option aa} {a b:Int} (hlo:Mx lo=some a) (hhi:IU len hi=some b) (h0:0<=a) (h1:a<=b) (h2:b<=len):d5 len lo hi=some (a.toNat,b.toNat):=by
 have c1:(hi=none/\b=len)\/∃ k,hi=some (.int k b):=by
  cases hi with
  | none=>simp [IU] at hhi;exact .inl ⟨rfl,hhi.symm⟩
  | some v=>cases v <;> simp [IU] at hhi;subst hhi;exact .inr ⟨_,rfl⟩
 have c2:(lo=none/\a=0)\/∃ k,lo=some (.int k a):=by
  cases lo with
  | none=>simp [Mx] at hlo;exact .inl ⟨rfl,hlo.symm⟩
  | some v=>cases v <;> simp [Mx] at hlo;subst hlo;exact .inr ⟨_,rfl⟩
 have g1:0<=b/\b<=len:=⟨by omega,h2⟩;have g2:0<=a/\a<=(b.toNat:Nat):=⟨h0,by omega⟩;have g3:0<=a/\a<=len:=⟨h0,by omega⟩;rcases c1 with ⟨rfl,rfl⟩|⟨k,rfl⟩ <;> rcases c2 with ⟨rfl,rfl⟩|⟨k',rfl⟩ <;> simp only [d5,if_pos g1,if_pos g2,if_pos g3,Int.toNat_natCast,Int.toNat_zero]
theorem ec {α:Type} {enc:α->aa} {l:List α} {t e a b a' b':Nat} {z z':aa} {ek:TyK} {lo hi:Option aa} {x y:Int} (hv:BX ev op=some (t,.imm (l.map enc),lo,hi)) (ht:aP P t=some ⟨.slice e,a,b,z⟩) (he:aP P e=some ⟨ek,a',b',z'⟩) (hs:∀ x,(enc x).cells.length=a')
 (hlo:Mx lo=some x) (hhi:IU l.length hi=some y) (h0:0<=x) (h1:x<=y) (h2:y<=l.length):aop P h ev op=some (.imm (((l.take y.toNat).drop x.toNat).map enc),h):=by
 rw [mA hv]
 have hr:gq a' (l.map enc)=true:=by
  unfold gq
  grind
 have hhi':IU (l.map enc).length hi=some y:=by rw [List.length_map];exact hhi
 simp only [iS,ht,he,hr,if_true,nK hlo hhi' h0 h1 (by rw [List.length_map];exact h2),dI,Option.map_some,List.map_drop,List.map_take]
theorem c6 {α:Type} (l:List α) (enc:α->aa) (k:Nat) (d:α) (h:k<l.length):(l.map enc)[k]?=some (enc (l.getD k d)):=by
 grind
end
theorem cd {cx:Cx} {T:Tm} {h:af} {rs:List ResultVar} {e:Exit} {l:List aa} {v:aa} (he:e=.normal\/e=.ret) (hl:gu cx.P T h rs=some l) (hv:(aZ l).frz h=v/\v.bel 0=true) :
 Fin cx rs 0 (fun v' h'=>v'=v/\h'=[]) e T h:=nU he hl hv.1 hv.2
section
variable {cx:Cx} {T:Tm} {h:af} {rs:List ResultVar} {e:Exit}
theorem aD {b b':Bool} (he:e=.normal\/e=.ret) (hl:gu cx.P T h rs=some [.bool b]) (hv:b=b'):Fin cx rs 0 (fun v' h'=>v'=.bool b'/\h'=[]) e T h:=nU he hl (by rw [hv];rfl) rfl
theorem dm {k:IntKind} {n n':Int} (he:e=.normal\/e=.ret) (hl:gu cx.P T h rs=some [.int k n]) (hv:n=n'):Fin cx rs 0 (fun v' h'=>v'=.int k n'/\h'=[]) e T h:=nU he hl (by rw [hv];rfl) rfl
theorem AW {s s':List UInt8} (he:e=.normal\/e=.ret) (hl:gu cx.P T h rs=some [.str s]) (hv:s=s'):Fin cx rs 0 (fun v' h'=>v'=.str s'/\h'=[]) e T h:=nU he hl (by rw [hv];rfl) rfl
end
section
variable {a b:UInt8} {x y:Int} (ha:((a.toNat:Nat):Int)=x) (hb:((b.toNat:Nat):Int)=y)
include ha hb
end
theorem bf {α:Type} {enc:α->aa} (h:af) (he:∀ x,(enc x).frz h=enc x):∀ l:List α,aN h (l.map enc)=l.map enc
 | []=>rfl
 | x::l=>by simp [aN,he,bf h he l]
theorem cG {α:Type} {enc:α->aa} (k:Nat) (he:∀ x,(enc x).bel k=true):∀ l:List α,aC k (l.map enc)=true
 | []=>rfl
 | x::l=>by simp [aC,he,cG k he l]
theorem cj {α:Type} {enc:α->aa} (he:∀ x,(enc x).owns=[]):∀ l:List α,aF (l.map enc)=[]
 | []=>rfl
 | x::l=>by simp [aF,he,cj he l]
@[simp] theorem pU (h:af) (l:List (List UInt8)):aN h (l.map .str)=l.map .str:=bf h (fun _=>rfl) l
@[simp] theorem mI (k:Nat) (l:List (List UInt8)):aC k (l.map .str)=true:=cG k (fun _=>rfl) l
@[simp] theorem sK (l:List (List UInt8)):aF (l.map .str)=[]:=cj (fun _=>rfl) l
@[simp] theorem RZ (h:af) (k:IntKind) (l:List Int):aN h (l.map (.int k))=l.map (.int k):=bf h (fun _=>rfl) l
@[simp] theorem R7 (j:Nat) (k:IntKind) (l:List Int):aC j (l.map (.int k))=true:=cG j (fun _=>rfl) l
@[simp] theorem Rs (k:IntKind) (l:List Int):aF (l.map (.int k))=[]:=cj (fun _=>rfl) l
attribute [simp] aN aa.frz aC aa.bel aF aa.owns db
end
section
def aL {κ α:Type} [DecidableEq κ] (k:κ):List (κ×α)->Option α
 | []=>none
 | p::l=>if k=p.1 then some p.2 else aL k l
def bJ {κ α:Type} [DecidableEq κ] (k:κ) (v:α):List (κ×α)->List (κ×α)
 | []=>[(k,v)]
 | p::l=>if k=p.1 then (k,v)::l else p::bJ k v l
def ay {κ α:Type} (ek:κ->aa) (ev:α->aa) (l:List (κ×α)):List (aa×aa):=l.map fun p=>(ek p.1,ev p.2)
section
variable {κ α:Type} [DecidableEq κ] {ek:κ->aa} {ev:α->aa}
theorem j7 {v:α} (he:∀ a b,fG (ek a) (ek b)=some (decide (a=b))) (k:κ):∀ (l:List (κ×α)) (i:Nat),
 (aL k l=none/\jG (ek k) (ay ek ev l) i=some none/\ay ek ev (bJ k v l)=ay ek ev l++[(ek k,ev v)]) \/
 ∃ n x,aL k l=some x/\jG (ek k) (ay ek ev l) i=some (some (i+n,ev x))/\ay ek ev (bJ k v l)=(ay ek ev l).set n (ek k,ev v)
 | [],i=>.inl ⟨rfl,rfl,rfl⟩
 | p::l,i=>by
  by_cases e:k=p.1
  . right;refine ⟨0,p.2,by simp [aL,e],?_,by simp [bJ,ay,e]⟩;simp only [ay,List.map_cons,jG,he,decide_eq_true e,Nat.add_zero]
  . rcases j7 he k l (i+1) (v:=v) with ⟨h1,h2,h3⟩|⟨n,x,h1,h2,h3⟩
    . left;refine ⟨by simp [aL,e,h1],?_,?_⟩
      . simp only [ay,List.map_cons,jG,he,decide_eq_false e];exact h2
      . simp only [bJ,if_neg e];simp only [ay,List.map_cons,List.cons_append] at h3 ⊢;rw [h3]
    . right;refine ⟨n+1,x,by simp [aL,e,h1],?_,?_⟩
      . simp only [ay,List.map_cons,jG,he,decide_eq_false e];rw [show i+(n+1)=i+1+n by omega];exact h2
      . simp only [bJ,if_neg e];simp only [ay,List.map_cons,List.set_cons_succ] at h3 ⊢;rw [h3]
variable {P:Program} {h:af} {env:Operand->aa} {op:Op}
theorem kV {t kt et:Nat} {a b a1 b1 a2 b2:Nat} {z z1:aa} {k1:TyK} {ei:TyI} {o:Nat} {l:List (κ×α)} {k:κ} {ok:Bool} (he:∀ a b,fG (ek a) (ek b)=some (decide (a=b))) (hv:v8 env op=some (t,.map o,ek k,ok)) (ht:aP P t=some ⟨.map kt et,a,b,z⟩) (hk:aP P kt=some ⟨k1,a1,b1,z1⟩) (hko:k1.keyOk (ek k)=true) (hel:aP P et=some ei)
 (ho:h[o]?=some (.map (ay ek ev l))) (d:α) (hd:ei.zero=ev d):aop P h env op=some (if ok then .tup [ev ((aL k l).getD d),.bool (aL k l).isSome] else ev ((aL k l).getD d),h):=by
 unfold v8 at hv;split at hv <;> simp at hv;obtain ⟨rfl,h2,h3,rfl⟩:=hv;simp only [aop,h2,h3,ir,ht,hk,hel,hko,if_true,ho];rcases j7 (ev:=ev) (v:=d) he k l 0 with ⟨h1,h4,_⟩|⟨n,x,h1,h4,_⟩
 . rw [h4,h1];simp [dI,hd]
 . rw [h4,h1];simp [dI]
theorem sh {t kt et:Nat} {a b a1 b1:Nat} {z z1:aa} {k1:TyK} {ei:TyI} {o:Nat} {l:List (κ×α)} {k:κ} {ok:Bool} (he:∀ a b,fG (ek a) (ek b)=some (decide (a=b))) (hm:aL k l=none) (hv:v8 env op=some (t,.map o,ek k,ok)) (ht:aP P t=some ⟨.map kt et,a,b,z⟩) (hk:aP P kt=some ⟨k1,a1,b1,z1⟩) (hko:k1.keyOk (ek k)=true) (hel:aP P et=some ei)
 (ho:h[o]?=some (.map (ay ek ev l))):aop P h env op=some (if ok then .tup [ei.zero,.bool false] else ei.zero,h):=by
 unfold v8 at hv;split at hv <;> simp at hv;obtain ⟨rfl,h2,h3,rfl⟩:=hv;simp only [aop,h2,h3,ir,ht,hk,hel,hko,if_true,ho];cases l with
 | nil=>simp [ay,jG,dI]
 | cons p l =>
  rcases j7 (ev:=ev) (v:=p.2) he k (p::l) 0 with ⟨h1,h4,_⟩|⟨n,x,h1,h4,_⟩
  . rw [h4];simp [dI]
  . rw [hm] at h1;cases h1
theorem xf {t kt et:Nat} {a b a1 b1:Nat} {z z1:aa} {k1:TyK} {ei:TyI} {o:Nat} {l:List (κ×α)} {k:κ} {x:α} {ok:Bool} (he:∀ a b,fG (ek a) (ek b)=some (decide (a=b))) (hm:aL k l=some x) (hv:v8 env op=some (t,.map o,ek k,ok)) (ht:aP P t=some ⟨.map kt et,a,b,z⟩) (hk:aP P kt=some ⟨k1,a1,b1,z1⟩) (hko:k1.keyOk (ek k)=true) (hel:aP P et=some ei)
 (ho:h[o]?=some (.map (ay ek ev l))):aop P h env op=some (if ok then .tup [ev x,.bool true] else ev x,h):=by
 unfold v8 at hv;split at hv <;> simp at hv;obtain ⟨rfl,h2,h3,rfl⟩:=hv;simp only [aop,h2,h3,ir,ht,hk,hel,hko,if_true,ho];rcases j7 (ev:=ev) (v:=x) he k l 0 with ⟨h1,h4,_⟩|⟨n,y,h1,h4,_⟩
 . rw [hm] at h1;cases h1
 . rw [hm] at h1;cases h1;rw [h4];simp [dI]
theorem c5 {t kt et:Nat} {a b a1 b1:Nat} {z z1:aa} {k1:TyK} {o:Nat} {l:List (κ×α)} {k:κ} {x:α} (he:∀ a b,fG (ek a) (ek b)=some (decide (a=b))) (hv:VL env op=some (t,.map o,ek k,ev x)) (ht:aP P t=some ⟨.map kt et,a,b,z⟩) (hk:aP P kt=some ⟨k1,a1,b1,z1⟩) (hko:k1.keyOk (ek k)=true)
 (ho:h[o]?=some (.map (ay ek ev l))) (hn:Bv h o=true):aop P h env op=some (.any,h.set o (.map (ay ek ev (bJ k x l)))):=by
 have key:cW P h t (.map o) (ek k) (ev x)=some (h.set o (.map (ay ek ev (bJ k x l)))):=by
  simp only [cW,ht,hk,ho];rw [if_pos ⟨hko,hn⟩];rcases j7 (ev:=ev) (v:=x) he k l 0 with ⟨h1,h4,h5⟩|⟨n,y,h1,h4,h5⟩
  . rw [h4,h5]
  . rw [h4,h5];simp
 unfold VL at hv;split at hv <;> simp at hv
 . obtain ⟨rfl,h2,h3,h4⟩:=hv;simp only [aop,h2,h3,h4,key,rK]
 . obtain ⟨rfl,h2,h3,h4⟩:=hv;simp only [aop,h2,h3,h4,key,rK]
theorem Qz {t kt et:Nat} {a b:Nat} {z:aa} {o:Nat} {l:List (κ×α)} (hv:uU env op=some (.len,[t],[.map o])) (ht:aP P t=some ⟨.map kt et,a,b,z⟩) (ho:h[o]?=some (.map (ay ek ev l))):aop P h env op=some (.int .i64 (l.length:Nat),h):=by
 rw [iE hv];simp [dT,ht,TyK.lenOk,xN,ho,ay]
end
theorem E4 (a b:Int):fG (.int .i64 a) (.int .i64 b)=some (decide (a=b)):=by simp [fG];rfl
theorem eN (a b:List UInt8):fG (.str a) (.str b)=some (decide (a=b)):=by
 simp only [fG];congr 1;rw [Bool.eq_iff_iff];simp
mutual
theorem sT {r:Nat->Nat} {k:Nat} (hr:∀ i,i<k->r i=i):∀ x:aa,x.bel k=true->x.ren r=x
 | .agg cs,h=>by simp only [aa.ren,fa hr cs h]
 | .tup cs,h=>by simp only [aa.ren,fa hr cs h]
 | .ptr o _,h=>by simp only [aa.ren,hr o (by simpa [aa.bel] using h)]
 | .pimm cs _,h=>by simp only [aa.ren,fa hr cs h]
 | .pown o _ _ _,h=>by simp only [aa.ren,hr o (by simpa [aa.bel] using h)]
 | .imm l,h=>by simp only [aa.ren,fa hr l h]
 | .full l,h=>by simp only [aa.ren,fa hr l h]
 | .own o _ _,h=>by simp only [aa.ren,hr o (by simpa [aa.bel] using h)]
 | .map o,h=>by simp only [aa.ren,hr o (by simpa [aa.bel] using h)]
 | .fn _ xs ys,h=>by
  simp only [aa.bel,Bool.and_eq_true] at h;simp only [aa.ren,fa hr xs h.1,fa hr ys h.2]
 | .itr o,h=>by simp only [aa.ren,hr o (by simpa [aa.bel] using h)]
 | .iface _ v,h=>by simp only [aa.ren,sT hr v h]
 | .any,_=>rfl
 | .bool _,_=>rfl
 | .int _ _,_=>rfl
 | .str _,_=>rfl
 | .nilp,_=>rfl
 | .nilm,_=>rfl
 | .nilfn,_=>rfl
 | .nili,_=>rfl
theorem fa {r:Nat->Nat} {k:Nat} (hr:∀ i,i<k->r i=i):∀ xs:List aa,aC k xs=true->bX r xs=xs
 | [],_=>rfl
 | x::xs,h=>by
  simp only [aC,Bool.and_eq_true] at h;simp only [bX,sT hr x h.1,fa hr xs h.2]
end
theorem sb {r:Nat->Nat} {k:Nat} (hr:∀ i,i<k->r i=i):∀ es:List (aa×aa),(es.all fun e=>e.1.bel k && e.2.bel k)=true->nY r es=es
 | [],_=>rfl
 | e::es,h=>by
  simp only [List.all_cons,Bool.and_eq_true] at h;simp only [nY,sT hr _ h.1.1,sT hr _ h.1.2,sb hr es h.2]
theorem D5 {r:Nat->Nat} {k:Nat} (hr:∀ i,i<k->r i=i) (x:am) (h:x.belO k=true):x.ren r=x:=by
 cases x <;> simp only [am.ren,am.belO] at h ⊢
 . rw [fa hr _ h]
 . rw [fa hr _ h]
 . rw [sb hr _ h]
 . grind
theorem D0 {r:Nat->Nat} {k:Nat} (hr:∀ i,i<k->r i=i):∀ hs:af,hs.all (am.belO k)=true->gL r hs=hs
 | [],_=>rfl
 | x::hs,h=>by
  simp only [List.all_cons,Bool.and_eq_true] at h;simp only [gL,D5 hr x h.1,D0 hr hs h.2]
theorem oO:∀ (xs hs rest:af) (pre:af),xs.length=hs.length->dG (pre++hs++rest) (List.range' pre.length hs.length) xs=pre++xs++rest
 | [],[],rest,pre,_=>by simp [dG]
 | [],_::_,_,_,h=>by simp at h
 | _::_,[],_,_,h=>by simp at h
 | x::xs,y::hs,rest,pre,h=>by
  have e:(pre++(y::hs)++rest).set pre.length x=(pre++[x])++hs++rest:=by simp
  rw [List.length_cons,List.range'_succ,dG,e];have:=oO xs hs rest (pre++[x]) (by simpa using h)
  grind
def jE:af->Bool
 | []=>true
 | .iter _ _::_=>false
 | _::h=>jE h
theorem lS:∀ {h:af} {o m:Nat} {left:List Nat×Option Nat},jE h=true->h[o]?=some (.iter m left)->False
 | [],o,m,left,_,ho=>by simp at ho
 | x::h,0,m,left,hn,ho=>by
  simp at ho;subst ho;simp [jE] at hn
 | x::h,o+1,m,left,hn,ho=>by
  simp at ho;cases x <;> simp [jE] at hn <;> exact lS hn ho
section
variable {cx:Cx}
theorem CA {f:FuncId} {args:List aa} {hs hs' rest:af} {v:aa} (hc:av cx f args hs fun v' h'=>v'=v/\h'=hs') (hb:aC hs.length args=true) (ho:hs.all (am.belO hs.length)=true) (hl:hs'.length=hs.length) (hv:v.bel hs.length=true) (ho':hs'.all (am.belO hs.length)=true) (hn:jE rest=true) :
 av cx f args (hs++rest) fun v' h'=>v'=v/\h'=hs'++rest:=by
 have hr:∀ i,i<hs.length->cb (List.range' 0 hs.length) (hs++rest).length i=i:=by
  intro i hi;exact dx _ (by rw [List.getElem?_range' oq];simp)
 have le:uV (hs++rest) (List.range' 0 hs.length) hs:=by
  refine ⟨by simp,List.nodup_range',?_,ho,?_⟩
  . intro i o x hi hx;have hlt:i<hs.length:=(List.getElem?_eq_some_iff.1 hx).1;rw [List.getElem?_range' hlt] at hi;simp at hi;subst hi;rw [D5 hr x (List.all_eq_true.1 ho x (List.mem_of_getElem? hx)),List.getElem?_append_left hlt];exact hx
  . intro o m left hit hnin;exfalso;rcases Nat.lt_or_ge o hs.length with hlt|hge
    . grind
    . rw [List.getElem?_append_right hge] at hit;exact lS hn hit
 have:=gE (K:=fun v' h'=>v'=v/\h'=hs'++rest) le hc hb (by
  rintro v' hs1 _ ⟨rfl,rfl⟩;refine ⟨sT hr _ hv,?_⟩;unfold eY;have h1:hs1.take (List.range' 0 hs.length).length=hs1:=by rw [List.take_of_length_le];simp;omega
  have h2:hs1.drop (List.range' 0 hs.length).length=[]:=by rw [List.drop_eq_nil_of_le];simp;omega
  rw [h1,h2,D0 hr _ ho'];have:=oO hs1 hs rest [] hl;simp only [List.nil_append,List.length_nil] at this;rw [this];simp [gL])
 rwa [fa hr _ hb] at this
variable {l:List BOp} {K:Tm->af->Prop} {S:RSt}
theorem PN {f:FuncId} {args:List aa} {hs hs' rest:af} {v:aa} (hc:bj l=true) (hg:bt S.1 (hdB l).g=some true) (ho:aop cx.P S.2 (bU cx S) (hdB l).op=none) (ha:aI (bU cx S) (hdB l).op=some (f,args)) (hS:S.2=hs++rest) (hq:av cx f args hs fun v' h'=>v'=v/\h'=hs')
 (hb:aC hs.length args=true) (hbo:hs.all (am.belO hs.length)=true) (hl:hs'.length=hs.length) (hv:v.bel hs.length=true) (hbo':hs'.all (am.belO hs.length)=true) (hn:jE rest=true)
 (hk:bS cx l.tail (ci S.1 (hdB l).dst v,hs'++rest) K):bS cx l S K:=by
 refine Bf hc hg ho ha (q:=fun v' h'=>v'=v/\h'=hs'++rest) ?_ (by rintro v' h' ⟨rfl,rfl⟩;exact hk);rw [hS];exact CA hq hb hbo hl hv hbo' hn
end
def VH (env:Operand->aa):Op->Option (Nat×aa)
 | .range t x=>some (t,env x)
 | _=>none
def Sv (env:Operand->aa):Op->Option aa
 | .next it false=>some (env it)
 | _=>none
def UT (env:Operand->aa):Op->Option aa
 | .entry it=>some (env it)
 | _=>none
section
variable {cx:Cx} {bl:List BOp} {K:Tm->af->Prop} {S:RSt} {κ α:Type} {ek:κ->aa} {ev:α->aa} {l:List (κ×α)}
theorem Do (d:κ×α) (i:Nat) (h:i<l.length):(ay ek ev l)[i]?=some (ek (l.getD i d).1,ev (l.getD i d).2):=by
 simp only [ay];rw [List.getElem?_map,ny l i d h];rfl
theorem KM {t kt et a b m:Nat} {z:aa} (hc:bj bl=true) (hg:bt S.1 (hdB bl).g=some true) (hv:VH (bU cx S) (hdB bl).op=some (t,.map m)) (ht:aP cx.P t=some ⟨.map kt et,a,b,z⟩) (hm:S.2[m]?=some (.map (ay ek ev l)))
 (hk:bS cx bl.tail (ci S.1 (hdB bl).dst (.itr S.2.length),S.2++[.iter m (List.range l.length,none)]) K):bS cx bl S K:=by
 generalize ho:(hdB bl).op=o at hv;unfold VH at hv;split at hv <;> simp at hv;obtain ⟨rfl,hv⟩:=hv;refine lY hc hg (L:=[(.itr S.2.length,S.2++[.iter m (List.range l.length,none)])]) (by rw [ho];rfl) (by rw [ho];rfl) ?_ ?_
 . rw [ho];simp only [anx,ht,hv,hm];simp [ay]
 . grind
theorem Ko {o m:Nat} {lf:List Nat} {la:Option Nat} (d:κ×α) (hc:bj bl=true) (hg:bt S.1 (hdB bl).g=some true) (hv:Sv (bU cx S) (hdB bl).op=some (.itr o)) (hi:S.2[o]?=some (.iter m (lf,la))) (hm:S.2[m]?=some (.map (ay ek ev l)))
 (h0:lf=[]->bS cx bl.tail (FZ S (hdB bl).dst (.tup [.bool false])) K)
 (h1:∀ i,i∈lf->i<l.length->bS cx bl.tail (UA S (hdB bl).dst (.tup [.bool true,ek (l.getD i d).1,ev (l.getD i d).2]) o (.iter m (lf.filter (fun j=>!(Nat.beq j i)),some i))) K):bS cx bl S K:=by
 generalize ho:(hdB bl).op=op at hv;unfold Sv at hv;split at hv <;> simp at hv;cases lf with
 | nil =>
  refine lY hc hg (L:=[(.tup [.bool false],S.2)]) (by rw [ho];rfl) (by rw [ho];rfl) ?_ ?_
  . rw [ho];simp only [anx,hv,hi,hm]
  . intro r hr;rw [List.mem_singleton] at hr;subst hr;exact h0 rfl
 | cons i0 l0 =>
  refine lY hc hg (L:=(i0::l0).filterMap fun i=>((ay ek ev l)[i]?).map fun kv=>(.tup [.bool true,kv.1,kv.2],S.2.set o (.iter m ((i0::l0).filter (fun j=>!(Nat.beq j i)),some i)))) (by rw [ho];rfl) (by rw [ho];rfl) ?_ ?_
  . rw [ho];simp only [anx,hv,hi,hm]
  . intro r hr;obtain ⟨i,hin,hri⟩:=List.mem_filterMap.1 hr;by_cases hlt:i<l.length
    . rw [Do d i hlt] at hri;simp only [Option.map_some,Option.some.injEq] at hri;subst hri;exact h1 i hin hlt
    . rw [List.getElem?_eq_none (by simp [ay];omega)] at hri;simp at hri
theorem Ec {o m i:Nat} {lf:List Nat} (d:κ×α) (hc:bj bl=true) (hg:bt S.1 (hdB bl).g=some true) (hv:UT (bU cx S) (hdB bl).op=some (.itr o)) (hi:S.2[o]?=some (.iter m (lf,some i))) (hm:S.2[m]?=some (.map (ay ek ev l))) (hlt:i<l.length)
 (hk:bS cx bl.tail (FZ S (hdB bl).dst (.tup [ek (l.getD i d).1,ev (l.getD i d).2])) K):bS cx bl S K:=by
 generalize ho:(hdB bl).op=op at hv;unfold UT at hv;split at hv <;> simp at hv;refine lY hc hg (L:=[(.tup [ek (l.getD i d).1,ev (l.getD i d).2],S.2)]) (by rw [ho];rfl) (by rw [ho];rfl) ?_ ?_
 . rw [ho];simp only [anx,hv,hi,hm,Do d i hlt]
 . intro r hr;rw [List.mem_singleton] at hr;subst hr;exact hk
end
theorem aO {cx:Cx} {T:Tm} {h hs:af} {m:Nat} {rs:List ResultVar} {e:Exit} {l:List aa} {v:aa} (he:e=.normal\/e=.ret) (hl:gu cx.P T h rs=some l) (hv:(aZ l).frz h=v) (ho:(aZ l).owns=[]) (hb:v.bel m=true) (hh:h.take m=hs) (hbo:hs.all (am.belO m)=true) :
 Fin cx rs m (fun v' h'=>v'=v/\h'=hs) e T h :=
 ⟨he,l,hl,m,Nat.le_refl _,by rw [hv];exact hb,by rw [ho];simp only [db];rw [hh];exact hbo,hv,by rw [ho];exact hh⟩
end
section
open Go
section
variable {cx:Cx} {n m:Nat} {T:Tm} {h:af} {Q:cP}
theorem JM (h:af) (l:List aa):(aN h l).length=l.length:=by rw [cm,List.length_map]
theorem qV (o:Nat) {sz fr:Nat} {es:List aa} (es':List aa) (ho:h[o]?=some (.arr sz es fr)) (hw:aF es=[]) (he:aN [] es=es') {d:Code}
 (hk:wpA cx n m d Q T (h.set o (.arr sz es' fr))):wpA cx n m d Q T h:=by
 intro E B ρ a w hm hr;have hlt:=(List.getElem?_eq_some_iff.1 ho).1;have hl:es'.length=es.length:=by rw [<- he,JM]
 have he':aN h es=es':=by rw [<- he];exact cV h [] es hw
 have hor:=hr.wf.obj o _ ho
 have hst:=ce (h':=h.set o (.arr sz es' fr)) (w':=w) hr.wf hr.fr o (.arr sz es' fr) (ρ.loc o) ρ.I (by rw [List.getElem?_set_self hlt]) (fun o' ho'=>aY _ _ _ _ ho')
  rfl rfl rfl (Nat.le_refl _) (fun _ _ _=>rfl) (fun x hx=>by rw [ho] at hx;cases hx;exact ⟨by omega,fun _=>⟨rfl,rfl⟩⟩)
  (fun b j hI=>⟨hI,rfl⟩) (fun b j hI=>.inl hI)
  (fun hb=>.inr ⟨_,ho,hb,rfl⟩) (fun j hb hI=>hr.wf.imm o (.arr sz es fr) j ho hb hI)
  (fun o' m' left _ hi=>by
   rintro rfl;obtain ⟨_,_,_,_,es0,_,_,h2,_⟩:=hr.wf.obj o' _ hi;rw [ho] at h2;cases h2)
  (fun le=>by
   obtain ⟨h1,h2,h3,h4,h5⟩:=hor;refine ⟨by omega,by omega,h3,?_,fun hc=>?_⟩
   . intro i x hx;rw [<- he',cm] at hx;simp at hx;obtain ⟨y,g1,rfl⟩:=hx;rw [fj];simpa using h4 i y g1
   . obtain ⟨c,t,h6,h7,h8⟩:=h5 hc;refine ⟨c,t,h6,h7,?_⟩;intro i x j y v hx hy hv;rw [<- he',cm] at hx;simp at hx;obtain ⟨x0,g1,rfl⟩:=hx;rw [fj] at hy;simp at hy;obtain ⟨y0,g2,rfl⟩:=hy;refine VR.frz (ids:=[]) le zq (h8 i x0 j y0 v g1 g2 hv) ?_;intro o1 ho1;have:=dO g1 o1 (nB g2 o1 ho1);rw [hw] at this;exact this)
 exact hk E B _ a w hm (hr.step hst.1 hst.2.1 hst.2.2)
theorem Ax (t:Nat) (x y:aa) (hx:Tm.get T t=x) (hw:x.owns=[]) (he:x.frz []=y) {d:Code} (hk:wpA cx n m d Q ((t,y)::T) h):wpA cx n m d Q T h:=by
 intro E B ρ a w hm hr;refine hk E B ρ a w hm ⟨fun t'=>?_,hr.size,hr.defers,hr.glob,hr.wf,hr.fr,hr.le⟩;simp only [Tm.get];by_cases e:t=t'
 . subst e;rw [if_pos rfl,<- he,<- mE h [] x hw,<- hx];exact VR.frz (ids:=[]) (Le.refl _ _ _) zq (hr.tm t) (by rw [hx,hw];simp)
 . rw [if_neg e];exact hr.tm t'
theorem kj {P:Program} {ev:Operand->aa} {op:Op} {h:af} {α:Type} {enc:α->aa} {l:List α} {xs:List aa} {t t' e:Nat} {o len:Nat} {a b a' b' a2 b2 sz fr:Nat} {z z' z2:aa} {ek k2:TyK} {e2:Nat} {x:aa} (hv:uU ev op=some (.append,[t,t'],[.own o 0 len,x])) (ht:aP P t=some ⟨.slice e,a,b,z⟩) (he:aP P e=some ⟨ek,a',b',z'⟩) (ht':aP P t'=some ⟨k2,a2,b2,z2⟩) (hk2:k2=.slice e2)
 (ho:h[o]?=some (.arr sz (l.map enc) fr)) (hsz:sz=a') (hl:len=l.length) (hx:fz h x=some xs) (hz:0<a'/\z'.cells.length=a') (hok:gk a' xs=true) (hf:(l.length+xs.length) * b'<=140737488355328) (hf2:l.length+xs.length<=140737488355328) :
 aop P h ev op=some (.own o 0 (l.length+xs.length),h.set o (.arr sz (l.map enc++xs) fr)):=by
 have:=tM (h:=h) hv ht he ht' hk2 ho hsz (by rw [hl,List.length_map]) hx ⟨hz.1,hz.2,hok⟩ (by rw [hl];simp [iC];exact ⟨hf,hf2⟩);rw [this,hl]
end
end
section
open Go
section
variable {cx:Cx} {h:af}
theorem ID:uV h [] []:=⟨rfl,List.nodup_nil,fun i o x hi=>by simp at hi,rfl,fun _ _ _ _ _=>by simp⟩
abbrev pz (h:af):=cb [] h.length
theorem qi {f:FuncId} {args args':List aa} {Q:aa->af->Prop} (hc:av cx f args' [] Q) (ha:aN h args=args') (hb:aC 0 args'=true) :
 av cx f args h (fun v h'=>∃ V G,Q V G/\v=V.ren (pz h)/\h'=db h (aF args)++gL (pz h) G):=by
 refine nv ?_;rw [ha];have:=gE (h:=db h (aF args)) (L:=[]) (hs:=[]) (K:=fun v h'=>∃ V G,Q V G/\v=V.ren (pz h)/\h'=db h (aF args)++gL (pz h) G) ID hc hb ?_
 . rwa [dA _ _ hb] at this
 . intro v hs' _ hq;exact ⟨v,hs',hq,by rw [eE],by simp [eY,dG,eE]⟩
theorem xS {f:FuncId} {args args':List aa} {V:aa} {G:af} (hc:av cx f args' [] fun v' g'=>v'=V/\g'=G) (ha:aN h args=args') (hb:aC 0 args'=true) :
 av cx f args h (fun v h'=>v=V.ren (pz h)/\h'=db h (aF args)++gL (pz h) G) :=
 (qi hc ha hb).mono (by rintro v h' ⟨_,_,⟨rfl,rfl⟩,h2,h3⟩;exact ⟨h2,h3⟩)
variable {l:List BOp} {K:Tm->af->Prop} {S:RSt}
theorem Vc {f:FuncId} {args args':List aa} {Q:aa->af->Prop} (hc:bj l=true) (hg:bt S.1 (hdB l).g=some true) (ho:aop cx.P S.2 (bU cx S) (hdB l).op=none) (ha:aI (bU cx S) (hdB l).op=some (f,args)) (hq:av cx f args' [] Q) (hf:aN S.2 args=args') (hb:aC 0 args'=true)
 (hk:∀ V G,Q V G->bS cx l.tail (ci S.1 (hdB l).dst (V.ren (cb [] S.2.length)),db S.2 (aF args)++gL (cb [] S.2.length) G) K):bS cx l S K :=
 Bf hc hg ho ha (qi hq hf hb) (by rintro v h' ⟨V,G,h1,rfl,rfl⟩;exact hk V G h1)
variable {KD:List (List Nat×List Nat)->Tm->af->Prop} {s:DSt}
def tz (h:af) (args:List aa) (G:af):List Nat:=aF args++(List.range G.length).map (h.length + ·)
theorem Ta {f:FuncId} {args args':List aa} {V:aa} {G:af} (hc:bj l=true) (hg:bt s.2.1 (hdB l).g=some true) (hal:fv (hdB l).op=false) (ho:aop cx.P s.2.2.1 (aev cx.G s.2.1) (hdB l).op=none) (ha:aI (aev cx.G s.2.1) (hdB l).op=some (f,args))
 (hq:av cx f args' [] fun v' g'=>v'=V/\g'=G) (hf:aN s.2.2.1 args=args') (hb:aC 0 args'=true) (hG:0<G.length)
 (hk:bdr cx l.tail (s.1,ci s.2.1 (hdB l).dst (V.ren (cb [] s.2.2.1.length)),db s.2.2.1 (aF args)++gL (cb [] s.2.2.1.length) G,s.2.2.2++[(tz s.2.2.1 args G,tz s.2.2.1 args G)]) KD):bdr cx l s KD:=by
 refine Hs hc hg hal ho ha ⟨?_,xS hq hf hb,?_⟩ hk
 . intro o hn;simp only [tz,List.mem_append,not_or] at hn;rcases Nat.lt_or_ge o s.2.2.1.length with h1|h1
   . rw [List.getElem?_append_left (by rw [eE];exact h1),kO _ _ _ hn.1]
   . rw [List.getElem?_append_right (by rw [eE];exact h1),List.getElem?_eq_none h1,eE];refine List.getElem?_eq_none ?_;rw [jl,List.length_map];rcases Nat.lt_or_ge (o - s.2.2.1.length) G.length with h2|h2
     . exact (hn.2 (List.mem_map.2 ⟨o - s.2.2.1.length,List.mem_range.2 h2,by omega⟩)).elim
     . exact h2
 . intro he;simp only [tz,List.append_eq_nil_iff,List.map_eq_nil_iff] at he
   grind
end
mutual
def aa.refs:aa->List Nat
 | .agg cs=>ep cs
 | .tup cs=>ep cs
 | .ptr o _=>[o]
 | .pimm cs _=>ep cs
 | .pown o _ _ _=>[o]
 | .imm l=>ep l
 | .full l=>ep l
 | .own o _ _=>[o]
 | .map o=>[o]
 | .fn _ xs ys=>ep xs++ep ys
 | .itr o=>[o]
 | .iface _ v=>v.refs
 | _=>[]
def ep:List aa->List Nat
 | []=>[]
 | x::xs=>x.refs++ep xs
end
theorem dL:∀ {l:List aa} {i:Nat} {x:aa},l[i]?=some x->∀ o∈x.refs,o∈ep l
 | y::l,0,x,h,o,ho=>by simp at h;subst h;simp [ep,ho]
 | y::l,i+1,x,h,o,ho=>by simp at h;simp [ep,dL h o ho]
theorem nH {x y:aa} {j:Nat} (hy:x.cells[j]?=some y):∀ o∈y.refs,o∈x.refs:=by
 intro o ho
 cases x <;> simp only [aa.cells] at hy <;> first
  | (simp only [aa.refs];exact dL hy o ho)
  | (cases j with
   | zero=>simp at hy;subst hy;exact ho
   | succ j=>simp at hy)
def am.refs:am->List Nat
 | .box cs=>ep cs
 | .arr _ es _=>ep es
 | .map es=>es.flatMap fun e=>e.1.refs++e.2.refs
 | _=>[]
def am.isIter:am->Bool
 | .iter _ _=>true
 | _=>false
section
variable {ρ ρ':Ren} {g h:af} {w:World} {r:Nat->Nat}
theorem VR.ren2 {x:aa} {v:Value} (hx:VR ρ g w x v) (hI:∀ b j,ρ.I b j->ρ'.I b j) (ho:∀ o∈x.refs,∀ y,g[o]?=some y->y.isIter=false/\h[r o]?=some (y.ren r)/\ρ'.loc (r o)=ρ.loc o):VR ρ' h w (x.ren r) v:=by
 induction hx with
 | any v=>exact .any v
 | bool b=>exact .bool b
 | int k n=>exact .int k n
 | str s=>exact .str s
 | agg cs vs hl _ ih =>
  simp only [aa.ren,aB];refine .agg _ vs (by simpa using hl) fun i x v a b=>?_
  simp at a;obtain ⟨y,h1,rfl⟩:=a;exact ih i y v h1 b (fun o hm=>ho o (by simp only [aa.refs];exact dL h1 o hm))
 | tup cs vs hl _ ih =>
  simp only [aa.ren,aB];refine .tup _ vs (by simpa using hl) fun i x v a b=>?_
  simp at a;obtain ⟨y,h1,rfl⟩:=a;exact ih i y v h1 b (fun o hm=>ho o (by simp only [aa.refs];exact dL h1 o hm))
 | nilp=>exact .nilp
 | ptr o off cs hq =>
  obtain ⟨_,h1,h2⟩:=ho o (by simp [aa.refs]) _ hq;rw [<- h2];exact .ptr _ off _ h1
 | pimm cs off b base val hc _ ih =>
  simp only [aa.ren,aB];refine .pimm _ off b base val ?_ ?_
  . intro j y hy;simp at hy;obtain ⟨y0,h1,rfl⟩:=hy;exact ⟨hI _ _ (hc j y0 h1).1,(hc j y0 h1).2⟩
  . intro j y hy;simp at hy;obtain ⟨y0,h1,rfl⟩:=hy;exact ih j y0 h1 (fun o hm=>ho o (by simp only [aa.refs];exact dL h1 o hm))
 | pown o idx off n a sz es fr hq hv =>
  obtain ⟨_,h1,h2⟩:=ho o (by simp [aa.refs]) _ hq;refine .pown _ idx off n a sz _ fr h1 ?_;rw [aB,List.length_map,h2];exact hv
 | imm l a cap sz b off val hcap ha hsz hc _ ih =>
  simp only [aa.ren,aB]
  have:VR ρ' h w (.imm (l.map (aa.ren r))) (.slice a (l.map (aa.ren r)).length cap):=by
   refine .imm _ a cap sz b off val (by simpa using hcap) (by simpa using ha) ?_ ?_ ?_
   . intro i x hx;simp at hx;obtain ⟨y,h1,rfl⟩:=hx;rw [bv];simpa using hsz i y h1
   . intro i x j y hx hy;simp at hx;obtain ⟨x0,h1,rfl⟩:=hx;rw [bv] at hy;simp at hy;obtain ⟨y0,h2,rfl⟩:=hy;exact ⟨hI _ _ (hc i x0 j y0 h1 h2).1,(hc i x0 j y0 h1 h2).2⟩
   . intro i x j y hx hy;simp at hx;obtain ⟨x0,h1,rfl⟩:=hx;rw [bv] at hy;simp at hy;obtain ⟨y0,h2,rfl⟩:=hy;exact ih i x0 j y0 h1 h2 (fun o hm=>ho o (by simp only [aa.refs];exact dL h1 o (nH h2 o hm)))
  simpa using this
 | full l a sz b off val ha hsz hc _ ih =>
  simp only [aa.ren,aB]
  have:VR ρ' h w (.full (l.map (aa.ren r))) (.slice a (l.map (aa.ren r)).length (l.map (aa.ren r)).length):=by
   refine .full _ a sz b off val (by simpa using ha) ?_ ?_ ?_
   . intro i x hx;simp at hx;obtain ⟨y,h1,rfl⟩:=hx;rw [bv];simpa using hsz i y h1
   . intro i x j y hx hy;simp at hx;obtain ⟨x0,h1,rfl⟩:=hx;rw [bv] at hy;simp at hy;obtain ⟨y0,h2,rfl⟩:=hy;exact ⟨hI _ _ (hc i x0 j y0 h1 h2).1,(hc i x0 j y0 h1 h2).2⟩
   . intro i x j y hx hy;simp at hx;obtain ⟨x0,h1,rfl⟩:=hx;rw [bv] at hy;simp at hy;obtain ⟨y0,h2,rfl⟩:=hy;exact ih i x0 j y0 h1 h2 (fun o hm=>ho o (by simp only [aa.refs];exact dL h1 o (nH h2 o hm)))
  simpa using this
 | own o off len a n cap sz es fr hq hv =>
  obtain ⟨_,h1,h2⟩:=ho o (by simp [aa.refs]) _ hq;refine .own _ off len a n cap sz _ fr h1 ?_;rw [aB,List.length_map,h2];exact hv
 | nilm=>exact .nilm
 | map o es hq =>
  obtain ⟨_,h1,h2⟩:=ho o (by simp [aa.refs]) _ hq;rw [<- h2];exact .map _ _ h1
 | fn f xs ys us vs hl hl' _ _ ih1 ih2 =>
  simp only [aa.ren,aB];refine .fn f _ _ us vs (by simpa using hl) (by simpa using hl') ?_ ?_
  . intro i x v a b;simp at a;obtain ⟨y,h1,rfl⟩:=a;exact ih1 i y v h1 b (fun o hm=>ho o (by simp only [aa.refs];simp [dL h1 o hm]))
  . intro i x v a b;simp at a;obtain ⟨y,h1,rfl⟩:=a;exact ih2 i y v h1 b (fun o hm=>ho o (by simp only [aa.refs];simp [dL h1 o hm]))
 | nilfn=>exact .nilfn
 | itr o m left hq =>
  have:=(ho o (by simp [aa.refs]) _ hq).1;cases this
 | iface t x v _ ih=>exact .iface t _ v (ih (fun o hm=>ho o (by simpa [aa.refs] using hm)))
 | nili=>exact .nili
theorem OR.ren2 {x:am} {l:Loc} (hx:OR ρ g w l x) (hn:x.isIter=false) (hI:∀ b j,ρ.I b j->ρ'.I b j) (ho:∀ o∈x.refs,∀ y,g[o]?=some y->y.isIter=false/\h[r o]?=some (y.ren r)/\ρ'.loc (r o)=ρ.loc o):OR ρ' h w l (x.ren r):=by
 cases x with
 | hole=>trivial
 | iter m left=>cases hn
 | box cs =>
  obtain ⟨c,t,h1,h2,h3⟩:=hx;refine ⟨c,t,h1,by rw [h2,aB,List.length_map],fun i x v a b=>?_⟩;rw [aB] at a;simp at a;obtain ⟨y,g1,rfl⟩:=a;exact (h3 i y v g1 b).ren2 hI (fun o hm=>ho o (dL g1 o hm))
 | arr sz es fr =>
  obtain ⟨h1,h2,h3,h4,h5⟩:=hx;have el:(bX r es).length=es.length:=by rw [aB,List.length_map]
  refine ⟨by omega,by omega,h3,?_,fun hc=>?_⟩
  . intro i x hx;rw [aB] at hx;simp at hx;obtain ⟨y,g1,rfl⟩:=hx;rw [bv];simpa using h4 i y g1
  . obtain ⟨c,t,h6,h7,h8⟩:=h5 hc;refine ⟨c,t,h6,h7,fun i x j y v a b d=>?_⟩;rw [aB] at a;simp at a;obtain ⟨x0,g1,rfl⟩:=a;rw [bv] at b;simp at b;obtain ⟨y0,g2,rfl⟩:=b;exact (h8 i x0 j y0 v g1 g2 d).ren2 hI (fun o hm=>ho o (dL g1 o (nH g2 o hm)))
 | map es =>
  obtain ⟨ms,clock,h1,h2,h3,h4⟩:=hx;refine ⟨ms,clock,h1,by rw [iX,List.length_map];exact h2,fun i kv e a b=>?_,h4⟩;rw [iX] at a;simp at a;obtain ⟨x,y,g1,rfl⟩:=a
  have hm:∀ o∈x.refs++y.refs,o∈(am.map es).refs:=fun o ho=>by
   simp only [am.refs,List.mem_flatMap];exact ⟨_,List.mem_of_getElem? g1,ho⟩
  obtain ⟨q1,q2,q3⟩:=h3 i _ e g1 b;exact ⟨q1.ren2 hI (fun o h=>ho o (hm o (List.mem_append_left _ h))),q2.ren2 hI (fun o h=>ho o (hm o (List.mem_append_right _ h))),q3⟩
end
end
section
open Go
def renT (r:Nat->Nat):Tm->Tm
 | []=>[]
 | p::T=>(p.1,p.2.ren r)::renT r T
theorem zr (r:Nat->Nat):∀ (T:Tm) (t:Nat),Tm.get (renT r T) t=(Tm.get T t).ren r
 | [],t=>rfl
 | p::T,t=>by
  simp only [renT,Tm.get];by_cases e:p.1=t
  . rw [if_pos e,if_pos e]
  . rw [if_neg e,if_neg e];exact zr r T t
def FQ (r:Nat->Nat):Option am->am
 | some x=>x.ren r
 | none=>.hole
def nR (r:Nat->Nat) (h:af):List Nat->af
 | []=>[]
 | o::ks=>FQ r h[o]?::nR r h ks
theorem pg (r:Nat->Nat) (h:af):∀ ks,nR r h ks=ks.map fun o=>FQ r h[o]?
 | []=>rfl
 | o::ks=>by rw [nR,pg r h ks];rfl
def KO (ks:List Nat):Option am->Prop
 | some x=>x.isIter=false/\∀ o∈x.refs,o∈ks
 | none=>False
theorem Ag {ks:List Nat}:∀ (T:Tm) (t:Nat),(∀ p∈T,∀ o∈p.2.refs,o∈ks)->∀ o∈(Tm.get T t).refs,o∈ks
 | [],t,_,o,ho=>by simp [Tm.get,aa.refs] at ho
 | p::T,t,h,o,ho=>by
  simp only [Tm.get] at ho;split at ho
  . exact h p zq o ho
  . exact Ag T t (fun q hq=>h q (by simp [hq])) o ho
section
variable {cx:Cx} {n m:Nat} {T:Tm} {h:af} {Q:cP}
theorem Ai (ks:List Nat) (T':Tm) (h':af) (hnd:ks.Nodup) (hT:∀ p∈T,∀ o∈p.2.refs,o∈ks) (hO:∀ o∈ks,KO ks h[o]?) (eT:renT (fun o=>ks.idxOf o) T=T') (eh:nR (fun o=>ks.idxOf o) h ks=h') {d:Code}
 (hk:wpA cx n 0 d Q T' h'):wpA cx n 0 d Q T h:=by
 intro E B ρ a w hm hr;subst eT eh
 let r:Nat->Nat:=fun o=>ks.idxOf o
 let ρ':Ren:=⟨fun i=>ρ.loc (ks.getD i 0),ρ.I⟩
 have hin:∀ o∈ks,∀ y,h[o]?=some y->y.isIter=false/\(nR r h ks)[r o]?=some (y.ren r)/\ρ'.loc (r o)=ρ.loc o:=by
  intro o ho y hy;have h1:=hO o ho;rw [hy] at h1;have hlt:ks.idxOf o<ks.length:=List.idxOf_lt_length_iff.2 ho;have hge:ks[ks.idxOf o]=o:=List.getElem_idxOf hlt;refine ⟨h1.1,?_,?_⟩
  . rw [pg,List.getElem?_map,List.getElem?_eq_getElem hlt,hge];simp [hy,FQ]
  . show ρ.loc (ks.getD (ks.idxOf o) 0)=ρ.loc o;rw [List.getD_eq_getElem?_getD,List.getElem?_eq_getElem hlt,hge];rfl
 have hout:∀ (i:Nat) x,(nR r h ks)[i]?=some x->∃ o y,o∈ks/\(∃ hi:i<ks.length,ks[i]=o)/\h[o]?=some y/\x=y.ren r/\ρ'.loc i=ρ.loc o:=by
  intro i x hx;rw [pg,List.getElem?_map] at hx;cases hq:ks[i]? with
  | none=>rw [hq] at hx;simp at hx
  | some o =>
   rw [hq] at hx;obtain ⟨hi,he⟩:=List.getElem?_eq_some_iff.1 hq;have hmem:o∈ks:=he▸List.getElem_mem hi;have h1:=hO o hmem;cases hy:h[o]? with
   | none=>rw [hy] at h1;exact h1.elim
   | some y =>
    simp [hy,FQ] at hx;refine ⟨o,y,hmem,⟨hi,he⟩,hy,hx.symm,?_⟩;show ρ.loc (ks.getD i 0)=ρ.loc o;rw [List.getD_eq_getElem?_getD,hq];rfl
 have hwf:WF ρ' (nR r h ks) w:=by
  refine ⟨?_,?_,?_,hr.wf.immlt,?_⟩
  . intro i x hx;obtain ⟨o,y,h1,_,h3,rfl,h5⟩:=hout i x hx;rw [h5];have h6:=hO o h1;rw [h3] at h6;exact (hr.wf.obj o y h3).ren2 h6.1 (fun _ _ h=>h) (fun o' ho' y' hy'=>hin o' (h6.2 o' ho') y' hy')
  . intro i x i' x' hx hx' hb hb' he;obtain ⟨o,y,h1,⟨hi,e1⟩,h3,rfl,h5⟩:=hout i x hx;obtain ⟨o',y',h1',⟨hi',e1'⟩,h3',rfl,h5'⟩:=hout i' x' hx';rw [b8,h5] at hb;rw [b8,h5'] at hb';rw [h5,h5'] at he;have:=hr.wf.inj o y o' y' h3 h3' hb hb' he;exact pF hnd hi hi' (by rw [e1,e1',this])
  . intro i x hx hb;obtain ⟨o,y,h1,_,h3,rfl,h5⟩:=hout i x hx;rw [b8,h5] at hb;rw [h5];exact hr.wf.lt o y h3 hb
  . intro i x j hx hb hI;obtain ⟨o,y,h1,_,h3,rfl,h5⟩:=hout i x hx;rw [b8,h5] at hb;rw [h5] at hI ⊢;rw [sQ];exact hr.wf.imm o y j h3 hb hI
 refine hk E B ρ' a w hm ⟨?_,hr.size,hr.defers,?_,hwf,?_,?_⟩
 . intro t;rw [zr];exact (hr.tm t).ren2 (fun _ _ h=>h) (fun o ho y hy=>hin o (Ag T t hT o ho) y hy)
 . intro g cs hg;have le0:Le ρ [] w ρ' [] w:=⟨fun o x hx=>by simp at hx,fun b j hI=>⟨hI,rfl⟩⟩;exact (hr.glob g cs hg).nil_mono le0
 . refine ⟨hr.fr.os,hr.fr.tape,hr.fr.output,hr.fr.size,hr.fr.keep,hr.fr.imm,hr.fr.new,?_⟩;intro i x hx hb hlt;obtain ⟨o,y,h1,_,h3,rfl,h5⟩:=hout i x hx;rw [b8,h5] at hb;rw [h5] at hlt ⊢;exact hr.fr.own o y h3 hb hlt
 . refine ⟨fun o x hx=>?_,hr.le.imm⟩;rw [List.length_eq_zero_iff.1 hm] at hx;simp at hx
theorem Rel.box {E:Ent} {B:p7} {ρ ρ1:Ren} {h1:af} {a:Act} {w:World} {b i:Nat} {cs:List aa} {y y':aa} (hr:Rel cx E B n ρ T h a w) (hr1:Rel cx E B n ρ1 T h1 a w) (ho:h[b]?=some (.box cs)) (ho1:h1[b]?=some (.box cs)) (le:Le ρ h w ρ1 h1 w) (hy:cs[i]?=some y) (hsp:∀ v,VR ρ h w y v->VR ρ1 h1 w y' v) :
 ∃ ρ',Rel cx E B n ρ' T (h1.set b (.box (cs.set i y'))) a w:=by
 have hlt:=(List.getElem?_eq_some_iff.1 ho1).1
 have hst:=ce (h':=h1.set b (.box (cs.set i y'))) (w':=w) hr1.wf hr1.fr b (.box (cs.set i y')) (ρ1.loc b) ρ1.I (by rw [List.getElem?_set_self hlt]) (fun o' ho'=>aY _ _ _ _ ho')
  rfl rfl rfl (Nat.le_refl _) (fun _ _ _=>rfl) (fun x hx=>by rw [ho1] at hx;cases hx;rfl)
  (fun b j hI=>⟨hI,rfl⟩) (fun b j hI=>.inl hI)
  (fun hb=>.inr ⟨_,ho1,hb,rfl⟩) (fun j hb hI=>hr1.wf.imm b (.box cs) j ho1 hb hI)
  (fun o' m' left _ hi=>by
   rintro rfl;obtain ⟨_,_,_,_,es0,_,_,h2,_⟩:=hr1.wf.obj o' _ hi;rw [ho1] at h2;cases h2)
  (fun le2=>by
   obtain ⟨c,t,g1,g2,g3⟩:=hr1.wf.obj b _ ho1;obtain ⟨c',t',f1,f2,f3⟩:=hr.wf.obj b _ ho
   have hloc:ρ1.loc b=ρ.loc b:=by
    obtain ⟨x',q1,q2⟩:=le.obj b _ ho;rw [ho1] at q1;cases q1;exact q2
   rw [<- hloc,g1] at f1;cases f1
   refine ⟨c,t,g1,by rw [g2,List.length_set],fun j x v hx hv=>?_⟩;by_cases e:j=i
   . subst e;rw [List.getElem?_set_self (List.getElem?_eq_some_iff.1 hy).1] at hx;cases hx
     exact (hsp v (f3 j y v hy hv)).mono le2
   . rw [List.getElem?_set_ne (fun q=>e q.symm)] at hx;exact (g3 j x v hx hv).mono le2)
 exact ⟨_,hr1.step hst.1 hst.2.1 hst.2.2⟩
theorem Rel.ghost {E:Ent} {B:p7} {ρ:Ren} {a:Act} {w:World} (sz:Nat) (hsz:0<sz) (hr:Rel cx E B n ρ T h a w) :
 ∃ ρ',Rel cx E B n ρ' T (h++[.arr sz [] 0]) a w/\Le ρ h w ρ' (h++[.arr sz [] 0]) w/\∀ ad,VR ρ' (h++[.arr sz [] 0]) w (.own h.length 0 0) (.slice ad 0 0):=by
 have hst:=ce (h':=h++[.arr sz [] 0]) (w':=w) hr.wf hr.fr h.length (.arr sz [] 0) ⟨0,0,0⟩ ρ.I (getElem?_append_one _ _) (fun o' ho=>bE _ _ _ ho)
  rfl rfl rfl (Nat.le_refl _) (fun _ _ _=>rfl) zq (fun b j hI=>⟨hI,rfl⟩) (fun b j hI=>.inl hI)
  (fun hb=>by simp [am.hasBlk] at hb) (fun j hb=>by simp [am.hasBlk] at hb) (cy hr.wf)
  (fun _=>⟨Nat.le_refl _,Nat.le_refl _,hsz,by simp,fun hc=>by simp at hc⟩)
 refine ⟨_,hr.step hst.1 hst.2.1 hst.2.2,hst.2.1,fun ad=>?_⟩;refine .own _ _ _ _ _ _ sz [] 0 (getElem?_append_one _ _) ⟨by simp,fun _=>⟨rfl,?_,fun h0=>by simp at h0⟩⟩;rw [Ren.put_same]
theorem wu (b i sz:Nat) {cs:List aa} (cs':List aa) (hsz:0<sz) (hb:h[b]?=some (.box cs)) (hi:cs[i]?=some (.full [])) (he:cs.set i (.own h.length 0 0)=cs') {d:Code} (hk:wpA cx n m d Q T (h.set b (.box cs')++[.arr sz [] 0])):wpA cx n m d Q T h:=by
 intro E B ρ a w hm hr;obtain ⟨ρ1,r1,r2,r3⟩:=hr.ghost sz hsz;have hlt:=(List.getElem?_eq_some_iff.1 hb).1;obtain ⟨ρ2,q1⟩:=Rel.box hr r1 hb (by rw [List.getElem?_append_left hlt];exact hb) r2 hi (y':=.own h.length 0 0) (fun v hv=>by cases hv;exact r3 _);rw [he,List.set_append_left _ _ hlt] at q1;exact hk E B ρ2 a w hm q1
theorem IL (b i o:Nat) {cs es:List aa} {off len sz fr:Nat} (cs' es':List aa) (hbo:b≠o) (hb:h[b]?=some (.box cs)) (hi:cs[i]?=some (.own o off len)) (ho:h[o]?=some (.arr sz es fr)) (htip:off+len=es.length) (hes:es.drop off=es') (he:cs.set i (.imm es')=cs') {d:Code}
 (hk:wpA cx n m d Q T ((h.set o (.arr sz es es.length)).set b (.box cs'))):wpA cx n m d Q T h:=by
 intro E B ρ a w hm hr;obtain ⟨ρ1,g1,g2,g3,g4⟩:=i9 hr.wf hr.fr ho;obtain ⟨ρ2,q1⟩:=Rel.box hr (hr.step g1 g2 g3) hb (by rw [aY _ _ _ _ hbo];exact hb) g2 hi (y':=.imm es') (fun v hv=>by rw [<- hes];exact g4 off len v htip hv);rw [he] at q1;exact hk E B ρ2 a w hm q1
end
end
section
open Go
section
variable {cx:Cx} {n m:Nat} {T:Tm} {h:af} {Q:cP}
theorem rk {f:FuncId} {args:List aa} {Q Q':aa->af->Prop} (hc:av cx f args [] Q) (hq:∀ v h',Q v h'->Q' v h'\/((v.frz h').bel 0=true/\Q' (v.frz h') [])):av cx f args [] Q':=by
 refine ⟨hc.1,fun ρ w cargs wf hg hv=>?_⟩;refine (hc.2 ρ w cargs wf hg hv).mono ?_;rintro e w' ⟨ρ',cv,v,h',rfl,hQ,r1,r2,r3,r4⟩;rcases hq v h' hQ with h1|⟨h1,h2⟩
 . grind
 . obtain ⟨ρ2,q1,q2,q3,q4⟩:=fe v.owns r2 r4;have g3:=(r1.frz q2 q4 (fun o ho=>ho)).take h1;have g4:=q1.take 0 zq;have g5:=(r3.trans q2).take 0 zq;have g6:=q3.take 0
   grind
theorem eD {f:FuncId} {args:List aa} {Q:aa->af->Prop} {V:aa} (hc:av cx f args [] Q) (hq:∀ v h',Q v h'->v.frz h'=V) (hb:V.bel 0=true):ae cx f args V :=
 rk hc fun v h' h1=>.inr (by rw [hq v h' h1];exact ⟨hb,rfl,rfl⟩)
theorem fm {rs:List ResultVar} {e:Exit} {l:List aa} {q:aa->af->Prop} (j:Nat) (g:af) (he:e=.normal\/e=.ret) (hl:gu cx.P T h rs=some l) (hm:m<=j) (hg:h.take j=g) (hb:(aZ l).bel j=true) (ho:g.all (am.belO j)=true) (hq:q (aZ l) g):CU cx rs m q e T h :=
 ⟨he,l,hl,j,hm,hb,by rw [hg];exact ho,by rw [hg];exact hq⟩
theorem dY (b i:Nat) {cs:List aa} {y:aa} (cs':List aa) (hb:h[b]?=some (.box cs)) (hi:cs[i]?=some y) (hw:y.owns=[]) (he:cs.set i (y.frz [])=cs') {d:Code} (hk:wpA cx n m d Q T (h.set b (.box cs'))):wpA cx n m d Q T h:=by
 intro E B ρ a w hm hr
 obtain ⟨ρ2,q1⟩:=Rel.box hr hr hb hb (Le.refl _ _ _) hi (y':=y.frz []) (fun v hv=>by
  rw [<- mE h [] y hw];exact VR.frz (ids:=[]) (Le.refl _ _ _) zq hv (by rw [hw];simp))
 rw [he] at q1;exact hk E B ρ2 a w hm q1
end
end
section
open Go
section
variable {cx:Cx} {l:List BOp} {K:Tm->af->Prop} {S:RSt} {KD:List (List Nat×List Nat)->Tm->af->Prop} {s:DSt}
abbrev py (H0:af):=cb [] H0.length
theorem Ri {f:FuncId} {args args':List aa} {V V':aa} {G G' F:af} {L:List Nat} (hc:bj l=true) (hg:bt s.2.1 (hdB l).g=some true) (hal:fv (hdB l).op=false) (ho:aop cx.P s.2.2.1 (aev cx.G s.2.1) (hdB l).op=none) (ha:aI (aev cx.G s.2.1) (hdB l).op=some (f,args))
 (hq:av cx f args' [] fun v' g'=>v'=V/\g'=G) (H0:af) (hH:s.2.2.1=H0) (hf:aN H0 args=args') (hb:aC 0 args'=true) (hG0:0<G.length)
 (hF:db H0 (aF args)=F) (hV:V.ren (py H0)=V') (hG:gL (py H0) G=G') (hL:tz H0 args G=L)
 (hk:bdr cx l.tail (s.1,ci s.2.1 (hdB l).dst V',F++G',s.2.2.2++[(L,L)]) KD):bdr cx l s KD :=
 Ta hc hg hal ho ha hq (by rw [hH];exact hf) hb hG0 (by rw [hH,hV,hG,hF,hL];exact hk)
end
end
section
open Go
section
variable {cx:Cx} {l:List BOp} {K:Tm->af->Prop} {S:RSt}
theorem PO {f:FuncId} {args args':List aa} {A B:Prop} {V1 V1' V2 V2':aa} {G1 G1' G2 G2' F:af} (hc:bj l=true) (hg:bt S.1 (hdB l).g=some true) (ho:aop cx.P S.2 (bU cx S) (hdB l).op=none) (ha:aI (bU cx S) (hdB l).op=some (f,args))
 (hq:av cx f args' [] fun v h=>(A/\v=V1/\h=G1)\/(B/\v=V2/\h=G2)) (H0:af) (hH:S.2=H0) (hf:aN H0 args=args') (hb:aC 0 args'=true)
 (hF:db H0 (aF args)=F) (hV1:V1.ren (py H0)=V1') (hG1:gL (py H0) G1=G1') (hV2:V2.ren (py H0)=V2') (hG2:gL (py H0) G2=G2')
 (hk1:A->bS cx l.tail (ci S.1 (hdB l).dst V1',F++G1') K) (hk2:B->bS cx l.tail (ci S.1 (hdB l).dst V2',F++G2') K):bS cx l S K :=
 Vc hc hg ho ha hq (by rw [hH];exact hf) hb (by
  rintro _ _ (⟨a,rfl,rfl⟩|⟨b,rfl,rfl⟩)
  . rw [hH,hV1,hG1,hF];exact hk1 a
  . rw [hH,hV2,hG2,hF];exact hk2 b)
end
theorem ix {P:Program} {ev:Operand->aa} {op:Op} {h:af} {α:Type} {enc:α->aa} {l:List α} {X d:α} {t:Nat} {o idx k sz:Nat} {x:aa} {i:TyI} (hv:nr ev op=some (t,.pown o idx 0 k,x)) (hx:x=enc X) (ho:h[o]?=some (.arr sz (l.map enc) 0)) (hl:(l.map enc).length=k) (hi:idx<l.length) (ht:aP P t=some i)
 (hok:∀ q,(enc q).cells.length=i.size/\(enc q).cells.all aa.cellOk=true) (hw:∀ p q,(enc p).withCells (enc q).cells=some (enc q)):aop P h ev op=some (.any,h.set o (.arr sz ((l.set idx X).map enc) 0)):=by
 have hy:(l.map enc)[idx]?=some (enc (l.getD idx d)):=by
  grind
 rw [MI hv ho hl (Nat.zero_le _) hy ht (by rw [hx];exact hok X) rfl (hok _).1 (by rw [hx];exact hw _ _),hx,List.map_set]
end
section
open Go.RowKit
section
variable {cx:Cx}
theorem li {f:FuncId} {args:List aa} {h:af} {v:aa} {K:aa->af->Prop} (hb:uq cx.P f) (hk:K v h)
 (hc:∀ (ρ:Ren) (w:World) (cargs:Array Value),WF ρ h w->vC cx ρ w->VRs ρ h w args cargs->Calls cx.P f cargs w fun e w'=>∃ cv I',e=.returned cv/\Below w.heap.size w w' /\
  (∀ b j,ρ.I b j->I' b j)/\(∀ b j,I' b j->ρ.I b j\/(w.heap.size<=b/\b<w'.heap.size))/\(Le ρ h w ⟨ρ.loc,I'⟩ h w'->VR ⟨ρ.loc,I'⟩ h w' v cv)):av cx f args h K:=by
 refine ⟨hb,fun ρ w cargs wf hg hv=>(hc ρ w cargs wf hg hv).mono ?_⟩;rintro e w' ⟨cv,I',rfl,hbel,h1,h2,h3⟩;have hst:=l6 (w':=w') wf (Fr.refl ρ h w) I' hbel.os hbel.tape hbel.output hbel.size hbel.block h1 h2
 grind
theorem rE {f:FuncId} {args:List aa} {v:aa} {cv:Value} (hb:uq cx.P f) (hf:v.flat=some cv)
 (hc:∀ (ρ:Ren) (w:World) (cargs:Array Value),VRs ρ [] w args cargs->Calls cx.P f cargs w fun e w'=>e=.returned cv/\Below w.heap.size w w'):ae cx f args v:=by
 refine li (v:=v) hb ⟨rfl,rfl⟩ fun ρ w cargs _ _ hv=>(hc ρ w cargs hv).mono ?_
 rintro e w' ⟨rfl,hbel⟩;exact ⟨cv,ρ.I,rfl,hbel,fun _ _ h=>h,fun _ _ h=>.inl h,fun _=>rX hf _ _ _⟩
theorem VRs.two {ρ:Ren} {h:af} {w:World} {x y:aa} {vs:Array Value} (hv:VRs ρ h w [x,y] vs):∃ u v,vs=#[u,v]/\VR ρ h w x u/\VR ρ h w y v:=by
 obtain ⟨h1,h2⟩:=hv;obtain ⟨l⟩:=vs
 match l,h1 with
 | [u,v],_=>exact ⟨u,v,rfl,h2 0 x u rfl rfl,h2 1 y v rfl rfl⟩
theorem VRs.one {ρ:Ren} {h:af} {w:World} {x:aa} {vs:Array Value} (hv:VRs ρ h w [x] vs):∃ u,vs=#[u]/\VR ρ h w x u:=by
 obtain ⟨h1,h2⟩:=hv;obtain ⟨l⟩:=vs
 match l,h1 with
 | [u],_=>exact ⟨u,rfl,h2 0 x u rfl rfl⟩
end
end
section
section
variable {cx:Cx} {n m:Nat} {Q Q':cP} {T:Tm} {h:af} {c d:Code} {p:List Nat} {l:List BOp} {S:RSt}
def sl:Tm->List Nat
 | []=>[]
 | x::r=>x.1::sl r
theorem wO (hk:(Nat.beq (ca (at_ c p)) 1 && uv n (at_ c (0::p)))=true) (hw:bS cx (bOf n (at_ c (0::p))) (T,h) (fun T' h'=>cM (wpA cx n m (at_ c (1::p)) Q) Q .normal T' h')):wpA cx n m (at_ c p) Q T h:=by
 simp only [Bool.and_eq_true] at hk;exact fS (Nat.eq_of_beq_eq_true hk.1) (jv hk.2 (dt hw))
theorem wV (j:Nat) (hk:(Nat.beq (ca (at_ c p)) 1 && uv n (at_ c (0::p)) && (j4 cx.P cx.G j (bOf n (at_ c (0::p))) (T,h)).isSome)=true)
 (hw:bS cx ((bOf n (at_ c (0::p))).drop j) (rS (j4 cx.P cx.G j (bOf n (at_ c (0::p))) (T,h))) (fun T' h'=>cM (wpA cx n m (at_ c (1::p)) Q) Q .normal T' h')):wpA cx n m (at_ c p) Q T h:=by
 rw [Bool.and_eq_true] at hk;exact wO hk.1 (fJ j hk.2 hw)
theorem vN (T':Tm) (h':af) (hf:(bj l,ic (sl T') S.1,S.2)=(false,T',h')) (hw:wpA cx n m d Q T' h'):bS cx l S (fun T h=>cM (wpA cx n m d Q) Q' .normal T h):=by
 simp only [Prod.mk.injEq] at hf;exact iY hf.1 (ab (wSt (sl T') T' h' hf.2.1 hf.2.2 hw))
theorem vR (j:Nat) (T':Tm) (h':af) (hf:((j4 cx.P cx.G j l S).isSome,bj (l.drop j),ic (sl T') (rS (j4 cx.P cx.G j l S)).1,(rS (j4 cx.P cx.G j l S)).2)=(true,false,T',h')) (hw:wpA cx n m d Q T' h') :
 bS cx l S (fun T h=>cM (wpA cx n m d Q) Q' .normal T h):=by
 simp only [Prod.mk.injEq] at hf;exact fJ j hf.1 (vN T' h' (by simp only [Prod.mk.injEq];exact hf.2) hw)
def wWf (cx:Cx) (n:Nat) (c:Code) (p:List Nat) (j:Nat) (T':Tm) (T:Tm) (h:af):Bool×Bool×Tm×af :=
 let r:=j4 cx.P cx.G j (bOf n (at_ c (0::p))) (T,h)
 (Nat.beq (ca (at_ c p)) 1 && uv n (at_ c (0::p)) && r.isSome,bj ((bOf n (at_ c (0::p))).drop j),ic (sl T') (rS r).1,(rS r).2)
theorem wW (j:Nat) (T':Tm) (h':af) (hf:wWf cx n c p j T' T h=(true,false,T',h')) (hw:wpA cx n m (at_ c (1::p)) Q T' h'):wpA cx n m (at_ c p) Q T h:=by
 simp only [wWf,Prod.mk.injEq] at hf;exact wV j hf.1 (vN T' h' (by simp only [Prod.mk.injEq];exact hf.2) hw)
theorem vT (hf:(Nat.beq (ca (at_ c p)) 8 && !(bj l))=true) (hw:Q .ret S.1 S.2):bS cx l S (fun T h=>cM (wpA cx n m (at_ c p) Q) Q' .normal T h):=by
 simp only [Bool.and_eq_true,Bool.not_eq_true'] at hf;exact iY hf.2 (ab (aJ (Nat.eq_of_beq_eq_true hf.1) hw))
theorem vX (j:Nat) (hf:(Nat.beq (ca (at_ c p)) 8 && (j4 cx.P cx.G j l S).isSome && !(bj (l.drop j)))=true) (hw:Q .ret (rS (j4 cx.P cx.G j l S)).1 (rS (j4 cx.P cx.G j l S)).2):bS cx l S (fun T h=>cM (wpA cx n m (at_ c p) Q) Q' .normal T h):=by
 simp only [Bool.and_eq_true] at hf;exact fJ j hf.1.2 (vT (by simp only [Bool.and_eq_true];exact ⟨hf.1.1,hf.2⟩) hw)
theorem vs (e:Nat) {x y:Bool} (he:x=y) (hT:Tm.get S.1 e=.bool x) (hk:bS cx l (KF S e (.bool y)) (fun T h=>cM (wpA cx n m d Q) Q' .normal T h)):bS cx l S (fun T h=>cM (wpA cx n m d Q) Q' .normal T h) :=
 TW e (.bool x) (.bool y) (cK ax) hT (congrArg aa.bool he) hk
theorem wT {x:Bool} (he:x=true) (hf:(ca (at_ c p),aev cx.G T (sH (at_ c p)))=(2,.bool x)) (hw:wpA cx n m (at_ c (0::p)) Q T h):wpA cx n m (at_ c p) Q T h:=by
 simp only [Prod.mk.injEq] at hf;exact ga hf.1 (hf.2.trans (congrArg aa.bool he)) hw
theorem wF {x:Bool} (he:x=false) (hf:(ca (at_ c p),aev cx.G T (sH (at_ c p)))=(2,.bool x)) (hw:wpA cx n m (at_ c (1::p)) Q T h):wpA cx n m (at_ c p) Q T h:=by
 simp only [Prod.mk.injEq] at hf;exact iu hf.1 (hf.2.trans (congrArg aa.bool he)) hw
theorem wK (hk:ca (at_ c p)=7) (hw:wpA cx n m d Q T h):wpA cx n m (at_ c p) (cM (wpA cx n m d Q) Q') T h:=sE hk (ab hw)
theorem wZ (T':Tm) (h':af) (hf:(ic (sl T') T,h)=(T',h')) (hw:wpA cx n m d Q T' h'):wpA cx n m d Q T h:=by
 simp only [Prod.mk.injEq] at hf;exact wSt (sl T') T' h' hf.1 hf.2 hw
theorem vc (args:List aa) {f:FuncId} {args':List aa} {v:aa} {K:Tm->af->Prop} (hq:ae cx f args' v)
 (hf:(bj l,bt S.1 (hdB l).g,(aop cx.P S.2 (bU cx S) (hdB l).op).isNone,aI (bU cx S) (hdB l).op,aN S.2 args,aC 0 args',(aF args).isEmpty)=(true,some true,true,some (f,args),args',true,true))
 (hk:bS cx l.tail (FZ S (hdB l).dst v) K):bS cx l S K:=by
 simp only [Prod.mk.injEq,Option.isNone_iff_eq_none,List.isEmpty_iff] at hf;exact l1 hf.1 hf.2.1 hf.2.2.1 hf.2.2.2.1 hq hf.2.2.2.2.1 hf.2.2.2.2.2.1 hf.2.2.2.2.2.2 hk
theorem aR {K:Tm->af->Prop} (q:Q .ret T h):cM K Q .ret T h:=q
theorem iR {id:Nat} (q:Q .ret T h):AIn id Q .ret T h:=q
end
end
section
section
variable {cx:Cx} {n m:Nat} {Q Q':cP} {T:Tm} {h:af} {c d:Code} {p:List Nat} {l:List BOp} {S:RSt} {K:Tm->af->Prop} {KD:List (List Nat×List Nat)->Tm->af->Prop} {s:DSt}
def ai (hw:_) (hk:_):=fS (cx:=cx) (n:=n) (m:=m) (Q:=Q) (T:=T) (h:=h) (c:=c) (p:=p) hk hw
def qN (T':Tm) (h':af) (hw:_) (hk:_):=vN (cx:=cx) (n:=n) (m:=m) (Q:=Q) (Q':=Q') (d:=d) (l:=l) (S:=S) T' h' hk hw
def qR (j:Nat) (T':Tm) (h':af) (hw:_) (hk:_):=vR (cx:=cx) (n:=n) (m:=m) (Q:=Q) (Q':=Q') (d:=d) (l:=l) (S:=S) j T' h' hk hw
def qT (hw:_) (hk:_):=vT (cx:=cx) (n:=n) (m:=m) (Q:=Q) (Q':=Q') (c:=c) (p:=p) (l:=l) (S:=S) hk hw
def qX (j:Nat) (hw:_) (hk:_):=vX (cx:=cx) (n:=n) (m:=m) (Q:=Q) (Q':=Q') (c:=c) (p:=p) (l:=l) (S:=S) j hk hw
def PW (S:RSt) (v:aa):List Nat->RSt
 | []=>S
 | e::es=>PW (KF S e v) v es
theorem qm (es:List Nat) {x y:Bool} (he:x=y) (hw:bS cx l (PW S (.bool y) es) (fun T h=>cM (wpA cx n m d Q) Q' .normal T h)) (hk:(es.map fun e=>Tm.get S.1 e)=es.map fun _=>.bool x):bS cx l S (fun T h=>cM (wpA cx n m d Q) Q' .normal T h):=by
 subst he
 induction es generalizing S with
 | nil=>exact hw
 | cons e es ih =>
  simp only [List.map_cons,List.cons.injEq] at hk;refine vs e rfl hk.1 (ih ?_ hw);refine List.map_congr_left fun e' he'=>?_
  have h1:Tm.get S.1 e'=.bool x:=(List.map_inj_left.1 hk.2) e' he';show Tm.get ((e,.bool x)::S.1) e'=.bool x;simp only [Tm.get];split
  . rfl
  . exact h1
def qt {x:Bool} (he:x=true) (hw:_) (hk:_):=wT (cx:=cx) (n:=n) (m:=m) (Q:=Q) (T:=T) (h:=h) (c:=c) (p:=p) he hk hw
def qf {x:Bool} (he:x=false) (hw:_) (hk:_):=wF (cx:=cx) (n:=n) (m:=m) (Q:=Q) (T:=T) (h:=h) (c:=c) (p:=p) he hk hw
def qK (hw:_) (hk:_):=wK (cx:=cx) (n:=n) (m:=m) (Q:=Q) (Q':=Q') (T:=T) (h:=h) (c:=c) (d:=d) (p:=p) hk hw
def qc (args:List aa) {f:FuncId} {args':List aa} {v:aa} (hq:ae cx f args' v) (hw:_) (hk:_):=vc (cx:=cx) (l:=l) (S:=S) (K:=K) args hq hk hw
def qB (id:Nat) (hw:_) (hk:_) (hi:_):=Rm (cx:=cx) (n:=n) (m:=m) (Q:=Q) (T:=T) (h:=h) (c:=c) (p:=p) id hk hi hw
def qo (hw:_) (hk:_):=jv (cx:=cx) (n:=n) (m:=m) (Q:=Q) (T:=T) (h:=h) (c:=c) (p:=p) hk (dt hw)
def qr (j:Nat) (hw:_) (hk:_):=fJ (cx:=cx) (l:=l) (S:=S) (K:=K) j hk hw
def qe (hw:_) (hk:_):=iY (cx:=cx) (l:=l) (S:=S) (K:=K) hk hw
def qk (hw:_) (hk:_):=sE (cx:=cx) (n:=n) (m:=m) (Q:=Q) (T:=T) (h:=h) (c:=c) (p:=p) hk hw
def qy {v:aa} (ho:aop cx.P S.2 (aev cx.G S.1) (hdB l).op=some (v,S.2)) (hw:_) (hc:_) (hg:_):=WO (cx:=cx) (l:=l) (S:=S) (K:=K) hc hg ho hw
def qY {v:aa} {o:Nat} {x:am} (ho:aop cx.P S.2 (aev cx.G S.1) (hdB l).op=some (v,S.2.set o x)) (hw:_) (hc:_) (hg:_):=Vx (cx:=cx) (l:=l) (S:=S) (K:=K) hc hg ho hw
def qd {v:aa} (ho:aop cx.P s.2.2.1 (aev cx.G s.2.1) (hdB l).op=some (v,s.2.2.1)) (hw:_) (hc:_) (hg:_) (ha:_):=Xi (cx:=cx) (l:=l) (s:=s) (KD:=KD) hc hg ha ho hw
def qD {v:aa} {ob:Nat} {x:am} (ho:aop cx.P s.2.2.1 (aev cx.G s.2.1) (hdB l).op=some (v,s.2.2.1.set ob x)) (hw:_) (hc:_) (hg:_) (ha:_):=TM (cx:=cx) (l:=l) (s:=s) (KD:=KD) hc hg ha ho hw
def qu (j:Nat) (hw:_) (hk:_):=We (cx:=cx) (l:=l) (s:=s) (KD:=KD) j hk hw
end
abbrev nI (k:Nat):aa:=.int .i64 (k:Nat)
end
section
mutual
def dOf {H:Type}:DataW H->aa
 | .lit (.bool b)=>.bool b
 | .lit (.int k n)=>.int k n
 | .lit (.string s)=>.str s
 | .nil=>.imm []
 | .slice elems _=>.imm (uQ elems)
 | .agg parts=>.agg (Ad parts)
 | _=>.any
def uQ {H:Type}:List (DataW H)->List aa
 | []=>[]
 | d::r=>dOf d::uQ r
def Ad {H:Type}:List (DataW H)->List aa
 | []=>[]
 | d::r=>(dOf d).cells++Ad r
end
theorem oG {H:Type}:∀ l:List (DataW H),uQ l=l.map dOf
 | []=>rfl
 | d::r=>by rw [uQ,oG r];rfl
theorem kw {α β:Type} {f:α->Option β}:∀ {l:List α} {r:List β},l.mapM f=some r->r.length=l.length/\∀ (i:Nat) x,l[i]?=some x->∃ y,r[i]?=some y/\f x=some y
 | [],r,h=>by simp at h;subst h;simp
 | x::l,r,h=>by
  simp only [List.mapM_cons,Option.bind_eq_bind,Option.bind_eq_some_iff,Option.pure_def,Option.some.injEq] at h;obtain ⟨y,hy,r',hr,rfl⟩:=h;obtain ⟨h1,h2⟩:=kw hr
  grind
section
variable {H:Type} {enc:TypeId×Value->H} {P:Program} {w:World} {sp:Nat->Bool} {held:Bool}
theorem ns {fuel:Nat} {t e:TypeId} {cs:List Value} {d:DataW H} {ps:List MemPlace} (ht:P.underlying t=some (.slice e)) (h:DataW.trod enc P w 0 sp held (fuel+1) t cs=some (d,ps)) :
 (cs=[.slice none 0 0]/\d=.nil)\/∃ a len cap elems spare,cs=[.slice (some a) len cap]/\d=.slice elems spare/\elems.length=len/\len<=cap /\
  ∀ (i:Nat) x,elems[i]?=some x->∃ cs' ps',w.cells? 0 (a.add (i * P.cellsOf e)) (P.cellsOf e)=some cs'/\DataW.trod enc P w 0 sp held fuel e cs'=some (x,ps'):=by
 unfold DataW.trod at h;rw [ht] at h;split at h <;> try (simp at h;done)
 all_goals (rename_i heq;cases heq)
 . grind
 . rename_i a len cap;right;split at h
   . rename_i hc;simp only [Option.bind_eq_some_iff,Option.map_eq_some_iff] at h;obtain ⟨elems,he,rest,_,hd⟩:=h;simp only [Prod.mk.injEq] at hd;obtain ⟨h1,h2⟩:=kw he;refine ⟨a,len,cap,_,_,rfl,hd.1.symm,by simpa using h1,hc.2.1,fun i x hx=>?_⟩;simp only [List.getElem?_map,Option.map_eq_some_iff] at hx;obtain ⟨y,hy,rfl⟩:=hx
     have hi:i<len:=by
      grind
     obtain ⟨z,hz,hf⟩:=h2 i i (by simp [hi]);rw [hy] at hz;cases hz;simp only [Option.bind_eq_some_iff] at hf
     grind
   . simp at h
theorem qF {fuel:Nat} {t:TypeId} {fs:Array Field} {cs:List Value} {d:DataW H} {ps:List MemPlace} (ht:P.underlying t=some (.struct fs)) (h:DataW.trod enc P w 0 sp held (fuel+1) t cs=some (d,ps)) :
 ∃ parts,d=.agg parts/\cs.length=P.cellsOf t/\parts.length=fs.toList.length/\∀ (i:Nat) f,fs.toList[i]?=some f->∃ x ps',parts[i]?=some x/\DataW.trod enc P w 0 sp held fuel f.type ((cs.drop f.offset).take (P.cellsOf f.type))=some (x,ps'):=by
 simp only [DataW.trod,ht] at h;split at h
 . rename_i hc;simp only [Option.map_eq_some_iff] at h;obtain ⟨xs,hx,hd⟩:=h;simp only [Prod.mk.injEq] at hd;obtain ⟨h1,h2⟩:=kw hx
   grind
 . simp at h
theorem tQ {fuel:Nat} {t e:TypeId} {n:Nat} {cs:List Value} {d:DataW H} {ps:List MemPlace} (ht:P.underlying t=some (.array n e)) (h:DataW.trod enc P w 0 sp held (fuel+1) t cs=some (d,ps)) :
 ∃ parts,d=.agg parts/\cs.length=P.cellsOf t/\parts.length=n/\∀ (i:Nat),i<n->∃ x ps',parts[i]?=some x/\DataW.trod enc P w 0 sp held fuel e ((cs.drop (i * P.cellsOf e)).take (P.cellsOf e))=some (x,ps'):=by
 simp only [DataW.trod,ht] at h;split at h
 . rename_i hc;simp only [Option.map_eq_some_iff] at h;obtain ⟨xs,hx,hd⟩:=h;simp only [Prod.mk.injEq] at hd;obtain ⟨h1,h2⟩:=kw hx;refine ⟨_,hd.1.symm,hc,by simpa using h1,fun i hi=>?_⟩;obtain ⟨y,hy,q⟩:=h2 i i (by simp [hi])
   grind
 . simp at h
theorem pZ {fuel:Nat} {t:TypeId} {cs:List Value} {d:DataW H} {ps:List MemPlace} (ht:P.underlying t=some .bool) (h:DataW.trod enc P w 0 sp held (fuel+1) t cs=some (d,ps)):∃ b,cs=[.bool b]/\d=.lit (.bool b):=by
 unfold DataW.trod at h
 grind
theorem sV {fuel:Nat} {t:TypeId} {k:IntKind} {cs:List Value} {d:DataW H} {ps:List MemPlace} (ht:P.underlying t=some (.int k)) (h:DataW.trod enc P w 0 sp held (fuel+1) t cs=some (d,ps)):∃ n,cs=[.int k n]/\d=.lit (.int k n)/\(Lit.int k n).wf=true:=by
 unfold DataW.trod at h
 grind
theorem qC {fuel:Nat} {t:TypeId} {cs:List Value} {d:DataW H} {ps:List MemPlace} (ht:P.underlying t=some .string) (h:DataW.trod enc P w 0 sp held (fuel+1) t cs=some (d,ps)):∃ s:ByteArray,cs=[.string s]/\d=.lit (.string s.data.toList):=by
 unfold DataW.trod at h
 grind
def LO (P:Program) (l:List TypeId) (total:Nat):Nat->List Field->Bool
 | off,[]=>Nat.beq off total
 | off,f::r=>Nat.beq f.offset off && l.contains f.type && LO P l total (off+P.cellsOf f.type) r
def CC (P:Program) (l:List TypeId) (t:TypeId):Bool:=match P.underlying t with
 | some .bool=>Nat.beq (P.cellsOf t) 1
 | some (.int _)=>Nat.beq (P.cellsOf t) 1
 | some .string=>Nat.beq (P.cellsOf t) 1
 | some (.slice e)=>Nat.beq (P.cellsOf t) 1 && l.contains e && Nat.blt 0 (P.cellsOf e)
 | some (.struct fs)=>LO P l (P.cellsOf t) 0 fs.toList
 | some (.array n e)=>l.contains e && Nat.beq (P.cellsOf t) (n * P.cellsOf e)
 | _=>false
def xY (P:Program) (l:List TypeId):Bool:=l.all (CC P l)
def fb (ρ:Ren) (h:af) (w:World) (xs:List aa) (cs:List Value):Prop:=xs.length=cs.length/\∀ (j:Nat) y v,xs[j]?=some y->cs[j]?=some v->VR ρ h w y v
theorem fb.append {ρ:Ren} {h:af} {w:World} {xs ys:List aa} {cs ds:List Value} (h1:fb ρ h w xs cs) (h2:fb ρ h w ys ds):fb ρ h w (xs++ys) (cs++ds):=by
 refine ⟨by simp [h1.1,h2.1],fun j y v hy hv=>?_⟩;by_cases hj:j<xs.length
 . rw [List.getElem?_append_left hj] at hy;rw [List.getElem?_append_left (by rw [<- h1.1];exact hj)] at hv;exact h1.2 j y v hy hv
 . rw [List.getElem?_append_right oq] at hy;rw [List.getElem?_append_right (by rw [<- h1.1];omega),<- h1.1] at hv;exact h2.2 _ y v hy hv
theorem fb.one {ρ:Ren} {h:af} {w:World} {x:aa} {v:Value} (hx:VR ρ h w x v):fb ρ h w [x] [v]:=by
 refine ⟨rfl,fun j y u hy hu=>?_⟩
 grind
theorem wC {a:Addr} {n:Nat} {cs:List Value} (h:w.cells? 0 a n=some cs):cs.length=n/\∀ j,j<n->∃ v,cs[j]?=some v/\w.cell? (a.add j)=some v:=by
 unfold World.cells? at h;simp only [Nat.zero_le,if_true] at h;obtain ⟨h1,h2⟩:=kw h;refine ⟨by simpa using h1,fun j hj=>?_⟩;exact h2 j j (by simp [hj])
theorem GE {a:Addr} {v:Value} (h:w.cell? a=some v):a.spot=none/\a.block<w.heap.size:=by
 unfold World.cell? at h;split at h
 . rename_i c t f hb;split at h
   . simp at h
   . rename_i hs;exact ⟨by cases hq:a.spot <;> simp_all,(Array.getElem?_eq_some_iff.1 hb).1⟩
 . simp at h
theorem uc {ρ:Ren} {hp:af} {l:List TypeId} {total:Nat} {cs:List Value} (hc:cs.length=total):∀ (fs:List Field) (off:Nat) (parts:List (DataW H)),LO P l total off fs=true->off<=total->parts.length=fs.length ->
 (∀ (i:Nat) f,fs[i]?=some f->∃ x,parts[i]?=some x/\(l.contains f.type=true->fb ρ hp w (dOf x).cells ((cs.drop f.offset).take (P.cellsOf f.type))/\(dOf x).cells.length=P.cellsOf f.type)) ->
 fb ρ hp w (Ad parts) (cs.drop off)
 | [],off,parts,h,ho,hl,_=>by
  have:parts=[]:=List.eq_nil_of_length_eq_zero (by simpa using hl);subst this;have e:off=total:=Nat.eq_of_beq_eq_true h;rw [List.drop_of_length_le oq];exact ⟨rfl,by simp [Ad]⟩
 | f::fs,off,parts,h,ho,hl,hp'=>by
  simp only [LO,Bool.and_eq_true] at h;obtain ⟨⟨h1,h2⟩,h3⟩:=h;obtain ⟨x,hx,hq⟩:=hp' 0 f rfl;obtain ⟨q1,q2⟩:=hq h2;cases parts with
  | nil=>simp at hl
  | cons p parts =>
   simp at hx;subst hx;have e:f.offset=off:=Nat.eq_of_beq_eq_true h1;rw [e] at q1
   have hle:off+P.cellsOf f.type<=total:=by
    have:=q1.1
    grind
   have ih:=uc hc fs (off+P.cellsOf f.type) parts h3 hle (by simpa using hl) (fun i g hg=>by simpa using hp' (i+1) g (by simpa using hg));simp only [Ad];have:=q1.append ih
   rwa [<- List.drop_drop,List.take_append_drop] at this
theorem qM {ρ:Ren} {hp:af} {sz:Nat} {cs:List Value}:∀ (n i:Nat) (parts:List (DataW H)),parts.length=n->cs.length=(i+n) * sz ->
 (∀ (j:Nat),j<n->∃ x,parts[j]?=some x/\fb ρ hp w (dOf x).cells ((cs.drop ((i+j) * sz)).take sz))->fb ρ hp w (Ad parts) (cs.drop (i * sz))
 | 0,i,parts,hl,hc,_=>by
  have:parts=[]:=List.eq_nil_of_length_eq_zero hl;subst this;rw [List.drop_of_length_le (by rw [hc,Nat.add_zero];exact Nat.le_refl _)];exact ⟨rfl,by simp [Ad]⟩
 | n+1,i,parts,hl,hc,hq=>by
  cases parts with
  | nil=>simp at hl
  | cons p parts =>
   obtain ⟨x,hx,q⟩:=hq 0 oq;simp at hx;subst hx
   have ih:=qM (ρ:=ρ) (hp:=hp) n (i+1) parts (by simpa using hl) (by rw [hc];congr 1;omega) (fun j hj=>by
    obtain ⟨y,hy,q'⟩:=hq (j+1) oq;exact ⟨y,by simpa using hy,by rw [show i+1+j=i+(j+1) by omega];exact q'⟩)
   have:=q.append ih;rw [Nat.add_zero,Nat.add_mul,Nat.one_mul,<- List.drop_drop,List.take_append_drop] at this;simpa [Ad] using this
theorem iT {ρ:Ren} {hp:af} (hI:∀ b j,b<w.heap.size->ρ.I b j) {l:List TypeId} (hl:xY P l=true):∀ (fuel:Nat) (t:TypeId) (cs:List Value) (d:DataW H) (ps:List MemPlace),l.contains t=true->DataW.trod enc P w 0 sp held fuel t cs=some (d,ps) ->
 fb ρ hp w (dOf d).cells cs/\(dOf d).cells.length=P.cellsOf t
 | 0,t,cs,d,ps,_,h=>by simp [DataW.trod] at h
 | fuel+1,t,cs,d,ps,hm,h=>by
  have hpl:=List.all_eq_true.1 hl t (by simpa using hm);unfold CC at hpl;split at hpl <;> try (simp at hpl;done)
  . rename_i ht;obtain ⟨b,rfl,rfl⟩:=pZ ht h;rw [Nat.eq_of_beq_eq_true hpl];exact ⟨.one (.bool b),rfl⟩
  . rename_i k ht;obtain ⟨n,rfl,rfl,_⟩:=sV ht h;rw [Nat.eq_of_beq_eq_true hpl];exact ⟨.one (.int k n),rfl⟩
  . rename_i ht;obtain ⟨s,rfl,rfl⟩:=qC ht h;rw [Nat.eq_of_beq_eq_true hpl];exact ⟨.one (VR.str (ρ:=ρ) (h:=hp) (w:=w) s.data.toList),rfl⟩
  . rename_i e ht;simp only [Bool.and_eq_true,Nat.blt_eq] at hpl;obtain ⟨⟨h1,h2⟩,h3⟩:=hpl;rw [Nat.eq_of_beq_eq_true h1];rcases ns ht h with ⟨rfl,rfl⟩|⟨a,len,cap,elems,spare,rfl,rfl,hlen,hcap,hel⟩
    . exact ⟨.one (.imm [] none 0 0 0 0 (fun _ _=>undef) (Nat.le_refl _) zq zq zq zq),rfl⟩
    . refine ⟨.one ?_,rfl⟩
      have ih:∀ (i:Nat) x,elems[i]?=some x->∃ cs',w.cells? 0 (a.add (i * P.cellsOf e)) (P.cellsOf e)=some cs'/\fb ρ hp w (dOf x).cells cs'/\(dOf x).cells.length=P.cellsOf e:=fun i x hx=>by
       obtain ⟨cs',ps',q1,q2⟩:=hel i x hx;exact ⟨cs',q1,iT hI hl fuel e cs' x ps' h2 q2⟩
      simp only [dOf];have hll:(uQ elems).length=elems.length:=by rw [oG];simp
      have spot0:0<elems.length->a.spot=none/\a.block<w.heap.size:=fun hpos=>by
       obtain ⟨cs',q1,q2,q3⟩:=ih 0 elems[0] (List.getElem?_eq_getElem hpos);obtain ⟨g1,g2⟩:=wC q1;obtain ⟨v,_,hcell⟩:=g2 0 h3;have:=GE hcell;simpa [Addr.add] using this
      have key:∀ (i:Nat) x (j:Nat) y,(uQ elems)[i]?=some x->x.cells[j]?=some y->a.spot=none/\a.block<w.heap.size/\∃ v,w.cell? ⟨a.block,a.off+i * P.cellsOf e+j,none⟩=some v/\VR ρ hp w y v:=by
       intro i x j y hx hy;rw [oG] at hx;simp only [List.getElem?_map,Option.map_eq_some_iff] at hx;obtain ⟨z,hz,rfl⟩:=hx;obtain ⟨cs',q1,q2,q3⟩:=ih i z hz;have hj:j<P.cellsOf e:=by rw [<- q3];exact (List.getElem?_eq_some_iff.1 hy).1
       obtain ⟨g1,g2⟩:=wC q1;obtain ⟨v,hv,hcell⟩:=g2 j hj;obtain ⟨hs,hb⟩:=spot0 (by have:=(List.getElem?_eq_some_iff.1 hz).1;omega);refine ⟨hs,hb,v,?_,q2.2 j y v hy hv⟩
       have e':(a.add (i * P.cellsOf e)).add j=⟨a.block,a.off+i * P.cellsOf e+j,none⟩:=by
        rw [show a=⟨a.block,a.off,none⟩ by cases a;simp_all,gn,gn]
       rw [<- e'];exact hcell
      rw [show (Value.slice (some a) len cap)=Value.slice (some a) (uQ elems).length cap by rw [hll,hlen]];refine .imm (uQ elems) (some a) cap (P.cellsOf e) a.block a.off (fun i j=>(w.cell? ⟨a.block,a.off+i * P.cellsOf e+j,none⟩).getD undef) (by rw [hll,hlen];exact hcap) ?_ ?_ ?_ ?_
      . intro hpos;obtain ⟨hs,_⟩:=spot0 (by rw [<- hll];exact hpos);rw [show a=⟨a.block,a.off,none⟩ by cases a;simp_all]
      . intro i x hx;rw [oG] at hx
        grind
      . grind
      . grind
  . rename_i fs ht;obtain ⟨parts,rfl,hc,hpl',hel⟩:=qF ht h
    have:=uc (P:=P) (w:=w) (ρ:=ρ) (hp:=hp) (l:=l) (total:=P.cellsOf t) hc fs.toList 0 parts hpl (Nat.zero_le _) hpl' (fun i f hf=>by
     obtain ⟨x,ps',q1,q2⟩:=hel i f hf;exact ⟨x,q1,fun hin=>iT hI hl fuel f.type _ x ps' hin q2⟩)
    simp only [List.drop_zero] at this;refine ⟨by simpa [dOf,aa.cells] using this,?_⟩;rw [<- hc];simpa [dOf,aa.cells] using this.1
  . rename_i n e ht;simp only [Bool.and_eq_true] at hpl;obtain ⟨parts,rfl,hc,hpl',hel⟩:=tQ ht h
    have:=qM (w:=w) (ρ:=ρ) (hp:=hp) (sz:=P.cellsOf e) (cs:=cs) n 0 parts hpl' (by rw [hc,Nat.zero_add];exact Nat.eq_of_beq_eq_true hpl.2) (fun j hj=>by
     obtain ⟨x,ps',q1,q2⟩:=hel j hj;exact ⟨x,q1,by rw [Nat.zero_add];exact (iT hI hl fuel e _ x ps' hpl.1 q2).1⟩)
    simp only [Nat.zero_mul,List.drop_zero] at this;refine ⟨by simpa [dOf,aa.cells] using this,?_⟩;rw [<- hc];simpa [dOf,aa.cells] using this.1
end
end
section
open Go.RowKit Go.ChangeShapes
def p5 (W:World):Ren:=⟨fun _=>⟨0,0,0⟩,fun b _=>b<W.heap.size⟩
theorem My (W:World):WF (p5 W) [] W:=⟨by simp,by simp,by simp,fun _ _ h=>h,by simp⟩
theorem BV {cx:Cx} {f:FuncId} {args:List aa} (hc:ae cx f args (.bool true)) {W:World} {cargs:Array Value} (hv:VRs (p5 W) [] W args cargs) (hg:vC cx (p5 W) W) :
 Calls cx.P f cargs W fun e W'=>e=.returned (.bool true)/\Below W.heap.size W W':=by
 refine (hc.2 (p5 W) W cargs (My W) hg hv).mono ?_;rintro e W' ⟨ρ',cv,v,h',rfl,⟨rfl,rfl⟩,r1,r2,r3,r4⟩;refine ⟨by cases r1;rfl,r4.os,r4.tape,r4.output,r4.size,fun k hk=>r4.keep k hk ?_⟩;rintro ⟨o,x,hx,_⟩;simp at hx
section
variable {H:Type} {enc:TypeId×Value->H} {P:Program}
theorem m9 (hl:laidOutB P=true) {W W':World} (hb:Below W.heap.size W W'):∀ (ts:List TypeId) (vs:List Value) (ds:List (DataW H)) (ps:List MemPlace),(∀ t∈ts,P.readableRec t=true/\t<P.types.size)->(∀ p∈ps,p.block<W.heap.size) ->
 DataW.TrodAll enc P W 0 (fun _=>true) true ts vs ds ps->DataW.TrodAll enc P W' 0 (fun b=>decide (b<W.heap.size)) true ts vs ds ps
 | [],[],[],ps,_,_,h=>h
 | t::ts,v::vs,d::ds,ps,ht,hp,h=>by
  obtain ⟨p,q,h1,h2,rfl⟩:=h;exact ⟨p,q,Below.trod hl (ht t zq).1 (ht t zq).2 h1 hb (fun x hx=>hp x (by simp [hx])),m9 hl hb ts vs ds q (fun t' ht'=>ht t' (by simp [ht'])) (fun x hx=>hp x (by simp [hx])) h2,rfl⟩
 | [],_::_,_,_,_,_,h=>by simp [DataW.TrodAll] at h
 | [],[],_::_,_,_,_,h=>by simp [DataW.TrodAll] at h
 | _::_,[],_,_,_,_,h=>by simp [DataW.TrodAll] at h
 | _::_,_::_,[],_,_,_,h=>by simp [DataW.TrodAll] at h
theorem F5 {f:Func} {s:ChangeSpec} {t4:TypeId} {W W':World} {args:Array Value} {ds gs:List (DataW H)} {before:List MemPlace} (hl:laidOutB P=true) (hs:s.vars=[]) (hr:f.resultTypes=#[t4]) (h4:P.underlying t4=some .bool)
 (ht:∀ t∈f.params.toList,P.readableRec t=true/\t<P.types.size) (hW:DataW.Whole enc P f.params.toList s.vars false W args.toList ds gs before) (hfn:s.fn H (ds++gs)={ results:=[.lit (.bool true)],args:=ds }) (hb:Below W.heap.size W W') :
 s.post enc P f false true false false W args (.bool true) W':=by
 have hW':=hW;obtain ⟨p,q,hA,hV,rfl,hfz,hnd⟩:=hW;refine ⟨ds,gs,p++q,[],p,[],hW',?_,?_,?_,hb.frame _,fun h=>by cases h⟩
 . rw [hfn,hr];exact trodAll_cons_mk (shut_bool h4 _) trodAll_mk0
 . rw [hfn];exact m9 hl hb _ _ _ _ ht (fun x hx=>hW'.lt x (by simp [hx])) hA
 . rw [hfn,hs];exact rfl
theorem oD {w:World} {n:String} {d:DataW Unit}:∀ {l:List (String×DataW Unit)} {ps:List MemPlace},DataW.LaidVars P w l ps->(n,d)∈l ->
 ∃ g t cs fuel p,P.globalNamed n=some g/\(P.globals[g]?).map (·.type)=some t/\w.var? P n=some cs/\DataW.trod (fun _=>()) P w 0 (fun _=>true) false fuel t cs.toList=some (d,p)
 | [],ps,_,h=>by simp at h
 | (n',d')::l,ps,h,hm=>by
  obtain ⟨g,t,cs,fuel,p,q,h1,h2,h3,h4,h5,_⟩:=h;simp only [List.mem_cons,Prod.mk.injEq] at hm;rcases hm with ⟨rfl,rfl⟩|hm
  . grind
  . exact oD h5 hm
theorem wo {w:World} {laid:List (String×DataW Unit)} (hh:laid.filter (fun x=>x.2.handleName?.isSome)=[]) (hL:laidMetH P laid w) {n:String} {d:DataW Unit} (hm:(n,d)∈laid) {g:Nat} {t:TypeId} (hg:P.globalNamed n=some g)
 (ht:(P.globals[g]?).map (·.type)=some t) {l:List TypeId} (hl:xY P l=true) (htl:l.contains t=true):VR (p5 w) [] w (.pimm (dOf d).cells 0) (.pointer (some ⟨g,0,none⟩)):=by
 unfold laidMetH at hL;rw [hh] at hL;obtain ⟨ps,hv,_⟩:=hL;obtain ⟨g',t',cs,fuel,p,h1,h2,h3,h4⟩:=oD hv hm;obtain rfl:=Option.some.inj (hg.symm.trans h1);obtain rfl:=Option.some.inj (ht.symm.trans h2);obtain ⟨hc,_⟩:=iT (w:=w) (ρ:=p5 w) (hp:=[]) (fun b _ hb=>hb) hl fuel t cs.toList d p htl h4
 have hblk:∃ t f,w.heap[g]?=some (.cells cs t f):=by
  unfold World.var? at h3
  grind
 obtain ⟨ty,fr,hb⟩:=hblk
 have hcell:∀ (j:Nat) y,(dOf d).cells[j]?=some y->∃ v,cs[j]?=some v/\VR (p5 w) [] w y v:=fun j y hy=>by
  have hj:j<cs.size:=by
   have:=(List.getElem?_eq_some_iff.1 hy).1;rw [hc.1] at this;simpa using this
  exact ⟨cs[j],Array.getElem?_eq_getElem hj,hc.2 j y cs[j] hy (by simp [hj])⟩
 refine .pimm _ 0 g 0 (fun j=>(cs[j]?).getD undef) (fun j y hy=>⟨(Array.getElem?_eq_some_iff.1 hb).1,?_⟩) (fun j y hy=>?_)
 . obtain ⟨v,hv,_⟩:=hcell j y hy;simp [World.cell?,hb,hv]
 . grind
theorem Cb {w:World} {l:List TypeId} (hl:xY P l=true) {t:TypeId} (htl:l.contains t=true) {v:Value} {d:DataW H} {ps:List MemPlace} {base:Nat} (hok:Value.okWide P w .any base t v) (h:DataW.Trod enc P w 0 (fun _=>true) true t v d ps):VR (p5 w) [] w (dOf d) v:=by
 obtain ⟨fuel,h⟩:=h;have hc:=(iT (w:=w) (ρ:=p5 w) (hp:=[]) (fun b _ hb=>hb) hl fuel t _ d ps htl h).1;cases fuel with
 | zero=>simp [DataW.trod] at h
 | succ fuel =>
  have hpl:=List.all_eq_true.1 hl t (by simpa using htl)
  have single:∀ x:aa,x.cells=[x]->dOf d=x->(∀ cs,v≠.agg cs)->VR (p5 w) [] w (dOf d) v:=by
   intro x hx hd hv;have hvc:v.cells=#[v]:=by cases v <;> first|rfl|exact absurd rfl (hv _)
   rw [hd] at hc ⊢;rw [hx,hvc] at hc;exact hc.2 0 x v rfl rfl
  have aggc:∀ xs:List aa,dOf d=.agg xs->(∃ cs,v=.agg cs)->VR (p5 w) [] w (dOf d) v:=by
   rintro xs hd ⟨cs,rfl⟩;rw [hd] at hc ⊢;refine .agg xs cs ?_ fun i x u hx hu=>hc.2 i x u hx ?_
   . have:=hc.1;simp [aa.cells,Value.cells] at this;omega
   . simpa [Value.cells] using hu
  unfold CC at hpl;split at hpl <;> try (simp at hpl;done)
  . rename_i ht;obtain ⟨b,hcs,rfl⟩:=pZ ht h;exact single _ rfl rfl (by rintro cs rfl;simp [Value.okWide,ht,Cell.okWide,Cell.ok] at hok)
  . rename_i k ht;obtain ⟨n,hcs,rfl,_⟩:=sV ht h;exact single _ rfl rfl (by rintro cs rfl;simp [Value.okWide,ht,Cell.okWide,Cell.ok] at hok)
  . rename_i ht;obtain ⟨s,hcs,rfl⟩:=qC ht h;exact single _ rfl rfl (by rintro cs rfl;simp [Value.okWide,ht,Cell.okWide,Cell.ok] at hok)
  . rename_i e ht;have hna:∀ cs,v≠.agg cs:=by rintro cs rfl;simp [Value.okWide,ht,Cell.okWide,Cell.ok] at hok
    rcases ns ht h with ⟨_,rfl⟩|⟨a,len,cap,elems,spare,_,rfl,_⟩
    . exact single _ rfl rfl hna
    . exact single _ rfl rfl hna
  . rename_i fs ht;obtain ⟨parts,rfl,_⟩:=qF ht h;simp only [Value.okWide,ht] at hok;obtain ⟨cs,rfl,_⟩:=hok;exact aggc _ rfl ⟨cs,rfl⟩
  . rename_i n e ht;obtain ⟨parts,rfl,_⟩:=tQ ht h;simp only [Value.okWide,ht] at hok;obtain ⟨cs,rfl,_⟩:=hok;exact aggc _ rfl ⟨cs,rfl⟩
end
end
end Go.Proofs.YtcpklndelobigaaGreatDoor.Abs
