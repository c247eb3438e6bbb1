/- An evaluator over abstract values, rules for written proofs, and the way to what a row Gw. No condition. -/
import Derived.Test.YtcpklndelobigaaGreatDoorAbsb
import Derived.Below
import GoSem.ClaimJoined
import Derived.ProofKit
import Derived.OpenShut
import Derived.Carry
import Derived.ChangeOld
set_option linter.all false
namespace Go.Proofs.YtcpklndelobigaaGreatDoor.Abs
theorem n7 {a b:Nat} (h:a≠b):Nat.beq a b=false:=by
 cases hb:Nat.beq a b
 . rfl
 . exact absurd (Nat.eq_of_beq_eq_true hb) h
theorem G3 {a b:Nat} (h:a=b):Nat.beq a b=true:=by subst h;exact Nat.beq_refl a
inductive Tt where
 | e
 | n (v:aa) (l r:Tt)
def Tt.get:Tt->Nat->aa
 | .e,_=>.any
 | .n v l r,k=>bif Nat.beq k 0 then v else bif Nat.beq (k % 2) 1 then l.get (k / 2) else r.get (k / 2 - 1)
def Tt.setF:Nat->Tt->Nat->aa->Tt
 | 0,t,_,_=>t
 | f+1,.e,k,x=>bif Nat.beq k 0 then .n x .e .e else bif Nat.beq (k % 2) 1 then .n .any (Tt.setF f .e (k / 2) x) .e else .n .any .e (Tt.setF f .e (k / 2 - 1) x)
 | f+1,.n v l r,k,x=>bif Nat.beq k 0 then .n x l r else bif Nat.beq (k % 2) 1 then .n v (Tt.setF f l (k / 2) x) r else .n v l (Tt.setF f r (k / 2 - 1) x)
theorem Tt.get_e (k:Nat):Tt.e.get k=.any:=by simp [Tt.get]
theorem Tt.get_set:∀ (f:Nat) (t:Tt) (k:Nat) (x:aa) (j:Nat),k+1<2 ^ f->(Tt.setF f t k x).get j=if j=k then x else t.get j
 | 0,t,k,x,j,h=>by simp at h
 | f+1,t,k,x,j,h=>by
  have h2:2 ^ (f+1)=2 * 2 ^ f:=by rw [Nat.pow_succ];omega
  by_cases k0:k=0
  . subst k0;cases t <;> by_cases j0:j=0 <;> simp [Tt.setF,Tt.get,j0,n7]
  . have kb:Nat.beq k 0=false:=n7 k0;by_cases k1:k % 2=1
    . have kb1:Nat.beq (k % 2) 1=true:=G3 k1;cases t with
      | e =>
       simp only [Tt.setF,kb,kb1,cond_true,cond_false];by_cases j0:j=0
       . subst j0;simp [Tt.get,Ne.symm k0]
       . have jb:Nat.beq j 0=false:=n7 j0;simp only [Tt.get,jb,cond_false];by_cases j1:j % 2=1
         . have jb1:Nat.beq (j % 2) 1=true:=G3 j1;simp only [jb1,cond_true];rw [Tt.get_set f _ _ _ _ oq];by_cases e:j=k
           . subst e;simp
           . rw [if_neg oq,if_neg e];simp [Tt.get]
         . have jb1:Nat.beq (j % 2) 1=false:=n7 j1;have:j≠k:=by intro e;subst e;exact j1 k1
           simp [jb1,this]
      | n v l r =>
       simp only [Tt.setF,kb,kb1,cond_true,cond_false];by_cases j0:j=0
       . subst j0;simp [Tt.get,Ne.symm k0]
       . have jb:Nat.beq j 0=false:=n7 j0;simp only [Tt.get,jb,cond_false];by_cases j1:j % 2=1
         . have jb1:Nat.beq (j % 2) 1=true:=G3 j1;simp only [jb1,cond_true];rw [Tt.get_set f _ _ _ _ oq];by_cases e:j=k
           . subst e;simp
           . rw [if_neg oq,if_neg e]
         . have jb1:Nat.beq (j % 2) 1=false:=n7 j1;have:j≠k:=by intro e;subst e;exact j1 k1
           simp [jb1,this]
    . have kb1:Nat.beq (k % 2) 1=false:=n7 k1;cases t with
      | e =>
       simp only [Tt.setF,kb,kb1,cond_false];by_cases j0:j=0
       . subst j0;simp [Tt.get,Ne.symm k0]
       . have jb:Nat.beq j 0=false:=n7 j0;simp only [Tt.get,jb,cond_false];by_cases j1:j % 2=1
         . have jb1:Nat.beq (j % 2) 1=true:=G3 j1;have:j≠k:=by intro e;subst e;exact k1 j1
           simp [jb1,this]
         . have jb1:Nat.beq (j % 2) 1=false:=n7 j1;simp only [jb1,cond_false];rw [Tt.get_set f _ _ _ _ oq];by_cases e:j=k
           . subst e;simp
           . rw [if_neg oq,if_neg e];simp [Tt.get]
      | n v l r =>
       simp only [Tt.setF,kb,kb1,cond_false];by_cases j0:j=0
       . subst j0;simp [Tt.get,Ne.symm k0]
       . have jb:Nat.beq j 0=false:=n7 j0;simp only [Tt.get,jb,cond_false];by_cases j1:j % 2=1
         . have jb1:Nat.beq (j % 2) 1=true:=G3 j1;have:j≠k:=by intro e;subst e;exact k1 j1
           simp [jb1,this]
         . have jb1:Nat.beq (j % 2) 1=false:=n7 j1;simp only [jb1,cond_false];rw [Tt.get_set f _ _ _ _ oq];by_cases e:j=k
           . subst e;simp
           . rw [if_neg oq,if_neg e]
def fC (T:Tm) (tt:Tt):Prop:=∀ t,Tm.get T t=tt.get t
def sD (tt:Tt) (d:Option Tmp) (v:aa):Tt:=match d with
 | some d=>tt.setF 12 d v
 | none=>tt
theorem fC.put {T:Tm} {tt:Tt} (hs:fC T tt) {n:Nat} (hn:n<=4095) {d:Option Tmp} (hd:iA n d=true) (v:aa):fC (b3 T d v) (sD tt d v):=by
 cases d with
 | none=>exact hs
 | some d =>
  have:d<n:=by simpa [iA] using hd
  have hlt:d+1<2 ^ 12:=Nat.succ_lt_succ (Nat.lt_of_lt_of_le this hn);intro t;simp only [b3,sD,Tm.get];rw [Tt.get_set 12 tt d v t hlt];by_cases e:d=t
  . subst e;simp
  . rw [if_neg e,if_neg (fun h=>e h.symm)];exact hs t
def tev (G:Nat->Option (List aa)) (tt:Tt):Operand->aa
 | .tmp t=>tt.get t
 | .const v=>match fp v with
  | some x=>x
  | none=>.any
 | .global g=>match G g with
  | some cs=>.pimm cs 0
  | none=>.any
 | .func f=>.fn (.func f) [] []
theorem Ac {G:Nat->Option (List aa)} {T:Tm} {tt:Tt} (hs:fC T tt):tev G tt=aev G T:=by
 funext x;cases x
 . exact (hs _).symm
 all_goals first|rfl|(simp only [tev,aev];split <;> simp_all)
def uv (ops:Array Oper) (tt:Tt):Option (Nat×Bool)->Option Bool
 | none=>some true
 | some (j,want)=>match (ops[j]?).bind (·.dst) with
  | some d=>match tt.get d with
   | .bool b=>some (b==want)
   | .tup _=>some false
   | _=>none
  | none=>none
theorem ta {ops:Array Oper} {T:Tm} {tt:Tt} (hs:fC T tt) (g:Option (Nat×Bool)):uv ops tt g=cX ops T g:=by
 unfold uv cX;cases g with
 | none=>rfl
 | some p =>
  obtain ⟨j,want⟩:=p;dsimp only;cases (ops[j]?).bind (·.dst) with
  | none=>rfl
  | some d=>dsimp only;rw [hs d];cases tt.get d <;> rfl
abbrev md:=FuncId->List aa->ae->Option (List Nat×aa×ae)
def wc (P:Program) (G:Nat->Option (List aa)) (call:md) (n:Nat) (ops:Array Oper):List Oper->Tt->ae->Option (Tt×ae)
 | [],T,h=>some (T,h)
 | o::os,T,h=>bif iA n o.dst then
  match uv ops T o.guard with
  | some true=>match aop P h (tev G T) o.op with
   | some r=>wc P G call n ops os (sD T o.dst r.1) r.2
   | none=>match aI (tev G T) o.op with
    | some c=>match call c.1 c.2 h with
     | some r=>wc P G call n ops os (sD T o.dst r.2.1) r.2.2
     | none=>none
    | none=>match anx P h (tev G T) o.op with
     | some [r]=>wc P G call n ops os (sD T o.dst r.1) r.2
     | _=>none
  | some false=>wc P G call n ops os (sD T o.dst (.tup [])) h
  | none=>none
  else none
def px (P:Program) (G:Nat->Option (List aa)) (call:md) (n:Nat) (ops:Array Oper):List Oper->Nat->Tt->ae->List (List Nat×List Nat)->Option (List (List Nat×List Nat)×Tt×ae)
 | [],_,T,h,rs=>some (rs,T,h)
 | o::os,k,T,h,rs=>bif iA n o.dst then
  match uv ops T o.guard with
  | some true=>bif e8 o.op then
   (match apl P (tev G T) o.op with
   | some cs=>bif lr h k then px P G call n ops os (k+1) (sD T o.dst (.ptr k 0)) (h.set k (.box cs)) (rs++[([k],[k])]) else none
   | none=>none)
   else match aop P h (tev G T) o.op with
   | some r=>px P G call n ops os k (sD T o.dst r.1) r.2 (rs++[(ard (tev G T) o.op,awr h (tev G T) o.op)])
   | none=>match aI (tev G T) o.op with
    | some c=>match call c.1 c.2 h with
     | some r=>px P G call n ops os k (sD T o.dst r.2.1) r.2.2 (rs++[(r.1,r.1)])
     | none=>none
    | none=>none
  | some false=>px P G call n ops os (bif e8 o.op then k+1 else k) (sD T o.dst (.tup [])) h (rs++[([],[])])
  | none=>none
  else none
def uC (ops:Array Oper) (ms:List Nat) (i:Nat) (o:Oper):List (Nat×Oper)->Bool
 | []=>true
 | s::ss=>((ms.getD i 0).testBit s.1 || s.2.apart ops o) && uC ops ms i o ss
def sOk (ops:Array Oper) (ms:List Nat):Nat->List (Nat×Oper)->List Oper->Bool
 | _,_,[]=>true
 | i,pre,o::os=>uC ops ms i o pre && sOk ops ms (i+1) ((i,o)::pre) os
def xj (ops:Array Oper):Bool:=gA 0 ops.toList && sOk ops (yt ops.toList []) 0 [] ops.toList
def yw:List (List Nat×List Nat)->Bool
 | []=>true
 | r::rs=>r.2.isEmpty && yw rs
theorem mb {ops:Array Oper} {ms:List Nat} {t:Tr} (ht:t.wr=[]):∀ {pre:List Tr},(∀ s∈pre,s.wr=[])->uC ops ms t.i t.o (pre.map fun s=>(s.i,s.o))=true->oK ops ms t pre=true
 | [],_,_=>rfl
 | s::ss,hw,h=>by
  simp only [List.map_cons,uC,Bool.and_eq_true,Bool.or_eq_true] at h;simp only [oK,Bool.and_eq_true,Bool.or_eq_true];refine ⟨?_,mb ht (fun x hx=>hw x (by simp [hx])) h.2⟩;rcases h.1 with g|g
  . exact .inl g
  . refine .inr ?_;have:=hw s zq;simp [j8,g,Me,ht,this,IS]
theorem rU {ops:Array Oper} {ms:List Nat}:∀ (os:List Oper) (i:Nat) (rs:List (List Nat×List Nat)) (pre:List Tr),(∀ s∈pre,s.wr=[])->yw rs=true ->
 sOk ops ms i (pre.map fun s=>(s.i,s.o)) os=true->kD ops ms pre (fz i os rs)=true
 | [],i,rs,pre,_,_,_=>by cases rs <;> simp [fz,kD]
 | o::os,i,[],pre,_,_,_=>by simp [fz,kD]
 | o::os,i,r::rs,pre,hw,hq,hs=>by
  simp only [sOk,Bool.and_eq_true] at hs;simp only [yw,Bool.and_eq_true,List.isEmpty_iff] at hq;simp only [fz,kD,Bool.and_eq_true];refine ⟨mb hq.1 hw hs.1,?_⟩;refine rU os (i+1) rs _ ?_ hq.2 ?_
  . intro s hs';simp only [List.mem_cons] at hs';rcases hs' with rfl|hs'
    . exact hq.1
    . exact hw s hs'
  . simpa using hs.2
def p6 (ops:Array Oper) (rs:List (List Nat×List Nat)):Bool:=bif yw rs then xj ops else (gA 0 ops.toList && lM ops rs)
theorem uJ {ops:Array Oper} {rs:List (List Nat×List Nat)} (h:p6 ops rs=true):gA 0 ops.toList=true/\lM ops rs=true:=by
 unfold p6 at h;cases hq:yw rs with
 | true =>
  rw [hq] at h;simp only [cond_true,xj,Bool.and_eq_true] at h;exact ⟨h.1,rU _ 0 rs [] zq hq (by simpa using h.2)⟩
 | false =>
  rw [hq] at h;simp only [cond_false,Bool.and_eq_true] at h;exact h
def xf (body:Tt->ae->Option (Exit×Tt×ae)):Nat->Tt->ae->Option (Exit×Tt×ae)
 | 0,_,_=>none
 | k+1,T,h=>match body T h with
  | some (.normal,T',h')=>xf body k T' h'
  | r=>r
def d5 (P:Program) (G:Nat->Option (List aa)) (call:md) (n lf:Nat):Code->Tt->ae->Option (Exit×Tt×ae)
 | .skip,T,h=>some (.normal,T,h)
 | .label _,T,h=>some (.normal,T,h)
 | .scope c,T,h=>match d5 P G call n lf c T h with
  | some (.goto _,_,_)=>none
  | r=>r
 | .ret,T,h=>some (.ret,T,h)
 | .exit id,T,h=>some (.exit id,T,h)
 | .seq a b,T,h=>match d5 P G call n lf a T h with
  | some (.normal,T',h')=>d5 P G call n lf b T' h'
  | r=>r
 | .cond c a b,T,h=>match tev G T c with
  | .bool true=>d5 P G call n lf a T h
  | .bool false=>d5 P G call n lf b T h
  | _=>none
 | .block id c,T,h=>match d5 P G call n lf c T h with
  | some (.exit id',T',h')=>bif Nat.beq id' id then some (.normal,T',h') else some (.exit id',T',h')
  | r=>r
 | .loop c,T,h=>xf (d5 P G call n lf c) lf T h
 | .region _ ops false,T,h=>match wc P G call n ops ops.toList T h with
  | some (T',h')=>some (.normal,T',h')
  | none=>none
 | .region _ ops true,T,h=>match px P G call n ops ops.toList h.length T (h++gx (nAl ops.toList)) [] with
  | some (rs,T',h')=>bif p6 ops rs then some (.normal,T',h') else none
  | none=>none
 | _,_,_=>none
section
variable {cx:Cx} {call:md} {n m lf:Nat}
theorem ip (hcall:∀ f args h r,call f args h=some r->jq cx f args h r.1 r.2.1 r.2.2) (hn:n<=4095) {ops:Array Oper} {K:Tm->ae->Prop}:∀ (os:List Oper) (tt:Tt) (h:ae) (T:Tm) (r:Tt×ae),fC T tt ->
 wc cx.P cx.G call n ops os tt h=some r->(∀ T',fC T' r.1->K T' r.2)->rM cx n ops os T h K
 | [],tt,h,T,r,hs,hx,hk=>by simp [wc] at hx;subst hx;exact hk T hs
 | o::os,tt,h,T,r,hs,hx,hk=>by
  simp only [wc] at hx;cases hd:iA n o.dst with
  | false=>rw [hd] at hx;simp at hx
  | true =>
   rw [hd] at hx;simp only [cond_true,ta hs,Ac hs] at hx;simp only [rM];refine ⟨hd,?_⟩;split at hx
   . rename_i hg;rw [hg];split at hx
     . rename_i q hq;rw [hq];exact .inl (ip hcall hn os _ _ _ r (hs.put hn hd _) hx hk)
     . rename_i hq;rw [hq];split at hx
       . rename_i c hc;rw [hc];split at hx <;> try (simp at hx;done)
         rename_i q hq';refine aE.mono (hcall _ _ _ _ hq').2.1 ?_;rintro v h' ⟨rfl,rfl⟩;exact ip hcall hn os _ _ _ r (hs.put hn hd _) hx hk
       . rename_i hc;rw [hc];split at hx <;> try (simp at hx;done)
         rename_i q hq';rw [hq'];intro r' hr';rw [List.mem_singleton] at hr';subst hr';exact ip hcall hn os _ _ _ r (hs.put hn hd _) hx hk
   . rename_i hg;rw [hg];exact ip hcall hn os _ _ _ r (hs.put hn hd _) hx hk
   . simp at hx
theorem gh (hcall:∀ f args h r,call f args h=some r->jq cx f args h r.1 r.2.1 r.2.2) (hn:n<=4095) {ops:Array Oper} {K:List (List Nat×List Nat)->Tm->ae->Prop}:∀ (os:List Oper) (k:Nat) (tt:Tt) (h:ae) (rs:List (List Nat×List Nat)) (T:Tm) (r:List (List Nat×List Nat)×Tt×ae),fC T tt ->
 px cx.P cx.G call n ops os k tt h rs=some r->(∀ T',fC T' r.2.1->K r.1 T' r.2.2)->j4 cx n ops os k T h rs K
 | [],k,tt,h,rs,T,r,hs,hx,hk=>by simp [px] at hx;subst hx;exact hk T hs
 | o::os,k,tt,h,rs,T,r,hs,hx,hk=>by
  simp only [px] at hx;cases hd:iA n o.dst with
  | false=>rw [hd] at hx;simp at hx
  | true =>
   rw [hd] at hx;simp only [cond_true,ta hs,Ac hs] at hx;simp only [j4];refine ⟨hd,?_⟩;split at hx
   . rename_i hg;rw [hg];cases hal:e8 o.op with
     | true =>
      rw [hal] at hx;simp only [cond_true] at hx ⊢;split at hx <;> try (simp at hx;done)
      rename_i cs hcs;rw [hcs];cases hh:lr h k with
      | false=>rw [hh] at hx;simp at hx
      | true =>
       rw [hh] at hx;exact ⟨rfl,gh hcall hn os _ _ _ _ _ r (hs.put hn hd _) hx hk⟩
     | false =>
      rw [hal] at hx;simp only [cond_false] at hx ⊢;split at hx
      . rename_i q hq;rw [hq];exact gh hcall hn os _ _ _ _ _ r (hs.put hn hd _) hx hk
      . rename_i hq;rw [hq];split at hx
        . rename_i c hc;rw [hc];split at hx <;> try (simp at hx;done)
          rename_i q hq';exact ⟨q.1,q.2.1,q.2.2,hcall _ _ _ _ hq',gh hcall hn os _ _ _ _ _ r (hs.put hn hd _) hx hk⟩
        . simp at hx
   . rename_i hg;rw [hg];exact gh hcall hn os _ _ _ _ _ r (hs.put hn hd _) hx hk
   . simp at hx
theorem fC.ext {T T':Tm} {tt:Tt} (hs:fC T tt) (he:∀ t,Tm.get T t=Tm.get T' t):fC T' tt:=fun t=>(he t).symm.trans (hs t)
theorem cf (hmix:cx.P.follows .mixedOrders=true) (hcall:∀ f args h r,call f args h=some r->jq cx f args h r.1 r.2.1 r.2.2) (hn:n<=4095):∀ (c:Code) (tt:Tt) (h:ae) (T:Tm) (e:Exit) (tt':Tt) (h':ae) (Q:cD),fC T tt ->
 d5 cx.P cx.G call n lf c tt h=some (e,tt',h')->(∀ T',fC T' tt'->Q e T' h')->wpA cx n m c Q T h
 | .skip,tt,h,T,e,tt',h',Q,hs,hx,hq=>by simp [d5] at hx;obtain ⟨rfl,rfl,rfl⟩:=hx;exact xY (hq T hs)
 | .ret,tt,h,T,e,tt',h',Q,hs,hx,hq=>by simp [d5] at hx;obtain ⟨rfl,rfl,rfl⟩:=hx;exact BR (hq T hs)
 | .exit id,tt,h,T,e,tt',h',Q,hs,hx,hq=>by simp [d5] at hx;obtain ⟨rfl,rfl,rfl⟩:=hx;exact wR (hq T hs)
 | .seq a b,tt,h,T,e,tt',h',Q,hs,hx,hq=>by
  simp only [d5] at hx;refine Bn ?_;split at hx
  . rename_i T1 h1 hr;exact cf hmix hcall hn a tt h T _ _ _ _ hs hr fun T' hT'=>cf hmix hcall hn b _ _ T' _ _ _ Q hT' hx hq
  . rename_i r hne;refine cf hmix hcall hn a tt h T _ _ _ _ hs hx ?_;intro T' hT';cases e with
    | normal=>exact (hne _ _ hx).elim
    | _=>exact hq T' hT'
 | .cond c a b,tt,h,T,e,tt',h',Q,hs,hx,hq=>by
  simp only [d5,Ac hs] at hx;split at hx
  . rename_i hc;exact DC hc (cf hmix hcall hn a tt h T _ _ _ Q hs hx hq)
  . rename_i hc;exact CD hc (cf hmix hcall hn b tt h T _ _ _ Q hs hx hq)
  . simp at hx
 | .block id c,tt,h,T,e,tt',h',Q,hs,hx,hq=>by
  simp only [d5] at hx;refine tL ?_;split at hx
  . rename_i id' T1 h1 hr;refine cf hmix hcall hn c tt h T _ _ _ _ hs hr ?_;intro T' hT';by_cases hid:id'=id
    . subst hid;simp at hx;obtain ⟨rfl,rfl,rfl⟩:=hx;exact au (hq T' hT')
    . have hb:Nat.beq id' id=false:=n7 hid;rw [hb] at hx;simp at hx;obtain ⟨rfl,rfl,rfl⟩:=hx;exact er hid (hq T' hT')
  . rename_i r hne;refine cf hmix hcall hn c tt h T _ _ _ _ hs hx ?_;intro T' hT';cases e with
    | exit id'=>exact (hne _ _ _ hx).elim
    | _=>exact hq T' hT'
 | .loop c,tt,h,T,e,tt',h',Q,hs,hx,hq=>by
  simp only [d5] at hx;refine rg (fun k T1 h1=>∃ tt1,fC T1 tt1/\xf (d5 cx.P cx.G call n lf c) k tt1 h1=some (e,tt',h')) lf ⟨tt,hs,hx⟩ ?_;rintro k T1 h1 ⟨tt1,hs1,hx1⟩;cases k with
  | zero=>simp [xf] at hx1
  | succ k =>
   simp only [xf] at hx1;split at hx1
   . rename_i T2 h2 hr;exact cf hmix hcall hn c tt1 h1 T1 _ _ _ _ hs1 hr fun T' hT'=>⟨k,Nat.lt_succ_self k,T2,hT',hx1⟩
   . rename_i r hne;refine cf hmix hcall hn c tt1 h1 T1 _ _ _ _ hs1 hx1 ?_;intro T' hT';cases e with
     | normal=>exact (hne _ _ hx1).elim
     | _=>exact hq T' hT'
 | .region id ops false,tt,h,T,e,tt',h',Q,hs,hx,hq=>by
  simp only [d5] at hx;split at hx <;> simp at hx;rename_i T1 h1 hr;obtain ⟨rfl,rfl,rfl⟩:=hx;exact rG (ip hcall hn _ tt h T _ hs hr hq)
 | .region id ops true,tt,h,T,e,tt',h',Q,hs,hx,hq=>by
  simp only [d5] at hx;split at hx <;> try (simp at hx;done)
  rename_i rs T1 h1 hr;cases hok:p6 ops rs with
  | false=>rw [hok] at hx;simp at hx
  | true =>
   rw [hok] at hx;simp at hx;obtain ⟨rfl,rfl,rfl⟩:=hx;obtain ⟨g1,g2⟩:=uJ hok;refine lh (we hmix g1 (Q:=fun e T' h''=>e=.normal/\fC T' T1/\h''=h1) ?_ ?_) ?_
   . rintro T2 T3 h3 ht ⟨_,a,b⟩;exact ⟨rfl,a.ext ht,b⟩
   . exact gh hcall hn _ _ tt _ [] T _ hs hr fun T' hT'=>⟨g2,rfl,hT',rfl⟩
   . rintro e T' h'' ⟨rfl,a,rfl⟩;exact hq T' a
 | .rangeFunc _ _ _ _,tt,h,T,e,tt',h',Q,hs,hx,hq=>by simp [d5] at hx
 | .scope c,tt,h,T,e,tt',h',Q,hs,hx,hq=>by
  simp only [d5] at hx;split at hx
  . simp at hx
  . rename_i r hne;refine tR (cf hmix hcall hn c tt h T _ _ _ _ hs hx ?_);intro T' hT';cases e with
    | goto l=>exact (hne _ _ _ hx).elim
    | _=>exact hq T' hT'
 | .label _,tt,h,T,e,tt',h',Q,hs,hx,hq=>by simp [d5] at hx;obtain ⟨rfl,rfl,rfl⟩:=hx;exact te (hq T hs)
 | .goto _,tt,h,T,e,tt',h',Q,hs,hx,hq=>by simp [d5] at hx
 | .refuse _,tt,h,T,e,tt',h',Q,hs,hx,hq=>by simp [d5] at hx
end
end Go.Proofs.YtcpklndelobigaaGreatDoor.Abs
namespace Go.Proofs.YtcpklndelobigaaGreatDoor.Abs
def idx:List Nat->Nat->Nat
 | [],_=>0
 | x::L,o=>bif Nat.beq x o then 0 else idx L o+1
def k5:List Nat->Nat->Bool
 | [],_=>false
 | x::L,o=>bif Nat.beq x o then true else k5 L o
def qw:List Nat->Bool
 | []=>true
 | x::L=>bif k5 L x then false else qw L
theorem jg:∀ (L:List Nat) (o:Nat),k5 L o=true↔o∈L
 | [],o=>by simp [k5]
 | x::L,o=>by
  simp only [k5];by_cases e:x=o
  . subst e;simp
  . have:Nat.beq x o=false:=n7 e;rw [this,cond_false,jg L o,List.mem_cons];exact ⟨.inr,fun h=>h.resolve_left (fun h=>e h.symm)⟩
theorem pu:∀ (L:List Nat),qw L=true->L.Nodup
 | [],_=>.nil
 | x::L,h=>by
  simp only [qw] at h;cases hm:k5 L x with
  | true=>rw [hm] at h;simp at h
  | false =>
   rw [hm] at h;refine List.nodup_cons.2 ⟨fun hx=>?_,pu L (by simpa using h)⟩;rw [(jg L x).2 hx] at hm;simp at hm
theorem ve:∀ (L:List Nat) (o:Nat),o∈L->L[idx L o]?=some o
 | [],o,h=>by simp at h
 | x::L,o,h=>by
  simp only [idx];by_cases e:x=o
  . subst e;simp
  . have hb:Nat.beq x o=false:=n7 e;rw [hb,cond_false,List.getElem?_cons_succ];exact ve L o (by simpa [Ne.symm e] using h)
theorem oM {L:List Nat} {o:Nat} (h:k5 L o=true):idx L o<L.length:=by
 have:=ve L o ((jg L o).1 h);exact (List.getElem?_eq_some_iff.1 this).1
theorem gK {L:List Nat} {o:Nat} (m:Nat) (h:k5 L o=true):bD L m (idx L o)=o:=da m (ve L o ((jg L o).1 h))
mutual
def aa.win (L:List Nat):aa->Bool
 | .agg cs=>lR L cs
 | .tup cs=>lR L cs
 | .ptr o _=>k5 L o
 | .pimm cs _=>lR L cs
 | .pown o _ _ _=>k5 L o
 | .imm l=>lR L l
 | .full l=>lR L l
 | .own o _ _=>k5 L o
 | .map o=>k5 L o
 | .fn _ xs ys=>lR L xs && lR L ys
 | .itr o=>k5 L o
 | .iface _ v=>v.win L
 | .any=>true
 | .bool _=>true
 | .int _ _=>true
 | .str _=>true
 | .nilp=>true
 | .nilm=>true
 | .nilfn=>true
 | .nili=>true
def lR (L:List Nat):List aa->Bool
 | []=>true
 | x::xs=>x.win L && lR L xs
end
def D5 (L:List Nat):List (aa×aa)->Bool
 | []=>true
 | e::es=>e.1.win L && e.2.win L && D5 L es
def ax.winO (L:List Nat):ax->Bool
 | .hole=>true
 | .box cs=>lR L cs
 | .arr _ es _=>lR L es
 | .map es=>D5 L es
 | .iter m _=>k5 L m
mutual
theorem qn (L:List Nat) (m:Nat):∀ x:aa,x.win L=true->(x.ren (idx L)).ren (bD L m)=x
 | .agg cs,h=>by simp only [aa.ren,dU L m cs h]
 | .tup cs,h=>by simp only [aa.ren,dU L m cs h]
 | .ptr o _,h=>by simp only [aa.ren,gK m h]
 | .pimm cs _,h=>by simp only [aa.ren,dU L m cs h]
 | .pown o _ _ _,h=>by simp only [aa.ren,gK m h]
 | .imm l,h=>by simp only [aa.ren,dU L m l h]
 | .full l,h=>by simp only [aa.ren,dU L m l h]
 | .own o _ _,h=>by simp only [aa.ren,gK m h]
 | .map o,h=>by simp only [aa.ren,gK m h]
 | .fn _ xs ys,h=>by
  simp only [aa.win,Bool.and_eq_true] at h;simp only [aa.ren,dU L m xs h.1,dU L m ys h.2]
 | .itr o,h=>by simp only [aa.ren,gK m h]
 | .iface _ v,h=>by simp only [aa.ren,qn L m v h]
 | .any,_=>rfl
 | .bool _,_=>rfl
 | .int _ _,_=>rfl
 | .str _,_=>rfl
 | .nilp,_=>rfl
 | .nilm,_=>rfl
 | .nilfn,_=>rfl
 | .nili,_=>rfl
theorem dU (L:List Nat) (m:Nat):∀ xs:List aa,lR L xs=true->cV (bD L m) (cV (idx L) xs)=xs
 | [],_=>rfl
 | x::xs,h=>by
  simp only [lR,Bool.and_eq_true] at h;simp only [cV,qn L m x h.1,dU L m xs h.2]
end
mutual
theorem qh (L:List Nat):∀ x:aa,x.win L=true->(x.ren (idx L)).bel L.length=true
 | .agg cs,h=>by simp only [aa.ren,aa.bel];exact dT L cs h
 | .tup cs,h=>by simp only [aa.ren,aa.bel];exact dT L cs h
 | .ptr o _,h=>by simp only [aa.ren,aa.bel];simpa using oM h
 | .pimm cs _,h=>by simp only [aa.ren,aa.bel];exact dT L cs h
 | .pown o _ _ _,h=>by simp only [aa.ren,aa.bel];simpa using oM h
 | .imm l,h=>by simp only [aa.ren,aa.bel];exact dT L l h
 | .full l,h=>by simp only [aa.ren,aa.bel];exact dT L l h
 | .own o _ _,h=>by simp only [aa.ren,aa.bel];simpa using oM h
 | .map o,h=>by simp only [aa.ren,aa.bel];simpa using oM h
 | .fn _ xs ys,h=>by
  simp only [aa.win,Bool.and_eq_true] at h;simp only [aa.ren,aa.bel,dT L xs h.1,dT L ys h.2,Bool.and_self]
 | .itr o,h=>by simp only [aa.ren,aa.bel];simpa using oM h
 | .iface _ v,h=>by simp only [aa.ren,aa.bel];exact qh L v h
 | .any,_=>rfl
 | .bool _,_=>rfl
 | .int _ _,_=>rfl
 | .str _,_=>rfl
 | .nilp,_=>rfl
 | .nilm,_=>rfl
 | .nilfn,_=>rfl
 | .nili,_=>rfl
theorem dT (L:List Nat):∀ xs:List aa,lR L xs=true->aM L.length (cV (idx L) xs)=true
 | [],_=>rfl
 | x::xs,h=>by
  simp only [lR,Bool.and_eq_true] at h;simp only [cV,aM,qh L x h.1,dT L xs h.2,Bool.and_self]
end
theorem wj (L:List Nat) (m:Nat):∀ es,D5 L es=true->nE (bD L m) (nE (idx L) es)=es
 | [],_=>rfl
 | e::es,h=>by
  simp only [D5,Bool.and_eq_true] at h;simp only [nE,qn L m _ h.1.1,qn L m _ h.1.2,wj L m es h.2]
theorem ye (L:List Nat):∀ es,D5 L es=true->((nE (idx L) es).all fun e=>e.1.bel L.length && e.2.bel L.length)=true
 | [],_=>rfl
 | e::es,h=>by
  simp only [D5,Bool.and_eq_true] at h;have:=ye L es h.2;simp only [nE,List.all_cons,qh L _ h.1.1,qh L _ h.1.2,Bool.and_self,Bool.true_and];exact this
theorem Gx (L:List Nat) (m:Nat) (x:ax) (h:x.winO L=true):(x.ren (idx L)).ren (bD L m)=x:=by
 cases x <;> simp only [ax.ren,ax.winO] at h ⊢
 . rw [dU L m _ h]
 . rw [dU L m _ h]
 . rw [wj L m _ h]
 . rw [gK m h]
theorem Fb (L:List Nat) (x:ax) (h:x.winO L=true):(x.ren (idx L)).belO L.length=true:=by
 cases x <;> simp only [ax.ren,ax.winO,ax.belO] at h ⊢
 . exact dT L _ h
 . exact dT L _ h
 . exact ye L _ h
 . simpa using oM h
mutual
def aa.objs:aa->List Nat
 | .agg cs=>km cs
 | .tup cs=>km cs
 | .ptr o _=>[o]
 | .pimm cs _=>km cs
 | .pown o _ _ _=>[o]
 | .imm l=>km l
 | .full l=>km l
 | .own o _ _=>[o]
 | .map o=>[o]
 | .fn _ xs ys=>km xs++km ys
 | .itr o=>[o]
 | .iface _ v=>v.objs
 | .any=>[]
 | .bool _=>[]
 | .int _ _=>[]
 | .str _=>[]
 | .nilp=>[]
 | .nilm=>[]
 | .nilfn=>[]
 | .nili=>[]
def km:List aa->List Nat
 | []=>[]
 | x::xs=>x.objs++km xs
end
def Kg:List (aa×aa)->List Nat
 | []=>[]
 | e::es=>e.1.objs++(e.2.objs++Kg es)
def ax.objsO:ax->List Nat
 | .hole=>[]
 | .box cs=>km cs
 | .arr _ es _=>km es
 | .map es=>Kg es
 | .iter m _=>[m]
def rJ (h:ae):Nat->List Nat->List Nat->List Nat
 | 0,_,acc=>acc
 | _+1,[],acc=>acc
 | n+1,o::todo,acc=>bif k5 acc o then rJ h n todo acc else
  match h[o]? with
  | some x=>rJ h n (x.objsO++todo) (acc++[o])
  | none=>rJ h n todo (acc++[o])
def sc (h:ae) (L:List Nat):List Nat->Option ae
 | []=>some []
 | o::os=>match h[o]? with
  | some x=>bif x.winO L then
   match sc h L os with
   | some xs=>some (x.ren (idx L)::xs)
   | none=>none
   else none
  | none=>none
def qS (L:List Nat):Nat->ae->Bool
 | _,[]=>true
 | o,x::h=>(match x with
  | .iter m _=>k5 L o || !(k5 L m)
  | _=>true) && qS L (o+1) h
theorem pz {h:ae} {L:List Nat}:∀ {os:List Nat} {hs:ae},sc h L os=some hs->hs.length=os.length /\
 (∀ (i:Nat) o x,os[i]?=some o->hs[i]?=some x->h[o]?=some (x.ren (bD L h.length)))/\hs.all (ax.belO L.length)=true
 | [],hs,hx=>by simp [sc] at hx;subst hx;simp
 | o::os,hs,hx=>by
  simp only [sc] at hx;split at hx <;> try (simp at hx;done)
  rename_i x ho;cases hw:x.winO L with
  | false=>rw [hw] at hx;simp at hx
  | true =>
   rw [hw] at hx;simp only [cond_true] at hx;split at hx <;> simp at hx;rename_i xs hxs;subst hx;obtain ⟨g1,g2,g3⟩:=pz hxs;refine ⟨by simp [g1],?_,?_⟩
   . intro i p y hp hy;cases i with
     | zero =>
      simp at hp hy;subst hp hy;rw [Gx L _ x hw];exact ho
     | succ i=>simp at hp hy;exact g2 i p y hp hy
   . simp only [List.all_cons,Fb L x hw,Bool.true_and];exact g3
theorem oT {L:List Nat}:∀ {h:ae} {k:Nat},qS L k h=true->∀ (o m:Nat) left,h[o]?=some (.iter m left)->(k+o)∉L->m∉L
 | [],k,_,o,m,left,ho=>by simp at ho
 | x::h,k,hk,o,m,left,ho=>by
  simp only [qS,Bool.and_eq_true] at hk;cases o with
  | zero =>
   simp at ho;subst ho;intro hn hm;have h1:=hk.1;simp only [Bool.or_eq_true,Bool.not_eq_true'] at h1;rcases h1 with h1|h1
   . exact hn (by simpa using (jg L k).1 h1)
   . rw [(jg L m).2 hm] at h1;simp at h1
  | succ o =>
   simp at ho;have:=oT hk.2 o m left ho
   rwa [show k+1+o=k+(o+1) by omega] at this
section
variable {cx:Cx}
theorem mz {f:FuncId} {args:List aa} {h:ae} {K:aa->ae->Prop} (hc:aE cx f (aQ h args) (cG h (aG args)) K):aE cx f args h K:=by
 refine ⟨hc.1,fun ρ w cargs wf hg hv=>?_⟩;obtain ⟨ρ1,q1,q2,q3,q4⟩:=eO (aG args) wf (Fr.refl ρ h w)
 have hv1:VRs ρ1 (cG h (aG args)) w (aQ h args) cargs:=by
  refine ⟨by rw [hv.1,b5];simp,fun i x u hx hu=>?_⟩;rw [b5] at hx;simp at hx;obtain ⟨y,hy,rfl⟩:=hx;exact (hv.2 i y u hy hu).frz q2 q4 (fun o ho=>du hy o ho)
 refine (hc.2 ρ1 w cargs q1 (fun g cs hg'=>(hg g cs hg').nil_mono q2) hv1).mono ?_;rintro e w' ⟨ρ2,cv,v',h',rfl,hk,r1,r2,r3,r4⟩;exact ⟨ρ2,cv,v',h',rfl,hk,r1,r2,q2.trans r3,q3.comp r4⟩
mutual
theorem lN (g h:ae):∀ x:aa,x.owns=[]->x.frz g=x.frz h
 | .agg cs,e=>by simp only [aa.frz,cE g h cs e]
 | .tup cs,e=>by simp only [aa.frz,cE g h cs e]
 | .ptr _ _,_=>rfl
 | .pimm _ _,_=>rfl
 | .pown _ _ _ _,_=>rfl
 | .imm l,e=>by simp only [aa.frz,cE g h l e]
 | .full l,e=>by simp only [aa.frz,cE g h l e]
 | .own o _ _,e=>by simp [aa.owns] at e
 | .map _,_=>rfl
 | .fn _ xs ys,e=>by
  simp only [aa.owns,List.append_eq_nil_iff] at e;simp only [aa.frz,cE g h xs e.1,cE g h ys e.2]
 | .itr _,_=>rfl
 | .iface _ v,e=>by simp only [aa.frz,lN g h v e]
 | .any,_=>rfl
 | .bool _,_=>rfl
 | .int _ _,_=>rfl
 | .str _,_=>rfl
 | .nilp,_=>rfl
 | .nilm,_=>rfl
 | .nilfn,_=>rfl
 | .nili,_=>rfl
theorem cE (g h:ae):∀ xs:List aa,aG xs=[]->aQ g xs=aQ h xs
 | [],_=>rfl
 | x::xs,e=>by
  simp only [aG,List.append_eq_nil_iff] at e;simp only [aQ,lN g h x e.1,cE g h xs e.2]
end
mutual
theorem nj (r:Nat->Nat):∀ x:aa,x.bel 0=true->x.ren r=x
 | .agg cs,h=>by simp only [aa.ren,dc r cs h]
 | .tup cs,h=>by simp only [aa.ren,dc r cs h]
 | .ptr o _,h=>by simp [aa.bel] at h
 | .pimm cs _,h=>by simp only [aa.ren,dc r cs h]
 | .pown o _ _ _,h=>by simp [aa.bel] at h
 | .imm l,h=>by simp only [aa.ren,dc r l h]
 | .full l,h=>by simp only [aa.ren,dc r l h]
 | .own o _ _,h=>by simp [aa.bel] at h
 | .map o,h=>by simp [aa.bel] at h
 | .fn _ xs ys,h=>by
  simp only [aa.bel,Bool.and_eq_true] at h;simp only [aa.ren,dc r xs h.1,dc r ys h.2]
 | .itr o,h=>by simp [aa.bel] at h
 | .iface _ v,h=>by simp only [aa.ren,nj r v h]
 | .any,_=>rfl
 | .bool _,_=>rfl
 | .int _ _,_=>rfl
 | .str _,_=>rfl
 | .nilp,_=>rfl
 | .nilm,_=>rfl
 | .nilfn,_=>rfl
 | .nili,_=>rfl
theorem dc (r:Nat->Nat):∀ xs:List aa,aM 0 xs=true->cV r xs=xs
 | [],_=>rfl
 | x::xs,h=>by
  simp only [aM,Bool.and_eq_true] at h;simp only [cV,nj r x h.1,dc r xs h.2]
end
theorem eg:∀ (os:List Nat) (h:ae),(cG h os).length=h.length
 | [],h=>rfl
 | o::os,h=>by
  simp only [cG];split
  . rw [eg os];simp
  . exact eg os h
theorem jU:∀ (os:List Nat) (h:ae) (o:Nat),o∉os->(cG h os)[o]?=h[o]?
 | [],h,o,_=>rfl
 | p::os,h,o,ho=>by
  simp only [List.mem_cons,not_or] at ho;simp only [cG];split
  . rw [jU os _ o ho.2,List.getElem?_set_ne (fun e=>ho.1 e.symm)]
  . exact jU os h o ho.2
abbrev xl:=FuncId->List aa->ae->Option (aa×ae)
def BH (run:xl) (f:FuncId) (owns:List Nat) (args:List aa) (h:ae):Option (List Nat×aa×ae) :=
 let L:=rJ h 100000 (km args) []
 bif qw L && lR L args && qS L 0 h then
  match sc h L L with
  | some hs=>match run f (cV (idx L) args) hs with
   | some (v,hs')=>bif (owns++L++List.range' h.length (hs'.length - L.length)).isEmpty && !(v.bel 0 && hs'.isEmpty) then none else
    some (owns++L++List.range' h.length (hs'.length - L.length),v.ren (bD L h.length),eU h L hs')
   | none=>none
  | none=>none
 else none
def w8 (lg:md) (run:xl) (raw:FuncId->Bool) (f:FuncId) (args:List aa) (h:ae):Option (List Nat×aa×ae) :=
 match lg f args h with
 | some r=>some r
 | none=>bif raw f then BH run f [] args h else BH run f (aG args) (aQ h args) (cG h (aG args))
def yB (cx:Cx) (run:xl):Prop:=∀ f args h r,run f args h=some r->aE cx f args h fun v h'=>v=r.1/\h'=r.2
theorem pi {run:xl} (hrun:yB cx run) {f:FuncId} {owns:List Nat} {args:List aa} {h:ae} {r:List Nat×aa×ae} (hx:BH run f owns args h=some r) :
 (∀ o,o∉r.1->r.2.2[o]?=h[o]?)/\(∀ o∈owns,o∈r.1)/\(aE cx f args h fun v' g'=>v'=r.2.1/\g'=r.2.2)/\(r.1=[]->af cx f args r.2.1/\aM 0 args=true/\r.2.1.bel 0=true):=by
 unfold BH at hx;dsimp only at hx;generalize hL:rJ h 100000 (km args) []=L at hx;cases hc:qw L && lR L args && qS L 0 h with
 | false=>rw [hc] at hx;simp at hx
 | true =>
  rw [hc] at hx;simp only [cond_true] at hx;simp only [Bool.and_eq_true] at hc;obtain ⟨⟨c1,c2⟩,c3⟩:=hc;split at hx <;> try (simp at hx;done)
  rename_i hs hhs;split at hx <;> try (simp at hx;done)
  rename_i v hs' hr;obtain ⟨g1,g2,g3⟩:=pz hhs;have le:sC h L hs:=⟨g1,pu L c1,g2,by rw [g1];exact g3,fun o m left ho hn=>oT c3 o m left ho (by simpa using hn)⟩;have hA:=hrun _ _ _ _ hr;cases hz:(owns++L++List.range' h.length (hs'.length - L.length)).isEmpty && !(v.bel 0 && hs'.isEmpty) with
  | true=>rw [hz] at hx;simp at hx
  | false =>
   rw [hz] at hx;simp only [cond_false,Option.some.injEq] at hx;subst hx
   have hcall:aE cx f args h fun v' g'=>v'=v.ren (bD L h.length)/\g'=eU h L hs':=by
    have:=fU (K:=fun v' g'=>v'=v.ren (bD L h.length)/\g'=eU h L hs') le hA (by rw [g1];exact dT L args c2) (by
     rintro v' hs1 _ ⟨rfl,rfl⟩;exact ⟨rfl,rfl⟩)
    rwa [dU L h.length args c2] at this
   refine ⟨?_,fun o ho=>by simp [ho],hcall,?_⟩
   . intro o ho;simp only [List.mem_append,not_or,List.mem_range'_1] at ho;by_cases hlt:o<h.length
     . exact iP ho.1.2 hlt
     . have hge:h.length+(hs'.length - L.length)<=o:=by omega
       rw [List.getElem?_eq_none (l:=h) oq,List.getElem?_eq_none];unfold eU;rw [List.length_append,cM,hX];simp;omega
   . intro he;dsimp only at he
     have hL0:L=[]:=by
      simp only [List.append_eq_nil_iff] at he;exact he.1.2
     rw [show (owns++L++List.range' h.length (hs'.length - L.length)).isEmpty=true from by rw [he];rfl] at hz;simp only [Bool.true_and,Bool.not_eq_false',Bool.and_eq_true,List.isEmpty_iff] at hz;subst hL0;have hb:aM 0 (cV (idx []) args)=true:=dT [] args c2
     have hba:cV (idx []) args=args:=by
      have e1:=dU [] 0 args c2;rw [dc _ _ hb] at e1;exact e1
     rw [hba] at hb hr hA;obtain ⟨hv,hs0⟩:=hz;subst hs0;have hsnil:hs=[]:=by simpa using g1
     subst hsnil;refine ⟨?_,hb,by dsimp only;rw [nj _ _ hv];exact hv⟩;dsimp only;rw [nj _ _ hv];exact hA
theorem ln {lg:md} {run:xl} {raw:FuncId->Bool} (hhook:∀ f args h r,lg f args h=some r->jq cx f args h r.1 r.2.1 r.2.2) (hrun:yB cx run) :
 ∀ f args h r,w8 lg run raw f args h=some r->jq cx f args h r.1 r.2.1 r.2.2:=by
 intro f args h r hx;unfold w8 at hx;split at hx
 . rename_i q hq;simp at hx;subst hx;exact hhook _ _ _ _ hq
 . cases hraw:raw f with
   | true =>
    rw [hraw] at hx;obtain ⟨h1,h2,h3,h4⟩:=pi hrun hx;refine ⟨h1,h3,fun e=>?_⟩;obtain ⟨h5,h6,h7⟩:=h4 e;intro g
    have key:=fU (cx:=cx) (h:=g) (L:=[]) (hs:=[]) (args:=args) (Q:=fun v' g'=>v'=r.2.1/\g'=[]) (K:=fun v' g'=>v'=r.2.1/\g'=g) ⟨rfl,.nil,by simp,rfl,by simp⟩ h5 h6 (by
     rintro v' hs' _ ⟨rfl,rfl⟩;refine ⟨?_,by simp [eU,dM,iK]⟩;exact nj _ _ h7)
    rwa [dc _ _ h6] at key
   | false =>
    rw [hraw] at hx;obtain ⟨h1,h2,h3,h4⟩:=pi hrun hx;refine ⟨fun o ho=>?_,mz h3,fun e=>?_⟩
    . rw [h1 o ho,jU _ _ _ (fun hin=>ho (h2 o hin))]
    . obtain ⟨h5,h6,h7⟩:=h4 e
      have ho:aG args=[]:=by
       rcases hoo:aG args with _|⟨o,os⟩
       . rfl
       . have:=h2 o (by rw [hoo];simp);rw [e] at this;simp at this
      intro g;refine iN (by rw [cE g h args ho];exact h5) (by rw [cE g h args ho];exact h6) ?_;rw [ho];exact ⟨rfl,rfl⟩
end
end Go.Proofs.YtcpklndelobigaaGreatDoor.Abs
namespace Go.Proofs.YtcpklndelobigaaGreatDoor.Abs
def CX (P:Program) (T:Tt) (h:ae):List ResultVar->Option (List aa)
 | []=>some []
 | .tmp t::rs=>match CX P T h rs with
  | some l=>some (T.get t::l)
  | none=>none
 | .cell a t::rs=>match me h (T.get a) with
  | some r=>match js P t r.1 r.2 with
   | some x=>match CX P T h rs with
    | some l=>some (x::l)
    | none=>none
   | none=>none
  | none=>none
theorem p9 {P:Program} {T:Tm} {tt:Tt} (hs:fC T tt) (h:ae):∀ rs,CX P tt h rs=fx P T h rs
 | []=>rfl
 | .tmp t::rs=>by
  simp only [CX,fx,p9 hs h rs];cases fx P T h rs with
  | none=>rfl
  | some l=>dsimp only;rw [hs t]
 | .cell a t::rs=>by
  simp only [CX,fx,p9 hs h rs,hs a];cases me h (tt.get a) with
  | none=>rfl
  | some r =>
   dsimp only;cases js P t r.1 r.2 with
   | none=>rfl
   | some x =>
    dsimp only;cases fx P T h rs <;> rfl
def Ds:Nat->List aa->Tt->Tt
 | _,[],T=>T
 | k,x::xs,T=>Ds (k+1) xs (T.setF 12 k x)
theorem xo:∀ (xs:List aa) (k:Nat) (T:Tt) (t:Nat),k+xs.length<=4095->(Ds k xs T).get t=if k<=t/\t<k+xs.length then (xs[t - k]?).getD .any else T.get t
 | [],k,T,t,_=>by simp [Ds];intro h1 h2;omega
 | x::xs,k,T,t,h=>by
  simp only [List.length_cons] at h ⊢;rw [Ds,xo xs (k+1) _ t oq,Tt.get_set 12 T k x t (by show k+1<4096;omega)];by_cases e:t=k
  . subst e;rw [if_neg oq,if_pos rfl,if_pos oq];simp
  . rw [if_neg e];by_cases h1:k+1<=t/\t<k+1+xs.length
    . rw [if_pos h1,if_pos oq,show t - k=(t - (k+1))+1 by omega];simp
    . rw [if_neg h1,if_neg oq]
theorem tn (xs:List aa) (h:xs.length<=4095):fC (kP 0 xs) (Ds 0 xs .e):=by
 intro t;rw [lP,xo xs 0 .e t oq,Tt.get_e];simp only [Nat.zero_le,if_true,Nat.sub_zero,true_and,Nat.zero_add];by_cases e:t<xs.length
 . rw [if_pos e]
 . rw [if_neg e,List.getElem?_eq_none oq];rfl
def jOk (v:aa) (h:ae) (j:Nat):Bool:=v.bel j && (h.take j).all (ax.belO j)
def oL (v:aa) (h:ae):Nat->Nat->Option Nat
 | 0,j=>bif jOk v h j then some j else none
 | c+1,j=>bif jOk v h j then some j else oL v h c (j+1)
theorem k4 {v:aa} {h:ae}:∀ {c j k:Nat},oL v h c j=some k->j<=k/\jOk v h k=true
 | 0,j,k,hx=>by
  simp only [oL] at hx;cases hj:jOk v h j with
  | false=>rw [hj] at hx;simp at hx
  | true=>rw [hj] at hx;simp at hx;subst hx;exact ⟨Nat.le_refl _,hj⟩
 | c+1,j,k,hx=>by
  simp only [oL] at hx;cases hj:jOk v h j with
  | false =>
   rw [hj] at hx;simp at hx;obtain ⟨h1,h2⟩:=k4 hx;exact ⟨by omega,h2⟩
  | true=>rw [hj] at hx;simp at hx;subst hx;exact ⟨Nat.le_refl _,hj⟩
def Exit.fine:Exit->Bool
 | .normal=>true
 | .ret=>true
 | _=>false
def Oz (raw:Bool) (m:Nat) (v:aa) (h:ae):Option (aa×ae) :=
 bif raw then (match oL v h (h.length - m) m with
  | some j=>some (v,h.take j)
  | none=>none)
 else match oL (v.frz h) (cG h v.owns) (h.length - m) m with
  | some j=>some (v.frz h,(cG h v.owns).take j)
  | none=>none
structure XP where
 lf:Nat
 rawArg:FuncId->Bool
 rawRes:FuncId->FuncId->Bool
def xr (P:Program) (G:Nat->Option (List aa)) (lg:md) (p:XP):Nat->Bool->xl
 | 0,_,_,_,_=>none
 | n+1,raw,f,args,h=>match P.funcs[f]? with
  | some fn=>match fn.body with
   | some c=>bif Nat.ble args.length fn.ntmps && Nat.ble fn.ntmps 4095 then
    match d5 P G (w8 lg (fun g=>xr P G lg p n (p.rawRes f g) g) p.rawArg) fn.ntmps p.lf c (Ds 0 args .e) h with
    | some (e,T,h')=>bif Exit.fine e then
     match CX P T h' fn.results.toList with
     | some l=>Oz raw h.length (bg l) h'
     | none=>none
     else none
    | none=>none
    else none
   | none=>none
  | none=>none
section
variable {cx:Cx}
theorem a8 (hmix : cx.P.follows .mixedOrders = true) (hname : ∀ (f : FuncId) (fn : Func), cx.P.funcs[f]? = some fn → (fn.name == "runtime.NumGoroutine") = false) {lg : md} (hhook : ∀ f args h r, lg f args h = some r → jq cx f args h r.1 r.2.1 r.2.2) {p : XP} : ∀ n raw, yB cx (xr cx.P cx.G lg p n raw)
 | 0,_=>fun f args h r hx=>by simp [xr] at hx
 | n+1,raw=>fun f args h r hx=>by
  simp only [xr] at hx;split at hx <;> try (simp at hx;done)
  rename_i fn hf;split at hx <;> try (simp at hx;done)
  rename_i c hb;cases hc:Nat.ble args.length fn.ntmps && Nat.ble fn.ntmps 4095 with
  | false=>rw [hc] at hx;simp at hx
  | true =>
   rw [hc] at hx;simp only [Bool.and_eq_true,Nat.ble_eq] at hc;simp only [cond_true] at hx;split at hx <;> try (simp at hx;done)
   rename_i e T h' hr;cases he:Exit.fine e with
   | false=>rw [he] at hx;simp at hx
   | true =>
    rw [he] at hx;simp only [cond_true] at hx;split at hx <;> try (simp at hx;done)
    rename_i l hl;have hcall:=ln (raw:=p.rawArg) (run:=fun g=>xr cx.P cx.G lg p n (p.rawRes f g) g) hhook (fun g args h r hx=>a8 hmix hname hhook (p:=p) n _ g args h r hx);have hfine:e=.normal\/e=.ret:=by cases e <;> simp [Exit.fine] at he <;> simp
    unfold Oz at hx;cases raw with
    | true =>
     simp only [cond_true] at hx;split at hx <;> simp at hx;rename_i j hj;subst hx;obtain ⟨j1,j2⟩:=k4 hj;simp only [jOk,Bool.and_eq_true] at j2;refine gX hf hb (hname f fn hf) hc.1 ?_;refine cf hmix hcall hc.2 c _ h _ _ _ _ _ (tn args (Nat.le_trans hc.1 hc.2)) hr ?_;intro T' hT';exact ⟨hfine,l,by rw [<- p9 hT'];exact hl,j,j1,j2.1,j2.2,rfl,rfl⟩
    | false =>
     simp only [cond_false] at hx;split at hx <;> simp at hx;rename_i j hj;subst hx;obtain ⟨j1,j2⟩:=k4 hj;simp only [jOk,Bool.and_eq_true] at j2;refine lm hf hb (hname f fn hf) hc.1 ?_;refine cf hmix hcall hc.2 c _ h _ _ _ _ _ (tn args (Nat.le_trans hc.1 hc.2)) hr ?_;intro T' hT';exact ⟨hfine,l,by rw [<- p9 hT'];exact hl,j,j1,j2.1,j2.2,rfl,rfl⟩
end
end Go.Proofs.YtcpklndelobigaaGreatDoor.Abs
namespace Go.Proofs.YtcpklndelobigaaGreatDoor.Abs
def Pk (i:Nat):Code->Code
 | .seq a b=>bif Nat.beq i 0 then a else b
 | .cond _ a b=>bif Nat.beq i 0 then a else b
 | .block _ c=>c
 | .loop c=>c
 | .scope c=>c
 | c=>c
def at_ (c:Code):List Nat->Code
 | []=>c
 | i::p=>Pk i (at_ c p)
def bU:Code->Nat
 | .seq _ _=>1
 | .cond _ _ _=>2
 | .block _ _=>3
 | .loop _=>4
 | .skip=>7
 | .ret=>8
 | .exit _=>9
 | .scope _=>10
 | .label _=>11
 | _=>0
def sj:Code->Operand
 | .cond o _ _=>o
 | _=>.const (.bool false)
def IB:Code->Nat
 | .block id _=>id
 | .exit id=>id
 | _=>0
def oZ:Code->Array Oper
 | .region _ ops _=>ops
 | _=>#[]
def bOf (n:Nat) (c:Code):List BOp:=match sR n (oZ c) (oZ c).toList with
 | some l=>l
 | none=>[]
def qL (n:Nat):Code->Bool
 | .region _ ops false=>(sR n ops ops.toList).isSome
 | _=>false
def F6 (n:Nat):Code->Bool
 | .region _ ops true=>(sR n ops ops.toList).isSome && gA 0 ops.toList
 | _=>false
def sS (Q:cD):Prop:=∀ T T' h,(∀ t,Tm.get T t=Tm.get T' t)->Q .normal T h->Q .normal T' h
def DN (K:Tm->ae->Prop):Prop:=∀ T T' h,(∀ t,Tm.get T t=Tm.get T' t)->K T h->K T' h
section
variable {cx:Cx} {n m:Nat} {Q:cD} {T:Tm} {h:ae} {c:Code} {p:List Nat}
theorem fu (hk:bU (at_ c p)=1) (hw:wpA cx n m (at_ c (0::p)) (cn (wpA cx n m (at_ c (1::p)) Q) Q) T h):wpA cx n m (at_ c p) Q T h:=by
 simp only [at_] at hw;generalize at_ c p=d at hk hw;cases d <;> simp [bU] at hk
 exact Bn hw
theorem wIf (hk:bU (at_ c p)=2) (b:Bool) (hb:aev cx.G T (sj (at_ c p))=.bool b) (h1:b=true->wpA cx n m (at_ c (0::p)) Q T h) (h2:b=false->wpA cx n m (at_ c (1::p)) Q T h):wpA cx n m (at_ c p) Q T h:=by
 simp only [at_] at h1 h2;generalize at_ c p=d at hk hb h1 h2;cases d <;> simp [bU] at hk
 exact Du b hb h1 h2
theorem cJ (hk:bU (at_ c p)=2) (hb:aev cx.G T (sj (at_ c p))=.bool true) (h1:wpA cx n m (at_ c (0::p)) Q T h):wpA cx n m (at_ c p) Q T h :=
 wIf hk true hb (fun _=>h1) (fun e=>by cases e)
theorem fM (hk:bU (at_ c p)=2) (hb:aev cx.G T (sj (at_ c p))=.bool false) (h2:wpA cx n m (at_ c (1::p)) Q T h):wpA cx n m (at_ c p) Q T h :=
 wIf hk false hb (fun e=>by cases e) (fun _=>h2)
theorem LJ (id:Nat) (hk:bU (at_ c p)=3) (hid:IB (at_ c p)=id) (hw:wpA cx n m (at_ c (0::p)) (AIn id Q) T h):wpA cx n m (at_ c p) Q T h:=by
 simp only [at_] at hw;generalize at_ c p=d at hk hid hw;cases d <;> simp [bU] at hk
 simp only [IB] at hid;subst hid;exact tL hw
theorem L4 (hk:bU (at_ c p)=10) (hw:wpA cx n m (at_ c (0::p)) (uZ Q) T h):wpA cx n m (at_ c p) Q T h:=by
 simp only [at_] at hw;generalize at_ c p=d at hk hw;cases d <;> simp [bU] at hk
 exact tR hw
theorem K7 (hk:bU (at_ c p)=11) (hq:Q .normal T h):wpA cx n m (at_ c p) Q T h:=by
 generalize at_ c p=d at hk;cases d <;> simp [bU] at hk
 exact te hq
theorem rX (hk:bU (at_ c p)=7) (hq:Q .normal T h):wpA cx n m (at_ c p) Q T h:=by
 generalize at_ c p=d at hk;cases d <;> simp [bU] at hk
 exact xY hq
theorem bq (hk:bU (at_ c p)=8) (hq:Q .ret T h):wpA cx n m (at_ c p) Q T h:=by
 generalize at_ c p=d at hk;cases d <;> simp [bU] at hk
 exact BR hq
theorem aK (id:Nat) (hk:bU (at_ c p)=9) (hid:IB (at_ c p)=id) (hq:Q (.exit id) T h):wpA cx n m (at_ c p) Q T h:=by
 generalize at_ c p=d at hk hid;cases d <;> simp [bU] at hk
 simp only [IB] at hid;subst hid;exact wR hq
theorem iJ (hk:qL n (at_ c p)=true) (hw:kw cx (bOf n (at_ c p)) T h (fun T' h'=>Q .normal T' h')):wpA cx n m (at_ c p) Q T h:=by
 generalize at_ c p=d at hk hw;unfold qL at hk;split at hk <;> try (simp at hk;done)
 rename_i id ops;obtain ⟨l,hl⟩:=Option.isSome_iff_exists.1 hk;simp only [bOf,oZ,hl] at hw;exact rG (gL _ _ _ _ hl hw)
theorem Mi (hm:cx.P.follows .mixedOrders=true) (hk:F6 n (at_ c p)=true) (hq:sS Q)
 (hw:gZ cx (bOf n (at_ c p)) h.length T (h++gx (nAl (oZ (at_ c p)).toList)) [] (fun rs T' h'=>lM (oZ (at_ c p)) rs=true/\Q .normal T' h')):wpA cx n m (at_ c p) Q T h:=by
 generalize at_ c p=d at hk hw;unfold F6 at hk;split at hk <;> try (simp at hk;done)
 rename_i id ops;rw [Bool.and_eq_true] at hk;obtain ⟨l,hl⟩:=Option.isSome_iff_exists.1 hk.1;simp only [bOf,oZ,hl] at hw;exact we hm hk.2 hq (fW _ _ _ _ _ _ hl hw)
theorem aU {σ:Type} (S:σ->Tm) (H:σ->ae) (I:σ->Prop) (μ:σ->Nat) (s0:σ) (hk:bU (at_ c p)=4) (i0:I s0) (h0:fI m T h (S s0) (H s0))
 (round:∀ s,I s->wpA cx n m (at_ c (0::p)) (cn (fun T' h'=>∃ s',μ s'<μ s/\I s'/\fI m T' h' (S s') (H s')) Q) (S s) (H s)):wpA cx n m (at_ c p) Q T h:=by
 simp only [at_] at round;generalize at_ c p=d at hk round;cases d <;> simp [bU] at hk
 exact Ao S H I μ s0 i0 h0 round
def rnd (cx:Cx) (n m:Nat) (d:Code) (Q:cD):Nat->Tm->ae->Prop
 | 0,_,_=>False
 | j+1,T,h=>wpA cx n m d (cn (rnd cx n m d Q j) Q) T h
theorem Gy {d:Code} {j:Nat} (hr:rnd cx n m d Q j T h):wpA cx n m (.loop d) Q T h:=by
 refine rg (fun k T h=>rnd cx n m d Q k T h) j hr ?_;intro k T h hk;cases k with
 | zero=>exact hk.elim
 | succ k =>
  refine lh hk ?_;intro e T' h' q;cases e with
  | normal=>exact ⟨k,Nat.lt_succ_self k,q⟩
  | _=>exact q
theorem Oe (j:Nat) (hk:bU (at_ c p)=4) (hr:rnd cx n m (at_ c (0::p)) Q j T h):wpA cx n m (at_ c p) Q T h:=by
 simp only [at_] at hr;generalize at_ c p=d at hk hr;cases d <;> simp [bU] at hk
 exact Gy hr
theorem Pa {d:Code} {j:Nat} (hw:wpA cx n m d (cn (rnd cx n m d Q j) Q) T h):rnd cx n m d Q (j+1) T h:=hw
theorem wSt (L:List Nat) (T':Tm) (h':ae) (hT:fX L T=T') (hh:h=h') {d:Code} (hw:wpA cx n m d Q T' h'):wpA cx n m d Q T h:=by
 subst hT hh;exact FP (fun t=>D4 L T t) hw
theorem jZ (d sz:Nat) (hsz:0<sz) (hT:Tm.get T d=.full []) {d':Code} (hw:wpA cx n m d' Q ((d,.own h.length 0 0)::T) (h++[.arr sz [] 0])):wpA cx n m d' Q T h:=by
 intro E B ρ a w hm hr
 have hst:=b6 (h':=h++[.arr sz [] 0]) (w':=w) hr.wf hr.fr h.length (.arr sz [] 0) ⟨0,0,0⟩ ρ.I (getElem?_append_one _ _) (fun o' ho=>bz _ _ _ ho)
  rfl rfl rfl (Nat.le_refl _) (fun _ _ _=>rfl) zq (fun b j hI=>⟨hI,rfl⟩) (fun b j hI=>.inl hI)
  (fun hb=>by simp [ax.hasBlk] at hb) (fun j hb=>by simp [ax.hasBlk] at hb) (cr hr.wf)
  (fun _=>⟨Nat.le_refl _,Nat.le_refl _,hsz,by simp,fun hc=>by simp at hc⟩)
 have hr2:=hr.step hst.1 hst.2.1 hst.2.2;refine hw E B _ a w hm ⟨fun t=>?_,hr2.size,hr2.defers,hr2.glob,hr2.wf,hr2.fr,hr2.le⟩;simp only [Tm.get];by_cases e:d=t
 . subst e;rw [if_pos rfl];have hv:=hr.tm d;rw [hT] at hv
   obtain ⟨ad,hv2⟩:∃ ad,a.tmps.getD d undef=.slice ad 0 0:=by
    cases hce:a.tmps.getD d undef <;> rw [hce] at hv <;> cases hv
    exact ⟨_,rfl⟩
   rw [hv2];refine .own _ _ _ _ _ _ sz [] 0 (getElem?_append_one _ _) ⟨by simp,fun _=>⟨rfl,?_,fun h0=>by simp at h0⟩⟩;rw [Ren.put_same]
 . rw [if_neg e];exact hr2.tm t
theorem aj {d:Code} {Q':cD}:sS (cn (wpA cx n m d Q) Q'):=fun _ _ _ he hw=>uL he hw
theorem dE {id:Nat} (hq:sS Q):sS (AIn id Q):=fun T T' h he hw=>hq T T' h he hw
theorem LeL.ext {T T':Tm} (he:∀ t,Tm.get T t=Tm.get T' t):∀ {S:Tm},LeL T S->LeL T' S
 | [],_=>trivial
 | p::S,hl=>⟨(he p.1).symm.trans hl.1,LeL.ext he hl.2⟩
theorem fI.ext {T T' S:Tm} {g:ae} (he:∀ t,Tm.get T t=Tm.get T' t) (hf:fI m T h S g):fI m T' h S g:=⟨hf.le.ext he,hf.bel,hf.len,hf.heap,hf.objs⟩
theorem q8 {P:Program} {T T':Tm} (he:∀ t,Tm.get T t=Tm.get T' t) (h:ae):∀ rs,fx P T h rs=fx P T' h rs
 | []=>rfl
 | .tmp t::rs=>by simp only [fx,q8 he h rs,he t]
 | .cell a t::rs=>by simp only [fx,q8 he h rs,he a]
theorem yQ {rs:List ResultVar} {q:aa->ae->Prop}:sS (Fin cx rs m q):=by
 rintro T T' h he ⟨h1,l,h2,h3⟩;exact ⟨h1,l,by rw [<- q8 he];exact h2,h3⟩
def hdB:List BOp->BOp
 | o::_=>o
 | []=>⟨none,none,.move (.const (.bool false))⟩
def bc:List BOp->Bool
 | _::_=>true
 | []=>false
abbrev RSt:=Tm×ae
def L7 (P:Program) (G:Nat->Option (List aa)) (o:BOp) (S:RSt):Option RSt:=match bi S.1 o.g with
 | some true=>match aop P S.2 (aev G S.1) o.op with
  | some r=>some (b3 S.1 o.dst r.1,r.2)
  | none=>none
 | some false=>some (b3 S.1 o.dst (.tup []),S.2)
 | none=>none
def jo (P:Program) (G:Nat->Option (List aa)):Nat->List BOp->RSt->Option RSt
 | 0,_,S=>some S
 | j+1,o::os,S=>match L7 P G o S with
  | some r=>jo P G j os r
  | none=>none
 | _+1,[],_=>none
def rS:Option RSt->RSt
 | some r=>r
 | none=>([],[])
def Cl (S:RSt) (d:Option Nat) (v:aa):RSt:=(b3 S.1 d v,S.2)
def N7 (S:RSt) (d:Option Nat) (v:aa) (o:Nat) (x:ax):RSt:=(b3 S.1 d v,S.2.set o x)
def QL (S:RSt) (d:Option Nat) (v:aa) (os:List Nat):RSt:=(b3 S.1 d v,cG S.2 os)
def IQ (S:RSt) (d:Nat) (y:aa):RSt:=((d,y)::S.1,S.2)
structure bS (cx:Cx) (l:List BOp) (S:RSt) (K:Tm->ae->Prop):Prop where
 out:kw cx l S.1 S.2 K
variable {l:List BOp} {K:Tm->ae->Prop} {S:RSt}
theorem cY (hk:bS cx l (T,h) K):kw cx l T h K:=hk.out
theorem fh (j:Nat) (ho:(jo cx.P cx.G j l S).isSome=true) (hk:bS cx (l.drop j) (rS (jo cx.P cx.G j l S)) K):bS cx l S K:=by
 induction j generalizing l S with
 | zero=>simpa [jo,rS] using hk
 | succ j ih =>
  cases l with
  | nil=>simp [jo] at ho
  | cons o os =>
   simp only [jo] at ho hk;cases h1:L7 cx.P cx.G o S with
   | none=>rw [h1] at ho;simp at ho
   | some r =>
    rw [h1] at ho hk;have:=(ih ho (by simpa using hk)).out;unfold L7 at h1;refine ⟨?_⟩;simp only [kw];split at h1
    . rename_i hg;rw [hg];split at h1 <;> simp at h1;rename_i q hq;simp only [kr,hq,lY];subst h1;exact .inl this
    . rename_i hg;rw [hg];simp at h1;subst h1;exact this
    . simp at h1
theorem i9 {v:aa} {h':ae} (hc:bc l=true) (hg:bi S.1 (hdB l).g=some true) (ho:aop cx.P S.2 (aev cx.G S.1) (hdB l).op=some (v,h')) (hk:bS cx l.tail (b3 S.1 (hdB l).dst v,h') K):bS cx l S K:=by
 cases l with
 | nil=>simp [bc] at hc
 | cons o os =>
  refine ⟨?_⟩;simp only [hdB] at hg ho;simp only [kw,hg,kr,ho,lY];exact .inl hk.out
theorem RZ {q r:aa×ae} (hc:bc l=true) (hg:bi S.1 (hdB l).g=some true) (ho:aop cx.P S.2 (aev cx.G S.1) (hdB l).op=some r) (hb:bso cx.P S.2 (aev cx.G S.1) (hdB l).op=some q) (hk:bS cx l.tail (b3 S.1 (hdB l).dst q.1,q.2) K):bS cx l S K:=by
 cases l with
 | nil=>simp [bc] at hc
 | cons o os =>
  refine ⟨?_⟩;simp only [hdB] at hg ho hb;simp only [kw,hg,kr,ho,lY,hb,PO];exact .inr hk.out
theorem Rk {v:aa} (hc:bc l=true) (hg:bi S.1 (hdB l).g=some true) (ho:aop cx.P S.2 (aev cx.G S.1) (hdB l).op=some (v,S.2)) (hk:bS cx l.tail (Cl S (hdB l).dst v) K):bS cx l S K:=i9 hc hg ho hk
theorem Nx {v:aa} {o:Nat} {x:ax} (hc:bc l=true) (hg:bi S.1 (hdB l).g=some true) (ho:aop cx.P S.2 (aev cx.G S.1) (hdB l).op=some (v,S.2.set o x)) (hk:bS cx l.tail (N7 S (hdB l).dst v o x) K):bS cx l S K:=i9 hc hg ho hk
theorem wq {f:FuncId} {args:List aa} {q:aa->ae->Prop} (hc:bc l=true) (hg:bi S.1 (hdB l).g=some true) (ho:aop cx.P S.2 (aev cx.G S.1) (hdB l).op=none) (ha:aI (aev cx.G S.1) (hdB l).op=some (f,args)) (hq:aE cx f args S.2 q)
 (hk:∀ v h',q v h'->bS cx l.tail (b3 S.1 (hdB l).dst v,h') K):bS cx l S K:=by
 cases l with
 | nil=>simp [bc] at hc
 | cons o os =>
  simp only [hdB] at hg ho ha;refine ⟨?_⟩;simp only [kw,hg,kr,ho,lY,ha,vH];exact hq.mono fun v h' q=>(hk v h' q).out
theorem Mq {f:FuncId} {args args':List aa} {v:aa} (hc:bc l=true) (hg:bi S.1 (hdB l).g=some true) (ho:aop cx.P S.2 (aev cx.G S.1) (hdB l).op=none) (ha:aI (aev cx.G S.1) (hdB l).op=some (f,args)) (hq:af cx f args' v) (hf:aQ S.2 args=args') (hb:aM 0 args'=true)
 (hk:bS cx l.tail (QL S (hdB l).dst v (aG args)) K):bS cx l S K :=
 wq hc hg ho ha (Ca (K:=fun v' h'=>v'=v/\h'=cG S.2 (aG args)) hq hf hb ⟨rfl,rfl⟩) (by rintro v' h' ⟨rfl,rfl⟩;exact hk)
theorem my {f:FuncId} {args args':List aa} {v:aa} (hc:bc l=true) (hg:bi S.1 (hdB l).g=some true) (ho:aop cx.P S.2 (aev cx.G S.1) (hdB l).op=none) (ha:aI (aev cx.G S.1) (hdB l).op=some (f,args)) (hq:af cx f args' v) (hf:aQ S.2 args=args') (hb:aM 0 args'=true) (hw:aG args=[])
 (hk:bS cx l.tail (Cl S (hdB l).dst v) K):bS cx l S K :=
 Mq hc hg ho ha hq hf hb (by rw [hw];exact hk)
theorem lj {L:List (aa×ae)} (hc:bc l=true) (hg:bi S.1 (hdB l).g=some true) (ho:aop cx.P S.2 (aev cx.G S.1) (hdB l).op=none) (ha:aI (aev cx.G S.1) (hdB l).op=none) (hx:anx cx.P S.2 (aev cx.G S.1) (hdB l).op=some L)
 (hk:∀ r,r∈L->bS cx l.tail (b3 S.1 (hdB l).dst r.1,r.2) K):bS cx l S K:=by
 cases l with
 | nil=>simp [bc] at hc
 | cons o os =>
  simp only [hdB] at hg ho ha hx;refine ⟨?_⟩;simp only [kw,hg,kr,ho,lY,ha,vH,hx,Hv];exact fun r hr=>(hk r hr).out
theorem ia (hc:bc l=false) (hk:K S.1 S.2):bS cx l S K:=by
 cases l with
 | nil=>exact ⟨hk⟩
 | cons o os=>simp [bc] at hc
theorem ri {T S:Tm} (he:∀ t,Tm.get T t=Tm.get S t) (g:Option (Nat×Bool)):bi T g=bi S g:=by
 cases g with
 | none=>rfl
 | some q=>simp only [bi,he]
theorem jf (hx:DN K):∀ (l:List BOp) {T S:Tm} {h:ae},(∀ t,Tm.get T t=Tm.get S t)->kw cx l T h K->kw cx l S h K
 | [],T,S,h,he,hb=>hx T S h he hb
 | o::os,T,S,h,he,hb=>by
  have hp:∀ v t,Tm.get (b3 T o.dst v) t=Tm.get (b3 S o.dst v) t:=by
   intro v t;rw [gB,gB,he]
  simp only [kw,ri he,uU (cx:=cx) he] at hb ⊢;cases hg:bi S o.g with
  | none=>rw [hg] at hb;exact hb.elim
  | some t =>
   rw [hg] at hb;cases t with
   | false=>exact jf hx os (hp _) hb
   | true =>
    simp only [kr] at hb ⊢;cases ho:aop cx.P h (aev cx.G S) o.op with
    | some r =>
     rw [ho] at hb;rcases hb with hb|hb
     . exact .inl (jf hx os (hp _) hb)
     . refine .inr ?_;cases hs:bso cx.P h (aev cx.G S) o.op with
       | none=>rw [hs] at hb;exact hb.elim
       | some w=>rw [hs] at hb;exact jf hx os (hp _) hb
    | none =>
     rw [ho] at hb;simp only [lY] at hb ⊢;cases hcl:aI (aev cx.G S) o.op with
     | none =>
      rw [hcl] at hb;simp only [vH] at hb ⊢;cases hnx:anx cx.P h (aev cx.G S) o.op with
      | none=>rw [hnx] at hb;exact hb.elim
      | some L=>rw [hnx] at hb;exact fun r hr=>jf hx os (hp _) (hb r hr)
     | some q =>
      rw [hcl] at hb;exact aE.mono hb fun v h' q=>jf hx os (hp _) q
theorem yU (d:Nat) (x y:aa) (hx:DN K) (hT:Tm.get S.1 d=x) (e:x=y) (hk:bS cx l (IQ S d y) K):bS cx l S K:=by
 refine ⟨jf hx l (fun t=>?_) hk.out⟩;show Tm.get ((d,y)::S.1) t=_;simp only [Tm.get];by_cases hd:d=t
 . subst hd;rw [if_pos rfl,hT,e]
 . rw [if_neg hd]
theorem ky {d':Code} (d:Nat) (x y:aa) (hT:Tm.get T d=x) (e:x=y) (hk:wpA cx n m d' Q ((d,y)::T) h):wpA cx n m d' Q T h:=by
 refine uL (fun t=>?_) hk;simp only [Tm.get];by_cases hd:d=t
 . subst hd;rw [if_pos rfl,hT,e]
 . rw [if_neg hd]
abbrev DSt:=Nat×Tm×ae×List (List Nat×List Nat)
def GJ (P:Program) (G:Nat->Option (List aa)) (o:BOp) (s:DSt):Option DSt:=match bi s.2.1 o.g with
 | some true=>bif e8 o.op then
  (match apl P (aev G s.2.1) o.op with
  | some cs=>bif lr s.2.2.1 s.1 then some (s.1+1,b3 s.2.1 o.dst (.ptr s.1 0),s.2.2.1.set s.1 (.box cs),s.2.2.2++[([s.1],[s.1])]) else none
  | none=>none)
  else match aop P s.2.2.1 (aev G s.2.1) o.op with
  | some r=>some (s.1,b3 s.2.1 o.dst r.1,r.2,s.2.2.2++[(ard (aev G s.2.1) o.op,awr s.2.2.1 (aev G s.2.1) o.op)])
  | none=>none
 | some false=>some (bif e8 o.op then s.1+1 else s.1,b3 s.2.1 o.dst (.tup []),s.2.2.1,s.2.2.2++[([],[])])
 | none=>none
def un (P:Program) (G:Nat->Option (List aa)):Nat->List BOp->DSt->Option DSt
 | 0,_,s=>some s
 | j+1,o::os,s=>match GJ P G o s with
  | some r=>un P G j os r
  | none=>none
 | _+1,[],_=>none
def dS:Option DSt->DSt
 | some r=>r
 | none=>(0,[],[],[])
structure bdr (cx:Cx) (l:List BOp) (s:DSt) (K:List (List Nat×List Nat)->Tm->ae->Prop):Prop where
 out:gZ cx l s.1 s.2.1 s.2.2.1 s.2.2.2 K
variable {KD:List (List Nat×List Nat)->Tm->ae->Prop} {s:DSt}
theorem yE {k:Nat} {rs:List (List Nat×List Nat)} (hk:bdr cx l (k,T,h,rs) KD):gZ cx l k T h rs KD:=hk.out
theorem Q6 (j:Nat) (ho:(un cx.P cx.G j l s).isSome=true) (hk:bdr cx (l.drop j) (dS (un cx.P cx.G j l s)) KD):bdr cx l s KD:=by
 induction j generalizing l s with
 | zero=>simpa [un,dS] using hk
 | succ j ih =>
  cases l with
  | nil=>simp [un] at ho
  | cons o os =>
   simp only [un] at ho hk;cases h1:GJ cx.P cx.G o s with
   | none=>rw [h1] at ho;simp at ho
   | some r =>
    rw [h1] at ho hk;have:=(ih ho (by simpa using hk)).out;unfold GJ at h1;refine ⟨?_⟩;simp only [gZ];split at h1
    . rename_i hg;rw [hg];cases hal:e8 o.op with
      | true =>
       rw [hal] at h1;simp only [cond_true] at h1;split at h1 <;> try (simp at h1;done)
       rename_i cs hcs;cases hh:lr s.2.2.1 s.1 with
       | false=>rw [hh] at h1;simp at h1
       | true =>
        rw [hh] at h1;simp at h1;subst h1;simp only [kr,hcs,HK];exact ⟨trivial,this⟩
      | false =>
       rw [hal] at h1;simp only [cond_false] at h1;split at h1 <;> simp at h1;rename_i q hq;simp only [kr,hq,lY];subst h1;exact this
    . rename_i hg;rw [hg];simp at h1;subst h1;exact this
    . simp at h1
def FX (cx:Cx) (s:DSt) (o:BOp) (v:aa) (h':ae):DSt:=(s.1,b3 s.2.1 o.dst v,h',s.2.2.2++[(ard (aev cx.G s.2.1) o.op,awr s.2.2.1 (aev cx.G s.2.1) o.op)])
def NW (cx:Cx) (s:DSt) (o:BOp) (v:aa):DSt:=FX cx s o v s.2.2.1
def OB (cx:Cx) (s:DSt) (o:BOp) (v:aa) (ob:Nat) (x:ax):DSt:=FX cx s o v (s.2.2.1.set ob x)
def KP (s:DSt) (o:BOp) (v:aa):DSt:=(s.1,b3 s.2.1 o.dst v,s.2.2.1,s.2.2.2++[([],[])])
def Nd (s:DSt) (d:Nat) (y:aa):DSt:=(s.1,(d,y)::s.2.1,s.2.2.1,s.2.2.2)
theorem AN {v:aa} {h':ae} (hc:bc l=true) (hg:bi s.2.1 (hdB l).g=some true) (hal:e8 (hdB l).op=false) (ho:aop cx.P s.2.2.1 (aev cx.G s.2.1) (hdB l).op=some (v,h'))
 (hk:bdr cx l.tail (FX cx s (hdB l) v h') KD):bdr cx l s KD:=by
 cases l with
 | nil=>simp [bc] at hc
 | cons o os =>
  simp only [hdB] at hg ho hal;refine ⟨?_⟩;simp only [gZ,hg,kr,hal,ho,lY];exact hk.out
theorem Rv {v:aa} (hc:bc l=true) (hg:bi s.2.1 (hdB l).g=some true) (hal:e8 (hdB l).op=false) (ho:aop cx.P s.2.2.1 (aev cx.G s.2.1) (hdB l).op=some (v,s.2.2.1)) (hk:bdr cx l.tail (NW cx s (hdB l) v) KD):bdr cx l s KD:=AN hc hg hal ho hk
theorem O3 {v:aa} {ob:Nat} {x:ax} (hc:bc l=true) (hg:bi s.2.1 (hdB l).g=some true) (hal:e8 (hdB l).op=false) (ho:aop cx.P s.2.2.1 (aev cx.G s.2.1) (hdB l).op=some (v,s.2.2.1.set ob x)) (hk:bdr cx l.tail (OB cx s (hdB l) v ob x) KD):bdr cx l s KD:=AN hc hg hal ho hk
theorem Eb {f:FuncId} {args:List aa} {L:List Nat} {v:aa} {h':ae} (hc:bc l=true) (hg:bi s.2.1 (hdB l).g=some true) (hal:e8 (hdB l).op=false) (ho:aop cx.P s.2.2.1 (aev cx.G s.2.1) (hdB l).op=none) (ha:aI (aev cx.G s.2.1) (hdB l).op=some (f,args))
 (hq:jq cx f args s.2.2.1 L v h') (hk:bdr cx l.tail (s.1,b3 s.2.1 (hdB l).dst v,h',s.2.2.2++[(L,L)]) KD):bdr cx l s KD:=by
 cases l with
 | nil=>simp [bc] at hc
 | cons o os =>
  simp only [hdB] at hg ho ha hal;refine ⟨?_⟩;simp only [gZ,hg,kr,hal,ho,lY,ha,vH];exact ⟨L,v,h',hq,hk.out⟩
theorem GY {f:FuncId} {args args':List aa} {v:aa} (hc:bc l=true) (hg:bi s.2.1 (hdB l).g=some true) (hal:e8 (hdB l).op=false) (ho:aop cx.P s.2.2.1 (aev cx.G s.2.1) (hdB l).op=none) (ha:aI (aev cx.G s.2.1) (hdB l).op=some (f,args))
 (hq:af cx f args' v) (hf:∀ g,aQ g args=args') (hb:aM 0 args'=true) (hw:aG args=[]) (hk:bdr cx l.tail (KP s (hdB l) v) KD):bdr cx l s KD :=
 Eb hc hg hal ho ha (Al hf hq hb hw) hk
theorem bh (hc:bc l=false) (hk:KD s.2.2.2 s.2.1 s.2.2.1):bdr cx l s KD:=by
 cases l with
 | nil=>exact ⟨hk⟩
 | cons o os=>simp [bc] at hc
theorem jw (hx:∀ rs,DN (KD rs)):∀ (l:List BOp) {k:Nat} {T S:Tm} {h:ae} {rs:List (List Nat×List Nat)},(∀ t,Tm.get T t=Tm.get S t)->gZ cx l k T h rs KD->gZ cx l k S h rs KD
 | [],k,T,S,h,rs,he,hb=>hx rs T S h he hb
 | o::os,k,T,S,h,rs,he,hb=>by
  have hp:∀ v t,Tm.get (b3 T o.dst v) t=Tm.get (b3 S o.dst v) t:=by
   intro v t;rw [gB,gB,he]
  simp only [gZ,ri he,uU (cx:=cx) he] at hb ⊢;cases hg:bi S o.g with
  | none=>rw [hg] at hb;exact hb.elim
  | some t =>
   rw [hg] at hb;cases t with
   | false=>exact jw hx os (hp _) hb
   | true =>
    simp only [kr] at hb ⊢;cases hal:e8 o.op with
    | true =>
     rw [hal] at hb;simp only at hb ⊢;cases hpl:apl cx.P (aev cx.G S) o.op with
     | none=>rw [hpl] at hb;exact hb.elim
     | some cs=>rw [hpl] at hb;exact ⟨hb.1,jw hx os (hp _) hb.2⟩
    | false =>
     rw [hal] at hb;simp only at hb ⊢;cases ho:aop cx.P h (aev cx.G S) o.op with
     | some r=>rw [ho] at hb;exact jw hx os (hp _) hb
     | none =>
      rw [ho] at hb;simp only [lY] at hb ⊢;cases hcl:aI (aev cx.G S) o.op with
      | none=>rw [hcl] at hb;exact hb.elim
      | some q =>
       rw [hcl] at hb;obtain ⟨L,v,h',q1,q2⟩:=hb;exact ⟨L,v,h',q1,jw hx os (hp _) q2⟩
theorem bL (d:Nat) (x y:aa) (hx:∀ rs,DN (KD rs)) (hT:Tm.get s.2.1 d=x) (e:x=y) (hk:bdr cx l (Nd s d y) KD):bdr cx l s KD:=by
 refine ⟨jw hx l (fun t=>?_) hk.out⟩;show Tm.get ((d,y)::s.2.1) t=_;simp only [Tm.get];by_cases hd:d=t
 . subst hd;rw [if_pos rfl,hT,e]
 . rw [if_neg hd]
theorem bN {ops:Array Oper} (hq:sS Q):∀ rs,DN (fun T' h'=>lM ops rs=true/\Q .normal T' h'):=fun _ T T' h he ⟨h1,h2⟩=>⟨h1,hq T T' h he h2⟩
theorem yW (hq:sS Q):DN (fun T' h'=>Q .normal T' h'):=fun T T' h he h2=>hq T T' h he h2
end
end Go.Proofs.YtcpklndelobigaaGreatDoor.Abs
namespace Go.Proofs.YtcpklndelobigaaGreatDoor.Abs
def GG (ev:Operand->aa):Op->Option (Nat×aa×aa)
 | .indexAddr t x i=>some (t,ev x,ev i)
 | _=>none
def wX (ev:Operand->aa):Op->Option (BinOp×aa×aa)
 | .binOp op _ x y _=>some (op,ev x,ev y)
 | _=>none
def PF (ev:Operand->aa):Op->Option aa
 | .unOp .neg _ x=>some (ev x)
 | _=>none
def N4 (ev:Operand->aa):Op->Option (Nat×Nat×aa)
 | .convert s d x=>some (s,d,ev x)
 | _=>none
def y7 (ev:Operand->aa):Op->Option (Nat×aa×Option aa×Option aa)
 | .slice t x lo hi none=>some (t,ev x,nf ev lo,nf ev hi)
 | _=>none
def sN (ev:Operand->aa):Op->Option (Builtin×List Nat×List aa)
 | .call { callee:=.builtin b,args,argTypes }=>some (b,argTypes.toList,iH ev args.toList)
 | _=>none
def tA (ev:Operand->aa):Op->Option (Nat×aa×aa×Bool)
 | .lookup t m k ok=>some (t,ev m,ev k,ok)
 | _=>none
def Nk (ev:Operand->aa):Op->Option (Nat×aa×aa×aa)
 | .mapUpdate t m k x=>some (t,ev m,ev k,ev x)
 | .insert t m k x=>some (t,ev m,ev k,ev x)
 | _=>none
def JK (ev:Operand->aa):Op->Option (Nat×aa)
 | .load t a=>some (t,ev a)
 | _=>none
def mr (ev:Operand->aa):Op->Option (Nat×aa×aa)
 | .store t a x=>some (t,ev a,ev x)
 | _=>none
section
variable {P:Program} {h:ae} {ev:Operand->aa} {op:Op}
theorem oN {t:Nat} {x:aa} {k:IntKind} {n:Int} (hv:GG ev op=some (t,x,.int k n)):aop P h ev op=dp h (df P h t x n):=by
 unfold GG at hv;split at hv <;> simp at hv;obtain ⟨rfl,rfl,h3⟩:=hv;simp only [aop,h3]
theorem jA {α:Type} (l:List α) (k:Nat) (d:α) (h:k<l.length):l[k]?=some (l.getD k d):=by
 rw [List.getElem?_eq_getElem h,List.getD_eq_getElem?_getD,List.getElem?_eq_getElem h];rfl
theorem av {α:Type} {t e:Nat} {enc:α->aa} {l:List α} {k:IntKind} {i:Int} {a b a' b':Nat} {z z':aa} {ek:TyK} (d:α) (hv:GG ev op=some (t,.imm (l.map enc),.int k i)) (ht:aN P t=some ⟨.slice e,a,b,z⟩) (he:aN P e=some ⟨ek,a',b',z'⟩)
 (hs:∀ x,(enc x).cells.length=a') (h0:0<=i) (h1:i<l.length):aop P h ev op=some (.pimm (enc (l.getD i.toNat d)).cells 0,h):=by
 rw [oN hv];have hlt:i.toNat<l.length:=by omega
 have hc:0<=i/\i<((l.map enc).length:Nat):=by rw [List.length_map];exact ⟨h0,h1⟩
 simp only [df,ht,he,if_pos hc,List.getElem?_map,jA l i.toNat d hlt,Option.map_some,hs,if_true,dp]
theorem b9 {t e:Nat} {o off len:Nat} {k:IntKind} {i:Int} {a b a' b' sz fr:Nat} {es:List aa} {z z':aa} {ek:TyK} (hv:GG ev op=some (t,.own o off len,.int k i)) (ht:aN P t=some ⟨.slice e,a,b,z⟩) (he:aN P e=some ⟨ek,a',b',z'⟩)
 (ho:h[o]?=some (.arr sz es fr)) (hs:sz=a') (hl:off+len=es.length) (h0:0<=i) (h1:i<len):aop P h ev op=some (.pown o (off+i.toNat) 0 es.length,h):=by
 rw [oN hv];simp only [df,ht,he,ho];rw [if_pos ⟨hl,hs,h0,h1⟩];rfl
theorem eI {t:Nat} {o idx off k:Nat} {sz fr:Nat} {es:List aa} {x v:aa} (hv:JK ev op=some (t,.pown o idx off k)) (ho:h[o]?=some (.arr sz es fr)) (hl:es.length=k) (hx:es[idx]?=some x) (hld:js P t x.cells off=some v):aop P h ev op=some (v,h):=by
 unfold JK at hv;split at hv <;> simp at hv;obtain ⟨rfl,h2⟩:=hv;simp only [aop,h2,me,ho,hl,if_true,hx,Option.map_some,hld,dp]
theorem Ig {t:Nat} {o idx off k:Nat} {sz fr:Nat} {es:List aa} {x y:aa} {i:TyI} (hv:mr ev op=some (t,.pown o idx off k,x)) (ho:h[o]?=some (.arr sz es fr)) (hl:es.length=k) (hf:fr<=idx) (hy:es[idx]?=some y) (ht:aN P t=some i)
 (hok:x.cells.length=i.size/\x.cells.all aa.cellOk=true) (h0:off=0) (hsz:y.cells.length=i.size) (hw:y.withCells x.cells=some x):aop P h ev op=some (.any,h.set o (.arr sz (es.set idx x) fr)):=by
 unfold mr at hv;split at hv <;> simp at hv;obtain ⟨rfl,h2,h3⟩:=hv;subst h0
 have hsp:eB y.cells 0 x.cells=x.cells:=by
  simp only [eB,List.take_zero,List.nil_append,Nat.zero_add];rw [List.drop_eq_nil_of_le oq,List.append_nil]
 simp only [aop,h2,h3,eR,ht,ho];rw [if_pos hok];simp only [hl,hf,hy,hsz,hsp,hw,Nat.zero_add,Nat.le_refl,and_self,if_true,pP]
theorem gO {b:Builtin} {ats:List Nat} {xs:List aa} (hv:sN ev op=some (b,ats,xs)):aop P h ev op=dA P h b ats xs:=by
 unfold sN at hv;split at hv <;> simp at hv;obtain ⟨rfl,rfl,rfl⟩:=hv;rfl
theorem aw {α:Type} {t e:Nat} {enc:α->aa} {l:List α} {a b:Nat} {z:aa} (hv:sN ev op=some (.len,[t],[.imm (l.map enc)])) (ht:aN P t=some ⟨.slice e,a,b,z⟩):aop P h ev op=some (.int .i64 (l.length:Nat),h):=by
 rw [gO hv];simp [dA,ht,TyK.lenOk,vq]
theorem cU {t e:Nat} {o off len:Nat} {a b sz fr:Nat} {es:List aa} {z:aa} (hv:sN ev op=some (.len,[t],[.own o off len])) (ht:aN P t=some ⟨.slice e,a,b,z⟩) (ho:h[o]?=some (.arr sz es fr)) (hl:off+len=es.length):aop P h ev op=some (.int .i64 (len:Nat),h):=by
 rw [gO hv];simp [dA,ht,TyK.lenOk,vq,ho,hl]
theorem rZ {t t' e:Nat} {o len:Nat} {a b a' b' a2 b2 sz fr:Nat} {es src:List aa} {z z' z2:aa} {ek k2:TyK} {e2:Nat} {x:aa} (hv:sN ev op=some (.append,[t,t'],[.own o 0 len,x])) (ht:aN P t=some ⟨.slice e,a,b,z⟩) (he:aN P e=some ⟨ek,a',b',z'⟩) (ht':aN P t'=some ⟨k2,a2,b2,z2⟩) (hk2:k2=.slice e2)
 (ho:h[o]?=some (.arr sz es fr)) (hsz:sz=a') (hl:len=es.length) (hx:fG h x=some src) (hc:0<a'/\z'.cells.length=a'/\fE a' src=true) (hf:gR (len+src.length) b'=true) :
 aop P h ev op=some (.own o 0 (len+src.length),h.set o (.arr sz (es++src) fr)):=by
 rw [gO hv];subst hk2;simp only [dA,jN,ht,he,ht',hx];rw [if_pos hc];simp only [ho];rw [if_pos ⟨hl,hsz,hf⟩]
theorem aP {α:Type} {enc:α->aa} {l xs:List α} {t t' e:Nat} {o len:Nat} {a b a' b' a2 b2 sz fr:Nat} {z z' z2:aa} {ek k2:TyK} {e2:Nat} {x:aa} (hv:sN ev op=some (.append,[t,t'],[.own o 0 len,x])) (ht:aN P t=some ⟨.slice e,a,b,z⟩) (he:aN P e=some ⟨ek,a',b',z'⟩) (ht':aN P t'=some ⟨k2,a2,b2,z2⟩) (hk2:k2=.slice e2)
 (ho:h[o]?=some (.arr sz (l.map enc) fr)) (hsz:sz=a') (hl:len=l.length) (hx:fG h x=some (xs.map enc)) (hz:0<a'/\z'.cells.length=a') (hok:∀ q,((enc q).cells.length==a' && (enc q).cells.all aa.cellOk)=true) (hf:(l.length+xs.length) * b'<=140737488355328) (hf2:l.length+xs.length<=140737488355328) :
 aop P h ev op=some (.own o 0 (l++xs).length,h.set o (.arr sz ((l++xs).map enc) fr)):=by
 have:=rZ (h:=h) hv ht he ht' hk2 ho hsz (by rw [hl,List.length_map]) hx ⟨hz.1,hz.2,by
  unfold fE;rw [List.all_eq_true];intro q hq;obtain ⟨r,_,rfl⟩:=List.mem_map.1 hq;exact hok r⟩ (by rw [List.length_map,hl];simp [gR];exact ⟨hf,hf2⟩)
 rw [this];simp [hl]
theorem gQ {b:BinOp} {x y:aa} (hv:wX ev op=some (b,x,y)) (hx:∀ t,tY P b t x y=oE P b t x y:=by intro _;rfl):∃ t,aop P h ev op=dp h (oE P b t x y):=by
 unfold wX at hv;split at hv <;> simp at hv;obtain ⟨rfl,rfl,rfl⟩:=hv;exact ⟨_,congrArg (dp h) (hx _)⟩
theorem kA (n:Int) (h0:-9223372036854775808<=n) (h1:n<=9223372036854775807):IntKind.i64.wrap n=n:=by
 unfold IntKind.wrap IntKind.bits IntKind.signed;simp;omega
theorem aA {a b:Int} (hv:wX ev op=some (.add,.int .i64 a,.int .i64 b)) (h0:-9223372036854775808<=a+b) (h1:a+b<=9223372036854775807):aop P h ev op=some (.int .i64 (a+b),h):=by
 obtain ⟨t,e⟩:=gQ (P:=P) (h:=h) hv;rw [e];simp [oE,kA _ h0 h1,dp]
theorem fd {a b:Int} (hv:wX ev op=some (.sub,.int .i64 a,.int .i64 b)) (h0:-9223372036854775808<=a - b) (h1:a - b<=9223372036854775807):aop P h ev op=some (.int .i64 (a - b),h):=by
 obtain ⟨t,e⟩:=gQ (P:=P) (h:=h) hv;rw [e];simp [oE,kA _ h0 h1,dp]
theorem x5 {a b:Int} (hv:wX ev op=some (.mul,.int .i64 a,.int .i64 b)) (h0:-9223372036854775808<=a * b) (h1:a * b<=9223372036854775807):aop P h ev op=some (.int .i64 (a * b),h):=by
 obtain ⟨t,e⟩:=gQ (P:=P) (h:=h) hv;rw [e];simp [oE,kA _ h0 h1,dp]
theorem Ks {a b:Int} (hv:wX ev op=some (.quo,.int .i64 a,.int .i64 b)) (hb:b≠0) (h0:-9223372036854775808<=a.tdiv b) (h1:a.tdiv b<=9223372036854775807):aop P h ev op=some (.int .i64 (a.tdiv b),h):=by
 obtain ⟨t,e⟩:=gQ (P:=P) (h:=h) hv;rw [e];simp [oE,hb,kA _ h0 h1,dp]
theorem BN {a b:Int} (hv:wX ev op=some (.rem,.int .i64 a,.int .i64 b)) (hb:b≠0):aop P h ev op=some (.int .i64 (a.tmod b),h):=by
 obtain ⟨t,e⟩:=gQ (P:=P) (h:=h) hv;rw [e];simp [oE,hb,dp]
theorem OG {a:Int} (hv:PF ev op=some (.int .i64 a)) (h0:-9223372036854775808<=-a) (h1:-a<=9223372036854775807):aop P h ev op=some (.int .i64 (-a),h):=by
 unfold PF at hv;split at hv <;> simp at hv;have:(0 - a)=-a:=by omega
 simp [aop,hv,aun,this,kA _ h0 h1,dp]
theorem Nz {a b:List UInt8} (hv:wX ev op=some (.add,.str a,.str b)) (h1:a.length+b.length<=9223372036854775807):aop P h ev op=some (.str (a++b),h):=by
 obtain ⟨t,e⟩:=gQ (P:=P) (h:=h) hv;rw [e];have:((a.length+b.length:Nat):Int)<=9223372036854775807:=by omega
 simp only [oE,if_pos this,dp]
theorem GK {s d a b:Nat} {z:aa} {k k':IntKind} {n:Int} {i:TyI} (hv:N4 ev op=some (s,d,.int k n)) (hs:aN P s=some i) (hd:aN P d=some ⟨.int k',a,b,z⟩) (hw:k'.wrap n=n):aop P h ev op=some (.int k' n,h):=by
 unfold N4 at hv;split at hv <;> simp at hv;obtain ⟨rfl,rfl,h3⟩:=hv;simp [aop,h3,AX,hs,hd,hw,dp]
theorem lH {t:Nat} {x:aa} {lo hi:Option aa} (hv:y7 ev op=some (t,x,lo,hi)):aop P h ev op=dp h (ix P h t x lo hi):=by
 unfold y7 at hv;split at hv <;> simp at hv;obtain ⟨rfl,rfl,rfl,rfl⟩:=hv;rfl
def Ib:Option aa->Option Int
 | none=>some 0
 | some (.int _ n)=>some n
 | _=>none
def Fo (len:Nat):Option aa->Option Int
 | none=>some len
 | some (.int _ n)=>some n
 | _=>none
theorem mP {len:Nat} {lo hi:Option aa} {a b:Int} (hlo:Ib lo=some a) (hhi:Fo len hi=some b) (h0:0<=a) (h1:a<=b) (h2:b<=len):dG len lo hi=some (a.toNat,b.toNat):=by
 have c1:(hi=none/\b=len)\/∃ k,hi=some (.int k b):=by
  cases hi with
  | none=>simp [Fo] at hhi;exact .inl ⟨rfl,hhi.symm⟩
  | some v=>cases v <;> simp [Fo] at hhi;subst hhi;exact .inr ⟨_,rfl⟩
 have c2:(lo=none/\a=0)\/∃ k,lo=some (.int k a):=by
  cases lo with
  | none=>simp [Ib] at hlo;exact .inl ⟨rfl,hlo.symm⟩
  | some v=>cases v <;> simp [Ib] at hlo;subst hlo;exact .inr ⟨_,rfl⟩
 have g1:0<=b/\b<=len:=⟨by omega,h2⟩;have g2:0<=a/\a<=(b.toNat:Nat):=⟨h0,by omega⟩;have g3:0<=a/\a<=len:=⟨h0,by omega⟩;rcases c1 with ⟨rfl,rfl⟩|⟨k,rfl⟩ <;> rcases c2 with ⟨rfl,rfl⟩|⟨k',rfl⟩ <;> simp only [dG,if_pos g1,if_pos g2,if_pos g3,Int.toNat_natCast,Int.toNat_zero]
theorem bZ {α:Type} {enc:α->aa} {l:List α} {t e a b a' b':Nat} {z z':aa} {ek:TyK} {lo hi:Option aa} {x y:Int} (hv:y7 ev op=some (t,.imm (l.map enc),lo,hi)) (ht:aN P t=some ⟨.slice e,a,b,z⟩) (he:aN P e=some ⟨ek,a',b',z'⟩) (hs:∀ x,(enc x).cells.length=a')
 (hlo:Ib lo=some x) (hhi:Fo l.length hi=some y) (h0:0<=x) (h1:x<=y) (h2:y<=l.length):aop P h ev op=some (.imm (((l.take y.toNat).drop x.toNat).map enc),h):=by
 rw [lH hv]
 have hr:fO a' (l.map enc)=true:=by
  unfold fO;rw [List.all_eq_true];intro q hq;obtain ⟨r,_,rfl⟩:=List.mem_map.1 hq;simp [hs]
 have hhi':Fo (l.map enc).length hi=some y:=by rw [List.length_map];exact hhi
 simp only [ix,ht,he,hr,if_true,mP hlo hhi' h0 h1 (by rw [List.length_map];exact h2),dp,Option.map_some,List.map_drop,List.map_take]
theorem eJ {α:Type} (l:List α) (enc:α->aa) (k:Nat) (d:α) (h:k<l.length):(l.map enc)[k]?=some (enc (l.getD k d)):=by
 rw [List.getElem?_map,jA l k d h];rfl
end
theorem cq {cx:Cx} {T:Tm} {h:ae} {rs:List ResultVar} {e:Exit} {l:List aa} {v:aa} (he:e=.normal\/e=.ret) (hl:fx cx.P T h rs=some l) (hv:(bg l).frz h=v/\v.bel 0=true) :
 Fin cx rs 0 (fun v' h'=>v'=v/\h'=[]) e T h:=m9 he hl hv.1 hv.2
section
variable {cx:Cx} {T:Tm} {h:ae} {rs:List ResultVar} {e:Exit}
theorem aJ {b b':Bool} (he:e=.normal\/e=.ret) (hl:fx cx.P T h rs=some [.bool b]) (hv:b=b'):Fin cx rs 0 (fun v' h'=>v'=.bool b'/\h'=[]) e T h:=m9 he hl (by rw [hv];rfl) rfl
theorem fe {k:IntKind} {n n':Int} (he:e=.normal\/e=.ret) (hl:fx cx.P T h rs=some [.int k n]) (hv:n=n'):Fin cx rs 0 (fun v' h'=>v'=.int k n'/\h'=[]) e T h:=m9 he hl (by rw [hv];rfl) rfl
theorem M5 {s s':List UInt8} (he:e=.normal\/e=.ret) (hl:fx cx.P T h rs=some [.str s]) (hv:s=s'):Fin cx rs 0 (fun v' h'=>v'=.str s'/\h'=[]) e T h:=m9 he hl (by rw [hv];rfl) rfl
end
section
variable {a b:UInt8} {x y:Int} (ha:((a.toNat:Nat):Int)=x) (hb:((b.toNat:Nat):Int)=y)
include ha hb
end
theorem a7 {α:Type} {enc:α->aa} (h:ae) (he:∀ x,(enc x).frz h=enc x):∀ l:List α,aQ h (l.map enc)=l.map enc
 | []=>rfl
 | x::l=>by simp [aQ,he,a7 h he l]
theorem ch {α:Type} {enc:α->aa} (k:Nat) (he:∀ x,(enc x).bel k=true):∀ l:List α,aM k (l.map enc)=true
 | []=>rfl
 | x::l=>by simp [aM,he,ch k he l]
theorem b4 {α:Type} {enc:α->aa} (he:∀ x,(enc x).owns=[]):∀ l:List α,aG (l.map enc)=[]
 | []=>rfl
 | x::l=>by simp [aG,he,b4 he l]
@[simp] theorem oo (h:ae) (l:List (List UInt8)):aQ h (l.map .str)=l.map .str:=a7 h (fun _=>rfl) l
@[simp] theorem oJ (k:Nat) (l:List (List UInt8)):aM k (l.map .str)=true:=ch k (fun _=>rfl) l
@[simp] theorem rA (l:List (List UInt8)):aG (l.map .str)=[]:=b4 (fun _=>rfl) l
@[simp] theorem ML (h:ae) (k:IntKind) (l:List Int):aQ h (l.map (.int k))=l.map (.int k):=a7 h (fun _=>rfl) l
@[simp] theorem MV (j:Nat) (k:IntKind) (l:List Int):aM j (l.map (.int k))=true:=ch j (fun _=>rfl) l
@[simp] theorem K1 (k:IntKind) (l:List Int):aG (l.map (.int k))=[]:=b4 (fun _=>rfl) l
attribute [simp] aQ aa.frz aM aa.bel aG aa.owns cG
end Go.Proofs.YtcpklndelobigaaGreatDoor.Abs
namespace Go.Proofs.YtcpklndelobigaaGreatDoor.Abs
def aC {κ α:Type} [DecidableEq κ] (k:κ):List (κ×α)->Option α
 | []=>none
 | p::l=>if k=p.1 then some p.2 else aC k l
def bM {κ α:Type} [DecidableEq κ] (k:κ) (v:α):List (κ×α)->List (κ×α)
 | []=>[(k,v)]
 | p::l=>if k=p.1 then (k,v)::l else p::bM k v l
def ak {κ α:Type} (ek:κ->aa) (ev:α->aa) (l:List (κ×α)):List (aa×aa):=l.map fun p=>(ek p.1,ev p.2)
section
variable {κ α:Type} [DecidableEq κ] {ek:κ->aa} {ev:α->aa}
theorem jv {v:α} (he:∀ a b,fq (ek a) (ek b)=some (decide (a=b))) (k:κ):∀ (l:List (κ×α)) (i:Nat),
 (aC k l=none/\iX (ek k) (ak ek ev l) i=some none/\ak ek ev (bM k v l)=ak ek ev l++[(ek k,ev v)]) \/
 ∃ n x,aC k l=some x/\iX (ek k) (ak ek ev l) i=some (some (i+n,ev x))/\ak ek ev (bM k v l)=(ak ek ev l).set n (ek k,ev v)
 | [],i=>.inl ⟨rfl,rfl,rfl⟩
 | p::l,i=>by
  by_cases e:k=p.1
  . right;refine ⟨0,p.2,by simp [aC,e],?_,by simp [bM,ak,e]⟩;simp only [ak,List.map_cons,iX,he,decide_eq_true e,Nat.add_zero]
  . rcases jv he k l (i+1) (v:=v) with ⟨h1,h2,h3⟩|⟨n,x,h1,h2,h3⟩
    . left;refine ⟨by simp [aC,e,h1],?_,?_⟩
      . simp only [ak,List.map_cons,iX,he,decide_eq_false e];exact h2
      . simp only [bM,if_neg e];simp only [ak,List.map_cons,List.cons_append] at h3 ⊢;rw [h3]
    . right;refine ⟨n+1,x,by simp [aC,e,h1],?_,?_⟩
      . simp only [ak,List.map_cons,iX,he,decide_eq_false e];rw [show i+(n+1)=i+1+n by omega];exact h2
      . simp only [bM,if_neg e];simp only [ak,List.map_cons,List.set_cons_succ] at h3 ⊢;rw [h3]
variable {P:Program} {h:ae} {env:Operand->aa} {op:Op}
theorem jK {t kt et:Nat} {a b a1 b1 a2 b2:Nat} {z z1:aa} {k1:TyK} {ei:TyI} {o:Nat} {l:List (κ×α)} {k:κ} {ok:Bool} (he:∀ a b,fq (ek a) (ek b)=some (decide (a=b))) (hv:tA env op=some (t,.map o,ek k,ok)) (ht:aN P t=some ⟨.map kt et,a,b,z⟩) (hk:aN P kt=some ⟨k1,a1,b1,z1⟩) (hko:k1.keyOk (ek k)=true) (hel:aN P et=some ei)
 (ho:h[o]?=some (.map (ak ek ev l))) (d:α) (hd:ei.zero=ev d):aop P h env op=some (if ok then .tup [ev ((aC k l).getD d),.bool (aC k l).isSome] else ev ((aC k l).getD d),h):=by
 unfold tA at hv;split at hv <;> simp at hv;obtain ⟨rfl,h2,h3,rfl⟩:=hv;simp only [aop,h2,h3,gI,ht,hk,hel,hko,if_true,ho];rcases jv (ev:=ev) (v:=d) he k l 0 with ⟨h1,h4,_⟩|⟨n,x,h1,h4,_⟩
 . rw [h4,h1];simp [dp,hd]
 . rw [h4,h1];simp [dp]
theorem qb {t kt et:Nat} {a b a1 b1:Nat} {z z1:aa} {k1:TyK} {ei:TyI} {o:Nat} {l:List (κ×α)} {k:κ} {ok:Bool} (he:∀ a b,fq (ek a) (ek b)=some (decide (a=b))) (hm:aC k l=none) (hv:tA env op=some (t,.map o,ek k,ok)) (ht:aN P t=some ⟨.map kt et,a,b,z⟩) (hk:aN P kt=some ⟨k1,a1,b1,z1⟩) (hko:k1.keyOk (ek k)=true) (hel:aN P et=some ei)
 (ho:h[o]?=some (.map (ak ek ev l))):aop P h env op=some (if ok then .tup [ei.zero,.bool false] else ei.zero,h):=by
 unfold tA at hv;split at hv <;> simp at hv;obtain ⟨rfl,h2,h3,rfl⟩:=hv;simp only [aop,h2,h3,gI,ht,hk,hel,hko,if_true,ho];cases l with
 | nil=>simp [ak,iX,dp]
 | cons p l =>
  rcases jv (ev:=ev) (v:=p.2) he k (p::l) 0 with ⟨h1,h4,_⟩|⟨n,x,h1,h4,_⟩
  . rw [h4];simp [dp]
  . rw [hm] at h1;cases h1
theorem uu {t kt et:Nat} {a b a1 b1:Nat} {z z1:aa} {k1:TyK} {ei:TyI} {o:Nat} {l:List (κ×α)} {k:κ} {x:α} {ok:Bool} (he:∀ a b,fq (ek a) (ek b)=some (decide (a=b))) (hm:aC k l=some x) (hv:tA env op=some (t,.map o,ek k,ok)) (ht:aN P t=some ⟨.map kt et,a,b,z⟩) (hk:aN P kt=some ⟨k1,a1,b1,z1⟩) (hko:k1.keyOk (ek k)=true) (hel:aN P et=some ei)
 (ho:h[o]?=some (.map (ak ek ev l))):aop P h env op=some (if ok then .tup [ev x,.bool true] else ev x,h):=by
 unfold tA at hv;split at hv <;> simp at hv;obtain ⟨rfl,h2,h3,rfl⟩:=hv;simp only [aop,h2,h3,gI,ht,hk,hel,hko,if_true,ho];rcases jv (ev:=ev) (v:=x) he k l 0 with ⟨h1,h4,_⟩|⟨n,y,h1,h4,_⟩
 . rw [hm] at h1;cases h1
 . rw [hm] at h1;cases h1;rw [h4];simp [dp]
theorem cI {t kt et:Nat} {a b a1 b1:Nat} {z z1:aa} {k1:TyK} {o:Nat} {l:List (κ×α)} {k:κ} {x:α} (he:∀ a b,fq (ek a) (ek b)=some (decide (a=b))) (hv:Nk env op=some (t,.map o,ek k,ev x)) (ht:aN P t=some ⟨.map kt et,a,b,z⟩) (hk:aN P kt=some ⟨k1,a1,b1,z1⟩) (hko:k1.keyOk (ek k)=true)
 (ho:h[o]?=some (.map (ak ek ev l))) (hn:Aj h o=true):aop P h env op=some (.any,h.set o (.map (ak ek ev (bM k x l)))):=by
 have key:cF P h t (.map o) (ek k) (ev x)=some (h.set o (.map (ak ek ev (bM k x l)))):=by
  simp only [cF,ht,hk,ho];rw [if_pos ⟨hko,hn⟩];rcases jv (ev:=ev) (v:=x) he k l 0 with ⟨h1,h4,h5⟩|⟨n,y,h1,h4,h5⟩
  . rw [h4,h5]
  . rw [h4,h5];simp
 unfold Nk at hv;split at hv <;> simp at hv
 . obtain ⟨rfl,h2,h3,h4⟩:=hv;simp only [aop,h2,h3,h4,key,pP]
 . obtain ⟨rfl,h2,h3,h4⟩:=hv;simp only [aop,h2,h3,h4,key,pP]
theorem L6 {t kt et:Nat} {a b:Nat} {z:aa} {o:Nat} {l:List (κ×α)} (hv:sN env op=some (.len,[t],[.map o])) (ht:aN P t=some ⟨.map kt et,a,b,z⟩) (ho:h[o]?=some (.map (ak ek ev l))):aop P h env op=some (.int .i64 (l.length:Nat),h):=by
 rw [gO hv];simp [dA,ht,TyK.lenOk,vq,ho,ak]
end
theorem DK (a b:Int):fq (.int .i64 a) (.int .i64 b)=some (decide (a=b)):=by simp [fq];rfl
theorem eo (a b:List UInt8):fq (.str a) (.str b)=some (decide (a=b)):=by
 simp only [fq];congr 1;rw [Bool.eq_iff_iff];simp
mutual
theorem rW {r:Nat->Nat} {k:Nat} (hr:∀ i,i<k->r i=i):∀ x:aa,x.bel k=true->x.ren r=x
 | .agg cs,h=>by simp only [aa.ren,eK hr cs h]
 | .tup cs,h=>by simp only [aa.ren,eK hr cs h]
 | .ptr o _,h=>by simp only [aa.ren,hr o (by simpa [aa.bel] using h)]
 | .pimm cs _,h=>by simp only [aa.ren,eK hr cs h]
 | .pown o _ _ _,h=>by simp only [aa.ren,hr o (by simpa [aa.bel] using h)]
 | .imm l,h=>by simp only [aa.ren,eK hr l h]
 | .full l,h=>by simp only [aa.ren,eK hr l h]
 | .own o _ _,h=>by simp only [aa.ren,hr o (by simpa [aa.bel] using h)]
 | .map o,h=>by simp only [aa.ren,hr o (by simpa [aa.bel] using h)]
 | .fn _ xs ys,h=>by
  simp only [aa.bel,Bool.and_eq_true] at h;simp only [aa.ren,eK hr xs h.1,eK hr ys h.2]
 | .itr o,h=>by simp only [aa.ren,hr o (by simpa [aa.bel] using h)]
 | .iface _ v,h=>by simp only [aa.ren,rW hr v h]
 | .any,_=>rfl
 | .bool _,_=>rfl
 | .int _ _,_=>rfl
 | .str _,_=>rfl
 | .nilp,_=>rfl
 | .nilm,_=>rfl
 | .nilfn,_=>rfl
 | .nili,_=>rfl
theorem eK {r:Nat->Nat} {k:Nat} (hr:∀ i,i<k->r i=i):∀ xs:List aa,aM k xs=true->cV r xs=xs
 | [],_=>rfl
 | x::xs,h=>by
  simp only [aM,Bool.and_eq_true] at h;simp only [cV,rW hr x h.1,eK hr xs h.2]
end
theorem qg {r:Nat->Nat} {k:Nat} (hr:∀ i,i<k->r i=i):∀ es:List (aa×aa),(es.all fun e=>e.1.bel k && e.2.bel k)=true->nE r es=es
 | [],_=>rfl
 | e::es,h=>by
  simp only [List.all_cons,Bool.and_eq_true] at h;simp only [nE,rW hr _ h.1.1,rW hr _ h.1.2,qg hr es h.2]
theorem A5 {r:Nat->Nat} {k:Nat} (hr:∀ i,i<k->r i=i) (x:ax) (h:x.belO k=true):x.ren r=x:=by
 cases x <;> simp only [ax.ren,ax.belO] at h ⊢
 . rw [eK hr _ h]
 . rw [eK hr _ h]
 . rw [qg hr _ h]
 . rw [hr _ (by simpa using h)]
theorem B5 {r:Nat->Nat} {k:Nat} (hr:∀ i,i<k->r i=i):∀ hs:ae,hs.all (ax.belO k)=true->iK r hs=hs
 | [],_=>rfl
 | x::hs,h=>by
  simp only [List.all_cons,Bool.and_eq_true] at h;simp only [iK,A5 hr x h.1,B5 hr hs h.2]
theorem nu:∀ (xs hs rest:ae) (pre:ae),xs.length=hs.length->dM (pre++hs++rest) (List.range' pre.length hs.length) xs=pre++xs++rest
 | [],[],rest,pre,_=>by simp [dM]
 | [],_::_,_,_,h=>by simp at h
 | _::_,[],_,_,h=>by simp at h
 | x::xs,y::hs,rest,pre,h=>by
  have e:(pre++(y::hs)++rest).set pre.length x=(pre++[x])++hs++rest:=by simp
  rw [List.length_cons,List.range'_succ,dM,e];have:=nu xs hs rest (pre++[x]) (by simpa using h);rw [List.length_append,List.length_singleton] at this;rw [this];simp
def iO:ae->Bool
 | []=>true
 | .iter _ _::_=>false
 | _::h=>iO h
theorem kN:∀ {h:ae} {o m:Nat} {left:List Nat×Option Nat},iO h=true->h[o]?=some (.iter m left)->False
 | [],o,m,left,_,ho=>by simp at ho
 | x::h,0,m,left,hn,ho=>by
  simp at ho;subst ho;simp [iO] at hn
 | x::h,o+1,m,left,hn,ho=>by
  simp at ho;cases x <;> simp [iO] at hn <;> exact kN hn ho
section
variable {cx:Cx}
theorem zc {f:FuncId} {args:List aa} {hs hs' rest:ae} {v:aa} (hc:aE cx f args hs fun v' h'=>v'=v/\h'=hs') (hb:aM hs.length args=true) (ho:hs.all (ax.belO hs.length)=true) (hl:hs'.length=hs.length) (hv:v.bel hs.length=true) (ho':hs'.all (ax.belO hs.length)=true) (hn:iO rest=true) :
 aE cx f args (hs++rest) fun v' h'=>v'=v/\h'=hs'++rest:=by
 have hr:∀ i,i<hs.length->bD (List.range' 0 hs.length) (hs++rest).length i=i:=by
  intro i hi;exact da _ (by rw [List.getElem?_range' oq];simp)
 have le:sC (hs++rest) (List.range' 0 hs.length) hs:=by
  refine ⟨by simp,List.nodup_range',?_,ho,?_⟩
  . intro i o x hi hx;have hlt:i<hs.length:=(List.getElem?_eq_some_iff.1 hx).1;rw [List.getElem?_range' hlt] at hi;simp at hi;subst hi;rw [A5 hr x (List.all_eq_true.1 ho x (List.mem_of_getElem? hx)),List.getElem?_append_left hlt];exact hx
  . intro o m left hit hnin;exfalso;rcases Nat.lt_or_ge o hs.length with hlt|hge
    . exact hnin (by simp [List.mem_range'_1];exact hlt)
    . rw [List.getElem?_append_right hge] at hit;exact kN hn hit
 have:=fU (K:=fun v' h'=>v'=v/\h'=hs'++rest) le hc hb (by
  rintro v' hs1 _ ⟨rfl,rfl⟩;refine ⟨rW hr _ hv,?_⟩;unfold eU;have h1:hs1.take (List.range' 0 hs.length).length=hs1:=by rw [List.take_of_length_le];simp;omega
  have h2:hs1.drop (List.range' 0 hs.length).length=[]:=by rw [List.drop_eq_nil_of_le];simp;omega
  rw [h1,h2,B5 hr _ ho'];have:=nu hs1 hs rest [] hl;simp only [List.nil_append,List.length_nil] at this;rw [this];simp [iK])
 rwa [eK hr _ hb] at this
variable {l:List BOp} {K:Tm->ae->Prop} {S:RSt}
theorem Mh {f:FuncId} {args:List aa} {hs hs' rest:ae} {v:aa} (hc:bc l=true) (hg:bi S.1 (hdB l).g=some true) (ho:aop cx.P S.2 (aev cx.G S.1) (hdB l).op=none) (ha:aI (aev cx.G S.1) (hdB l).op=some (f,args)) (hS:S.2=hs++rest) (hq:aE cx f args hs fun v' h'=>v'=v/\h'=hs')
 (hb:aM hs.length args=true) (hbo:hs.all (ax.belO hs.length)=true) (hl:hs'.length=hs.length) (hv:v.bel hs.length=true) (hbo':hs'.all (ax.belO hs.length)=true) (hn:iO rest=true)
 (hk:bS cx l.tail (b3 S.1 (hdB l).dst v,hs'++rest) K):bS cx l S K:=by
 refine wq hc hg ho ha (q:=fun v' h'=>v'=v/\h'=hs'++rest) ?_ (by rintro v' h' ⟨rfl,rfl⟩;exact hk);rw [hS];exact zc hq hb hbo hl hv hbo' hn
end
def PG (env:Operand->aa):Op->Option (Nat×aa)
 | .range t x=>some (t,env x)
 | _=>none
def Nb (env:Operand->aa):Op->Option aa
 | .next it false=>some (env it)
 | _=>none
def Pv (env:Operand->aa):Op->Option aa
 | .entry it=>some (env it)
 | _=>none
section
variable {cx:Cx} {bl:List BOp} {K:Tm->ae->Prop} {S:RSt} {κ α:Type} {ek:κ->aa} {ev:α->aa} {l:List (κ×α)}
theorem AY (d:κ×α) (i:Nat) (h:i<l.length):(ak ek ev l)[i]?=some (ek (l.getD i d).1,ev (l.getD i d).2):=by
 simp only [ak];rw [List.getElem?_map,jA l i d h];rfl
theorem Fq {t kt et a b m:Nat} {z:aa} (hc:bc bl=true) (hg:bi S.1 (hdB bl).g=some true) (hv:PG (aev cx.G S.1) (hdB bl).op=some (t,.map m)) (ht:aN cx.P t=some ⟨.map kt et,a,b,z⟩) (hm:S.2[m]?=some (.map (ak ek ev l)))
 (hk:bS cx bl.tail (b3 S.1 (hdB bl).dst (.itr S.2.length),S.2++[.iter m (List.range l.length,none)]) K):bS cx bl S K:=by
 generalize ho:(hdB bl).op=o at hv;unfold PG at hv;split at hv <;> simp at hv;obtain ⟨rfl,hv⟩:=hv;refine lj hc hg (L:=[(.itr S.2.length,S.2++[.iter m (List.range l.length,none)])]) (by rw [ho];rfl) (by rw [ho];rfl) ?_ ?_
 . rw [ho];simp only [anx,ht,hv,hm];simp [ak]
 . intro r hr;rw [List.mem_singleton] at hr;subst hr;exact hk
theorem FT {o m:Nat} {lf:List Nat} {la:Option Nat} (d:κ×α) (hc:bc bl=true) (hg:bi S.1 (hdB bl).g=some true) (hv:Nb (aev cx.G S.1) (hdB bl).op=some (.itr o)) (hi:S.2[o]?=some (.iter m (lf,la))) (hm:S.2[m]?=some (.map (ak ek ev l)))
 (h0:lf=[]->bS cx bl.tail (Cl S (hdB bl).dst (.tup [.bool false])) K)
 (h1:∀ i,i∈lf->i<l.length->bS cx bl.tail (N7 S (hdB bl).dst (.tup [.bool true,ek (l.getD i d).1,ev (l.getD i d).2]) o (.iter m (lf.filter (fun j=>!(Nat.beq j i)),some i))) K):bS cx bl S K:=by
 generalize ho:(hdB bl).op=op at hv;unfold Nb at hv;split at hv <;> simp at hv;cases lf with
 | nil =>
  refine lj hc hg (L:=[(.tup [.bool false],S.2)]) (by rw [ho];rfl) (by rw [ho];rfl) ?_ ?_
  . rw [ho];simp only [anx,hv,hi,hm]
  . intro r hr;rw [List.mem_singleton] at hr;subst hr;exact h0 rfl
 | cons i0 l0 =>
  refine lj hc hg (L:=(i0::l0).filterMap fun i=>((ak ek ev l)[i]?).map fun kv=>(.tup [.bool true,kv.1,kv.2],S.2.set o (.iter m ((i0::l0).filter (fun j=>!(Nat.beq j i)),some i)))) (by rw [ho];rfl) (by rw [ho];rfl) ?_ ?_
  . rw [ho];simp only [anx,hv,hi,hm]
  . intro r hr;obtain ⟨i,hin,hri⟩:=List.mem_filterMap.1 hr;by_cases hlt:i<l.length
    . rw [AY d i hlt] at hri;simp only [Option.map_some,Option.some.injEq] at hri;subst hri;exact h1 i hin hlt
    . rw [List.getElem?_eq_none (by simp [ak];omega)] at hri;simp at hri
theorem BZ {o m i:Nat} {lf:List Nat} (d:κ×α) (hc:bc bl=true) (hg:bi S.1 (hdB bl).g=some true) (hv:Pv (aev cx.G S.1) (hdB bl).op=some (.itr o)) (hi:S.2[o]?=some (.iter m (lf,some i))) (hm:S.2[m]?=some (.map (ak ek ev l))) (hlt:i<l.length)
 (hk:bS cx bl.tail (Cl S (hdB bl).dst (.tup [ek (l.getD i d).1,ev (l.getD i d).2])) K):bS cx bl S K:=by
 generalize ho:(hdB bl).op=op at hv;unfold Pv at hv;split at hv <;> simp at hv;refine lj hc hg (L:=[(.tup [ek (l.getD i d).1,ev (l.getD i d).2],S.2)]) (by rw [ho];rfl) (by rw [ho];rfl) ?_ ?_
 . rw [ho];simp only [anx,hv,hi,hm,AY d i hlt]
 . intro r hr;rw [List.mem_singleton] at hr;subst hr;exact hk
end
theorem cy {cx:Cx} {T:Tm} {h hs:ae} {m:Nat} {rs:List ResultVar} {e:Exit} {l:List aa} {v:aa} (he:e=.normal\/e=.ret) (hl:fx cx.P T h rs=some l) (hv:(bg l).frz h=v) (ho:(bg l).owns=[]) (hb:v.bel m=true) (hh:h.take m=hs) (hbo:hs.all (ax.belO m)=true) :
 Fin cx rs m (fun v' h'=>v'=v/\h'=hs) e T h :=
 ⟨he,l,hl,m,Nat.le_refl _,by rw [hv];exact hb,by rw [ho];simp only [cG];rw [hh];exact hbo,hv,by rw [ho];exact hh⟩
end Go.Proofs.YtcpklndelobigaaGreatDoor.Abs
namespace Go.Proofs.YtcpklndelobigaaGreatDoor.Abs
open Go
section
variable {cx:Cx} {n m:Nat} {T:Tm} {h:ae} {Q:cD}
theorem E5 (h:ae) (l:List aa):(aQ h l).length=l.length:=by rw [b5,List.length_map]
theorem fA (o:Nat) {sz fr:Nat} {es:List aa} (es':List aa) (ho:h[o]?=some (.arr sz es fr)) (hw:aG es=[]) (he:aQ [] es=es') {d:Code}
 (hk:wpA cx n m d Q T (h.set o (.arr sz es' fr))):wpA cx n m d Q T h:=by
 intro E B ρ a w hm hr;have hlt:=(List.getElem?_eq_some_iff.1 ho).1;have hl:es'.length=es.length:=by rw [<- he,E5]
 have he':aQ h es=es':=by rw [<- he];exact cE h [] es hw
 have hor:=hr.wf.obj o _ ho
 have hst:=b6 (h':=h.set o (.arr sz es' fr)) (w':=w) hr.wf hr.fr o (.arr sz es' fr) (ρ.loc o) ρ.I (by rw [List.getElem?_set_self hlt]) (fun o' ho'=>aT _ _ _ _ ho')
  rfl rfl rfl (Nat.le_refl _) (fun _ _ _=>rfl) (fun x hx=>by rw [ho] at hx;cases hx;exact ⟨by omega,fun _=>⟨rfl,rfl⟩⟩)
  (fun b j hI=>⟨hI,rfl⟩) (fun b j hI=>.inl hI)
  (fun hb=>.inr ⟨_,ho,hb,rfl⟩) (fun j hb hI=>hr.wf.imm o (.arr sz es fr) j ho hb hI)
  (fun o' m' left _ hi=>by
   rintro rfl;obtain ⟨_,_,_,_,es0,_,_,h2,_⟩:=hr.wf.obj o' _ hi;rw [ho] at h2;cases h2)
  (fun le=>by
   obtain ⟨h1,h2,h3,h4,h5⟩:=hor;refine ⟨by omega,by omega,h3,?_,fun hc=>?_⟩
   . intro i x hx;rw [<- he',b5] at hx;simp at hx;obtain ⟨y,g1,rfl⟩:=hx;rw [e6];simpa using h4 i y g1
   . obtain ⟨c,t,h6,h7,h8⟩:=h5 hc;refine ⟨c,t,h6,h7,?_⟩;intro i x j y v hx hy hv;rw [<- he',b5] at hx;simp at hx;obtain ⟨x0,g1,rfl⟩:=hx;rw [e6] at hy;simp at hy;obtain ⟨y0,g2,rfl⟩:=hy;refine VR.frz (ids:=[]) le zq (h8 i x0 j y0 v g1 g2 hv) ?_;intro o1 ho1;have:=du g1 o1 (mN g2 o1 ho1);rw [hw] at this;exact this)
 exact hk E B _ a w hm (hr.step hst.1 hst.2.1 hst.2.2)
theorem xH (t:Nat) (x y:aa) (hx:Tm.get T t=x) (hw:x.owns=[]) (he:x.frz []=y) {d:Code} (hk:wpA cx n m d Q ((t,y)::T) h):wpA cx n m d Q T h:=by
 intro E B ρ a w hm hr;refine hk E B ρ a w hm ⟨fun t'=>?_,hr.size,hr.defers,hr.glob,hr.wf,hr.fr,hr.le⟩;simp only [Tm.get];by_cases e:t=t'
 . subst e;rw [if_pos rfl,<- he,<- lN h [] x hw,<- hx];exact VR.frz (ids:=[]) (Le.refl _ _ _) zq (hr.tm t) (by rw [hx,hw];simp)
 . rw [if_neg e];exact hr.tm t'
theorem cl {P:Program} {ev:Operand->aa} {op:Op} {h:ae} {α:Type} {enc:α->aa} {l:List α} {xs:List aa} {t t' e:Nat} {o len:Nat} {a b a' b' a2 b2 sz fr:Nat} {z z' z2:aa} {ek k2:TyK} {e2:Nat} {x:aa} (hv:sN ev op=some (.append,[t,t'],[.own o 0 len,x])) (ht:aN P t=some ⟨.slice e,a,b,z⟩) (he:aN P e=some ⟨ek,a',b',z'⟩) (ht':aN P t'=some ⟨k2,a2,b2,z2⟩) (hk2:k2=.slice e2)
 (ho:h[o]?=some (.arr sz (l.map enc) fr)) (hsz:sz=a') (hl:len=l.length) (hx:fG h x=some xs) (hz:0<a'/\z'.cells.length=a') (hok:fE a' xs=true) (hf:(l.length+xs.length) * b'<=140737488355328) (hf2:l.length+xs.length<=140737488355328) :
 aop P h ev op=some (.own o 0 (l.length+xs.length),h.set o (.arr sz (l.map enc++xs) fr)):=by
 have:=rZ (h:=h) hv ht he ht' hk2 ho hsz (by rw [hl,List.length_map]) hx ⟨hz.1,hz.2,hok⟩ (by rw [hl];simp [gR];exact ⟨hf,hf2⟩);rw [this,hl]
end
end Go.Proofs.YtcpklndelobigaaGreatDoor.Abs
namespace Go.Proofs.YtcpklndelobigaaGreatDoor.Abs
open Go
section
variable {cx:Cx} {h:ae}
theorem Fs:sC h [] []:=⟨rfl,List.nodup_nil,fun i o x hi=>by simp at hi,rfl,fun _ _ _ _ _=>by simp⟩
theorem pe {f:FuncId} {args args':List aa} {Q:aa->ae->Prop} (hc:aE cx f args' [] Q) (ha:aQ h args=args') (hb:aM 0 args'=true) :
 aE cx f args h (fun v h'=>∃ V G,Q V G/\v=V.ren (bD [] h.length)/\h'=cG h (aG args)++iK (bD [] h.length) G):=by
 refine mz ?_;rw [ha];have:=fU (h:=cG h (aG args)) (L:=[]) (hs:=[]) (K:=fun v h'=>∃ V G,Q V G/\v=V.ren (bD [] h.length)/\h'=cG h (aG args)++iK (bD [] h.length) G) Fs hc hb ?_
 . rwa [dc _ _ hb] at this
 . intro v hs' _ hq;exact ⟨v,hs',hq,by rw [eg],by simp [eU,dM,eg]⟩
theorem uy {f:FuncId} {args args':List aa} {V:aa} {G:ae} (hc:aE cx f args' [] fun v' g'=>v'=V/\g'=G) (ha:aQ h args=args') (hb:aM 0 args'=true) :
 aE cx f args h (fun v h'=>v=V.ren (bD [] h.length)/\h'=cG h (aG args)++iK (bD [] h.length) G) :=
 (pe hc ha hb).mono (by rintro v h' ⟨_,_,⟨rfl,rfl⟩,h2,h3⟩;exact ⟨h2,h3⟩)
variable {l:List BOp} {K:Tm->ae->Prop} {S:RSt}
theorem Oo {f:FuncId} {args args':List aa} {Q:aa->ae->Prop} (hc:bc l=true) (hg:bi S.1 (hdB l).g=some true) (ho:aop cx.P S.2 (aev cx.G S.1) (hdB l).op=none) (ha:aI (aev cx.G S.1) (hdB l).op=some (f,args)) (hq:aE cx f args' [] Q) (hf:aQ S.2 args=args') (hb:aM 0 args'=true)
 (hk:∀ V G,Q V G->bS cx l.tail (b3 S.1 (hdB l).dst (V.ren (bD [] S.2.length)),cG S.2 (aG args)++iK (bD [] S.2.length) G) K):bS cx l S K :=
 wq hc hg ho ha (pe hq hf hb) (by rintro v h' ⟨V,G,h1,rfl,rfl⟩;exact hk V G h1)
variable {KD:List (List Nat×List Nat)->Tm->ae->Prop} {s:DSt}
def su (h:ae) (args:List aa) (G:ae):List Nat:=aG args++(List.range G.length).map (h.length + ·)
theorem N8 {f:FuncId} {args args':List aa} {V:aa} {G:ae} (hc:bc l=true) (hg:bi s.2.1 (hdB l).g=some true) (hal:e8 (hdB l).op=false) (ho:aop cx.P s.2.2.1 (aev cx.G s.2.1) (hdB l).op=none) (ha:aI (aev cx.G s.2.1) (hdB l).op=some (f,args))
 (hq:aE cx f args' [] fun v' g'=>v'=V/\g'=G) (hf:aQ s.2.2.1 args=args') (hb:aM 0 args'=true) (hG:0<G.length)
 (hk:bdr cx l.tail (s.1,b3 s.2.1 (hdB l).dst (V.ren (bD [] s.2.2.1.length)),cG s.2.2.1 (aG args)++iK (bD [] s.2.2.1.length) G,s.2.2.2++[(su s.2.2.1 args G,su s.2.2.1 args G)]) KD):bdr cx l s KD:=by
 refine Eb hc hg hal ho ha ⟨?_,uy hq hf hb,?_⟩ hk
 . intro o hn;simp only [su,List.mem_append,not_or] at hn;rcases Nat.lt_or_ge o s.2.2.1.length with h1|h1
   . rw [List.getElem?_append_left (by rw [eg];exact h1),jU _ _ _ hn.1]
   . rw [List.getElem?_append_right (by rw [eg];exact h1),List.getElem?_eq_none h1,eg];refine List.getElem?_eq_none ?_;rw [hX,List.length_map];rcases Nat.lt_or_ge (o - s.2.2.1.length) G.length with h2|h2
     . exact (hn.2 (List.mem_map.2 ⟨o - s.2.2.1.length,List.mem_range.2 h2,by omega⟩)).elim
     . exact h2
 . intro he;simp only [su,List.append_eq_nil_iff,List.map_eq_nil_iff] at he;have:=congrArg List.length he.2;simp at this;rw [this] at hG;simp at hG
end
mutual
def aa.refs:aa->List Nat
 | .agg cs=>d7 cs
 | .tup cs=>d7 cs
 | .ptr o _=>[o]
 | .pimm cs _=>d7 cs
 | .pown o _ _ _=>[o]
 | .imm l=>d7 l
 | .full l=>d7 l
 | .own o _ _=>[o]
 | .map o=>[o]
 | .fn _ xs ys=>d7 xs++d7 ys
 | .itr o=>[o]
 | .iface _ v=>v.refs
 | _=>[]
def d7:List aa->List Nat
 | []=>[]
 | x::xs=>x.refs++d7 xs
end
theorem dr:∀ {l:List aa} {i:Nat} {x:aa},l[i]?=some x->∀ o∈x.refs,o∈d7 l
 | y::l,0,x,h,o,ho=>by simp at h;subst h;simp [d7,ho]
 | y::l,i+1,x,h,o,ho=>by simp at h;simp [d7,dr h o ho]
theorem mw {x y:aa} {j:Nat} (hy:x.cells[j]?=some y):∀ o∈y.refs,o∈x.refs:=by
 intro o ho
 cases x <;> simp only [aa.cells] at hy <;> first
  | (simp only [aa.refs];exact dr hy o ho)
  | (cases j with
   | zero=>simp at hy;subst hy;exact ho
   | succ j=>simp at hy)
def ax.refs:ax->List Nat
 | .box cs=>d7 cs
 | .arr _ es _=>d7 es
 | .map es=>es.flatMap fun e=>e.1.refs++e.2.refs
 | _=>[]
def ax.isIter:ax->Bool
 | .iter _ _=>true
 | _=>false
section
variable {ρ ρ':Ren} {g h:ae} {w:World} {r:Nat->Nat}
theorem VR.ren2 {x:aa} {v:Value} (hx:VR ρ g w x v) (hI:∀ b j,ρ.I b j->ρ'.I b j) (ho:∀ o∈x.refs,∀ y,g[o]?=some y->y.isIter=false/\h[r o]?=some (y.ren r)/\ρ'.loc (r o)=ρ.loc o):VR ρ' h w (x.ren r) v:=by
 induction hx with
 | any v=>exact .any v
 | bool b=>exact .bool b
 | int k n=>exact .int k n
 | str s=>exact .str s
 | agg cs vs hl _ ih =>
  simp only [aa.ren,aB];refine .agg _ vs (by simpa using hl) fun i x v a b=>?_
  simp at a;obtain ⟨y,h1,rfl⟩:=a;exact ih i y v h1 b (fun o hm=>ho o (by simp only [aa.refs];exact dr h1 o hm))
 | tup cs vs hl _ ih =>
  simp only [aa.ren,aB];refine .tup _ vs (by simpa using hl) fun i x v a b=>?_
  simp at a;obtain ⟨y,h1,rfl⟩:=a;exact ih i y v h1 b (fun o hm=>ho o (by simp only [aa.refs];exact dr h1 o hm))
 | nilp=>exact .nilp
 | ptr o off cs hq =>
  obtain ⟨_,h1,h2⟩:=ho o (by simp [aa.refs]) _ hq;rw [<- h2];exact .ptr _ off _ h1
 | pimm cs off b base val hc _ ih =>
  simp only [aa.ren,aB];refine .pimm _ off b base val ?_ ?_
  . intro j y hy;simp at hy;obtain ⟨y0,h1,rfl⟩:=hy;exact ⟨hI _ _ (hc j y0 h1).1,(hc j y0 h1).2⟩
  . intro j y hy;simp at hy;obtain ⟨y0,h1,rfl⟩:=hy;exact ih j y0 h1 (fun o hm=>ho o (by simp only [aa.refs];exact dr h1 o hm))
 | pown o idx off n a sz es fr hq hv =>
  obtain ⟨_,h1,h2⟩:=ho o (by simp [aa.refs]) _ hq;refine .pown _ idx off n a sz _ fr h1 ?_;rw [aB,List.length_map,h2];exact hv
 | imm l a cap sz b off val hcap ha hsz hc _ ih =>
  simp only [aa.ren,aB]
  have:VR ρ' h w (.imm (l.map (aa.ren r))) (.slice a (l.map (aa.ren r)).length cap):=by
   refine .imm _ a cap sz b off val (by simpa using hcap) (by simpa using ha) ?_ ?_ ?_
   . intro i x hx;simp at hx;obtain ⟨y,h1,rfl⟩:=hx;rw [bk];simpa using hsz i y h1
   . intro i x j y hx hy;simp at hx;obtain ⟨x0,h1,rfl⟩:=hx;rw [bk] at hy;simp at hy;obtain ⟨y0,h2,rfl⟩:=hy;exact ⟨hI _ _ (hc i x0 j y0 h1 h2).1,(hc i x0 j y0 h1 h2).2⟩
   . intro i x j y hx hy;simp at hx;obtain ⟨x0,h1,rfl⟩:=hx;rw [bk] at hy;simp at hy;obtain ⟨y0,h2,rfl⟩:=hy;exact ih i x0 j y0 h1 h2 (fun o hm=>ho o (by simp only [aa.refs];exact dr h1 o (mw h2 o hm)))
  simpa using this
 | full l a sz b off val ha hsz hc _ ih =>
  simp only [aa.ren,aB]
  have:VR ρ' h w (.full (l.map (aa.ren r))) (.slice a (l.map (aa.ren r)).length (l.map (aa.ren r)).length):=by
   refine .full _ a sz b off val (by simpa using ha) ?_ ?_ ?_
   . intro i x hx;simp at hx;obtain ⟨y,h1,rfl⟩:=hx;rw [bk];simpa using hsz i y h1
   . intro i x j y hx hy;simp at hx;obtain ⟨x0,h1,rfl⟩:=hx;rw [bk] at hy;simp at hy;obtain ⟨y0,h2,rfl⟩:=hy;exact ⟨hI _ _ (hc i x0 j y0 h1 h2).1,(hc i x0 j y0 h1 h2).2⟩
   . intro i x j y hx hy;simp at hx;obtain ⟨x0,h1,rfl⟩:=hx;rw [bk] at hy;simp at hy;obtain ⟨y0,h2,rfl⟩:=hy;exact ih i x0 j y0 h1 h2 (fun o hm=>ho o (by simp only [aa.refs];exact dr h1 o (mw h2 o hm)))
  simpa using this
 | own o off len a n cap sz es fr hq hv =>
  obtain ⟨_,h1,h2⟩:=ho o (by simp [aa.refs]) _ hq;refine .own _ off len a n cap sz _ fr h1 ?_;rw [aB,List.length_map,h2];exact hv
 | nilm=>exact .nilm
 | map o es hq =>
  obtain ⟨_,h1,h2⟩:=ho o (by simp [aa.refs]) _ hq;rw [<- h2];exact .map _ _ h1
 | fn f xs ys us vs hl hl' _ _ ih1 ih2 =>
  simp only [aa.ren,aB];refine .fn f _ _ us vs (by simpa using hl) (by simpa using hl') ?_ ?_
  . intro i x v a b;simp at a;obtain ⟨y,h1,rfl⟩:=a;exact ih1 i y v h1 b (fun o hm=>ho o (by simp only [aa.refs];simp [dr h1 o hm]))
  . intro i x v a b;simp at a;obtain ⟨y,h1,rfl⟩:=a;exact ih2 i y v h1 b (fun o hm=>ho o (by simp only [aa.refs];simp [dr h1 o hm]))
 | nilfn=>exact .nilfn
 | itr o m left hq =>
  have:=(ho o (by simp [aa.refs]) _ hq).1;cases this
 | iface t x v _ ih=>exact .iface t _ v (ih (fun o hm=>ho o (by simpa [aa.refs] using hm)))
 | nili=>exact .nili
theorem OR.ren2 {x:ax} {l:Loc} (hx:OR ρ g w l x) (hn:x.isIter=false) (hI:∀ b j,ρ.I b j->ρ'.I b j) (ho:∀ o∈x.refs,∀ y,g[o]?=some y->y.isIter=false/\h[r o]?=some (y.ren r)/\ρ'.loc (r o)=ρ.loc o):OR ρ' h w l (x.ren r):=by
 cases x with
 | hole=>trivial
 | iter m left=>cases hn
 | box cs =>
  obtain ⟨c,t,h1,h2,h3⟩:=hx;refine ⟨c,t,h1,by rw [h2,aB,List.length_map],fun i x v a b=>?_⟩;rw [aB] at a;simp at a;obtain ⟨y,g1,rfl⟩:=a;exact (h3 i y v g1 b).ren2 hI (fun o hm=>ho o (dr g1 o hm))
 | arr sz es fr =>
  obtain ⟨h1,h2,h3,h4,h5⟩:=hx;have el:(cV r es).length=es.length:=by rw [aB,List.length_map]
  refine ⟨by omega,by omega,h3,?_,fun hc=>?_⟩
  . intro i x hx;rw [aB] at hx;simp at hx;obtain ⟨y,g1,rfl⟩:=hx;rw [bk];simpa using h4 i y g1
  . obtain ⟨c,t,h6,h7,h8⟩:=h5 hc;refine ⟨c,t,h6,h7,fun i x j y v a b d=>?_⟩;rw [aB] at a;simp at a;obtain ⟨x0,g1,rfl⟩:=a;rw [bk] at b;simp at b;obtain ⟨y0,g2,rfl⟩:=b;exact (h8 i x0 j y0 v g1 g2 d).ren2 hI (fun o hm=>ho o (dr g1 o (mw g2 o hm)))
 | map es =>
  obtain ⟨ms,clock,h1,h2,h3,h4⟩:=hx;refine ⟨ms,clock,h1,by rw [gV,List.length_map];exact h2,fun i kv e a b=>?_,h4⟩;rw [gV] at a;simp at a;obtain ⟨x,y,g1,rfl⟩:=a
  have hm:∀ o∈x.refs++y.refs,o∈(ax.map es).refs:=fun o ho=>by
   simp only [ax.refs,List.mem_flatMap];exact ⟨_,List.mem_of_getElem? g1,ho⟩
  obtain ⟨q1,q2,q3⟩:=h3 i _ e g1 b;exact ⟨q1.ren2 hI (fun o h=>ho o (hm o (List.mem_append_left _ h))),q2.ren2 hI (fun o h=>ho o (hm o (List.mem_append_right _ h))),q3⟩
end
end Go.Proofs.YtcpklndelobigaaGreatDoor.Abs
namespace Go.Proofs.YtcpklndelobigaaGreatDoor.Abs
open Go
def renT (r:Nat->Nat):Tm->Tm
 | []=>[]
 | p::T=>(p.1,p.2.ren r)::renT r T
theorem yv (r:Nat->Nat):∀ (T:Tm) (t:Nat),Tm.get (renT r T) t=(Tm.get T t).ren r
 | [],t=>rfl
 | p::T,t=>by
  simp only [renT,Tm.get];by_cases e:p.1=t
  . rw [if_pos e,if_pos e]
  . rw [if_neg e,if_neg e];exact yv r T t
def Dh (r:Nat->Nat):Option ax->ax
 | some x=>x.ren r
 | none=>.hole
def m4 (r:Nat->Nat) (h:ae):List Nat->ae
 | []=>[]
 | o::ks=>Dh r h[o]?::m4 r h ks
theorem oH (r:Nat->Nat) (h:ae):∀ ks,m4 r h ks=ks.map fun o=>Dh r h[o]?
 | []=>rfl
 | o::ks=>by rw [m4,oH r h ks];rfl
def Fl (ks:List Nat):Option ax->Prop
 | some x=>x.isIter=false/\∀ o∈x.refs,o∈ks
 | none=>False
theorem xD {ks:List Nat}:∀ (T:Tm) (t:Nat),(∀ p∈T,∀ o∈p.2.refs,o∈ks)->∀ o∈(Tm.get T t).refs,o∈ks
 | [],t,_,o,ho=>by simp [Tm.get,aa.refs] at ho
 | p::T,t,h,o,ho=>by
  simp only [Tm.get] at ho;split at ho
  . exact h p zq o ho
  . exact xD T t (fun q hq=>h q (by simp [hq])) o ho
section
variable {cx:Cx} {n m:Nat} {T:Tm} {h:ae} {Q:cD}
theorem xQ (ks:List Nat) (T':Tm) (h':ae) (hnd:ks.Nodup) (hT:∀ p∈T,∀ o∈p.2.refs,o∈ks) (hO:∀ o∈ks,Fl ks h[o]?) (eT:renT (fun o=>ks.idxOf o) T=T') (eh:m4 (fun o=>ks.idxOf o) h ks=h') {d:Code}
 (hk:wpA cx n 0 d Q T' h'):wpA cx n 0 d Q T h:=by
 intro E B ρ a w hm hr;subst eT eh
 let r:Nat->Nat:=fun o=>ks.idxOf o
 let ρ':Ren:=⟨fun i=>ρ.loc (ks.getD i 0),ρ.I⟩
 have hin:∀ o∈ks,∀ y,h[o]?=some y->y.isIter=false/\(m4 r h ks)[r o]?=some (y.ren r)/\ρ'.loc (r o)=ρ.loc o:=by
  intro o ho y hy;have h1:=hO o ho;rw [hy] at h1;have hlt:ks.idxOf o<ks.length:=List.idxOf_lt_length_iff.2 ho;have hge:ks[ks.idxOf o]=o:=List.getElem_idxOf hlt;refine ⟨h1.1,?_,?_⟩
  . rw [oH,List.getElem?_map,List.getElem?_eq_getElem hlt,hge];simp [hy,Dh]
  . show ρ.loc (ks.getD (ks.idxOf o) 0)=ρ.loc o;rw [List.getD_eq_getElem?_getD,List.getElem?_eq_getElem hlt,hge];rfl
 have hout:∀ (i:Nat) x,(m4 r h ks)[i]?=some x->∃ o y,o∈ks/\(∃ hi:i<ks.length,ks[i]=o)/\h[o]?=some y/\x=y.ren r/\ρ'.loc i=ρ.loc o:=by
  intro i x hx;rw [oH,List.getElem?_map] at hx;cases hq:ks[i]? with
  | none=>rw [hq] at hx;simp at hx
  | some o =>
   rw [hq] at hx;obtain ⟨hi,he⟩:=List.getElem?_eq_some_iff.1 hq;have hmem:o∈ks:=he▸List.getElem_mem hi;have h1:=hO o hmem;cases hy:h[o]? with
   | none=>rw [hy] at h1;exact h1.elim
   | some y =>
    simp [hy,Dh] at hx;refine ⟨o,y,hmem,⟨hi,he⟩,hy,hx.symm,?_⟩;show ρ.loc (ks.getD i 0)=ρ.loc o;rw [List.getD_eq_getElem?_getD,hq];rfl
 have hwf:WF ρ' (m4 r h ks) w:=by
  refine ⟨?_,?_,?_,hr.wf.immlt,?_⟩
  . intro i x hx;obtain ⟨o,y,h1,_,h3,rfl,h5⟩:=hout i x hx;rw [h5];have h6:=hO o h1;rw [h3] at h6;exact (hr.wf.obj o y h3).ren2 h6.1 (fun _ _ h=>h) (fun o' ho' y' hy'=>hin o' (h6.2 o' ho') y' hy')
  . intro i x i' x' hx hx' hb hb' he;obtain ⟨o,y,h1,⟨hi,e1⟩,h3,rfl,h5⟩:=hout i x hx;obtain ⟨o',y',h1',⟨hi',e1'⟩,h3',rfl,h5'⟩:=hout i' x' hx';rw [bP,h5] at hb;rw [bP,h5'] at hb';rw [h5,h5'] at he;have:=hr.wf.inj o y o' y' h3 h3' hb hb' he;exact og hnd hi hi' (by rw [e1,e1',this])
  . intro i x hx hb;obtain ⟨o,y,h1,_,h3,rfl,h5⟩:=hout i x hx;rw [bP,h5] at hb;rw [h5];exact hr.wf.lt o y h3 hb
  . intro i x j hx hb hI;obtain ⟨o,y,h1,_,h3,rfl,h5⟩:=hout i x hx;rw [bP,h5] at hb;rw [h5] at hI ⊢;rw [rc];exact hr.wf.imm o y j h3 hb hI
 refine hk E B ρ' a w hm ⟨?_,hr.size,hr.defers,?_,hwf,?_,?_⟩
 . intro t;rw [yv];exact (hr.tm t).ren2 (fun _ _ h=>h) (fun o ho y hy=>hin o (xD T t hT o ho) y hy)
 . intro g cs hg;have le0:Le ρ [] w ρ' [] w:=⟨fun o x hx=>by simp at hx,fun b j hI=>⟨hI,rfl⟩⟩;exact (hr.glob g cs hg).nil_mono le0
 . refine ⟨hr.fr.os,hr.fr.tape,hr.fr.output,hr.fr.size,hr.fr.keep,hr.fr.imm,hr.fr.new,?_⟩;intro i x hx hb hlt;obtain ⟨o,y,h1,_,h3,rfl,h5⟩:=hout i x hx;rw [bP,h5] at hb;rw [h5] at hlt ⊢;exact hr.fr.own o y h3 hb hlt
 . refine ⟨fun o x hx=>?_,hr.le.imm⟩;rw [List.length_eq_zero_iff.1 hm] at hx;simp at hx
theorem Rel.box {E:Ent} {B:od} {ρ ρ1:Ren} {h1:ae} {a:Act} {w:World} {b i:Nat} {cs:List aa} {y y':aa} (hr:Rel cx E B n ρ T h a w) (hr1:Rel cx E B n ρ1 T h1 a w) (ho:h[b]?=some (.box cs)) (ho1:h1[b]?=some (.box cs)) (le:Le ρ h w ρ1 h1 w) (hy:cs[i]?=some y) (hsp:∀ v,VR ρ h w y v->VR ρ1 h1 w y' v) :
 ∃ ρ',Rel cx E B n ρ' T (h1.set b (.box (cs.set i y'))) a w:=by
 have hlt:=(List.getElem?_eq_some_iff.1 ho1).1
 have hst:=b6 (h':=h1.set b (.box (cs.set i y'))) (w':=w) hr1.wf hr1.fr b (.box (cs.set i y')) (ρ1.loc b) ρ1.I (by rw [List.getElem?_set_self hlt]) (fun o' ho'=>aT _ _ _ _ ho')
  rfl rfl rfl (Nat.le_refl _) (fun _ _ _=>rfl) (fun x hx=>by rw [ho1] at hx;cases hx;rfl)
  (fun b j hI=>⟨hI,rfl⟩) (fun b j hI=>.inl hI)
  (fun hb=>.inr ⟨_,ho1,hb,rfl⟩) (fun j hb hI=>hr1.wf.imm b (.box cs) j ho1 hb hI)
  (fun o' m' left _ hi=>by
   rintro rfl;obtain ⟨_,_,_,_,es0,_,_,h2,_⟩:=hr1.wf.obj o' _ hi;rw [ho1] at h2;cases h2)
  (fun le2=>by
   obtain ⟨c,t,g1,g2,g3⟩:=hr1.wf.obj b _ ho1;obtain ⟨c',t',f1,f2,f3⟩:=hr.wf.obj b _ ho
   have hloc:ρ1.loc b=ρ.loc b:=by
    obtain ⟨x',q1,q2⟩:=le.obj b _ ho;rw [ho1] at q1;cases q1;exact q2
   rw [<- hloc,g1] at f1;cases f1
   refine ⟨c,t,g1,by rw [g2,List.length_set],fun j x v hx hv=>?_⟩;by_cases e:j=i
   . subst e;rw [List.getElem?_set_self (List.getElem?_eq_some_iff.1 hy).1] at hx;cases hx
     exact (hsp v (f3 j y v hy hv)).mono le2
   . rw [List.getElem?_set_ne (fun q=>e q.symm)] at hx;exact (g3 j x v hx hv).mono le2)
 exact ⟨_,hr1.step hst.1 hst.2.1 hst.2.2⟩
theorem Rel.ghost {E:Ent} {B:od} {ρ:Ren} {a:Act} {w:World} (sz:Nat) (hsz:0<sz) (hr:Rel cx E B n ρ T h a w) :
 ∃ ρ',Rel cx E B n ρ' T (h++[.arr sz [] 0]) a w/\Le ρ h w ρ' (h++[.arr sz [] 0]) w/\∀ ad,VR ρ' (h++[.arr sz [] 0]) w (.own h.length 0 0) (.slice ad 0 0):=by
 have hst:=b6 (h':=h++[.arr sz [] 0]) (w':=w) hr.wf hr.fr h.length (.arr sz [] 0) ⟨0,0,0⟩ ρ.I (getElem?_append_one _ _) (fun o' ho=>bz _ _ _ ho)
  rfl rfl rfl (Nat.le_refl _) (fun _ _ _=>rfl) zq (fun b j hI=>⟨hI,rfl⟩) (fun b j hI=>.inl hI)
  (fun hb=>by simp [ax.hasBlk] at hb) (fun j hb=>by simp [ax.hasBlk] at hb) (cr hr.wf)
  (fun _=>⟨Nat.le_refl _,Nat.le_refl _,hsz,by simp,fun hc=>by simp at hc⟩)
 refine ⟨_,hr.step hst.1 hst.2.1 hst.2.2,hst.2.1,fun ad=>?_⟩;refine .own _ _ _ _ _ _ sz [] 0 (getElem?_append_one _ _) ⟨by simp,fun _=>⟨rfl,?_,fun h0=>by simp at h0⟩⟩;rw [Ren.put_same]
theorem th (b i sz:Nat) {cs:List aa} (cs':List aa) (hsz:0<sz) (hb:h[b]?=some (.box cs)) (hi:cs[i]?=some (.full [])) (he:cs.set i (.own h.length 0 0)=cs') {d:Code} (hk:wpA cx n m d Q T (h.set b (.box cs')++[.arr sz [] 0])):wpA cx n m d Q T h:=by
 intro E B ρ a w hm hr;obtain ⟨ρ1,r1,r2,r3⟩:=hr.ghost sz hsz;have hlt:=(List.getElem?_eq_some_iff.1 hb).1;obtain ⟨ρ2,q1⟩:=Rel.box hr r1 hb (by rw [List.getElem?_append_left hlt];exact hb) r2 hi (y':=.own h.length 0 0) (fun v hv=>by cases hv;exact r3 _);rw [he,List.set_append_left _ _ hlt] at q1;exact hk E B ρ2 a w hm q1
theorem EY (b i o:Nat) {cs es:List aa} {off len sz fr:Nat} (cs' es':List aa) (hbo:b≠o) (hb:h[b]?=some (.box cs)) (hi:cs[i]?=some (.own o off len)) (ho:h[o]?=some (.arr sz es fr)) (htip:off+len=es.length) (hes:es.drop off=es') (he:cs.set i (.imm es')=cs') {d:Code}
 (hk:wpA cx n m d Q T ((h.set o (.arr sz es es.length)).set b (.box cs'))):wpA cx n m d Q T h:=by
 intro E B ρ a w hm hr;obtain ⟨ρ1,g1,g2,g3,g4⟩:=ir hr.wf hr.fr ho;obtain ⟨ρ2,q1⟩:=Rel.box hr (hr.step g1 g2 g3) hb (by rw [aT _ _ _ _ hbo];exact hb) g2 hi (y':=.imm es') (fun v hv=>by rw [<- hes];exact g4 off len v htip hv);rw [he] at q1;exact hk E B ρ2 a w hm q1
end
end Go.Proofs.YtcpklndelobigaaGreatDoor.Abs
namespace Go.Proofs.YtcpklndelobigaaGreatDoor.Abs
open Go
section
variable {cx:Cx} {n m:Nat} {T:Tm} {h:ae} {Q:cD}
theorem ph {f:FuncId} {args:List aa} {Q Q':aa->ae->Prop} (hc:aE cx f args [] Q) (hq:∀ v h',Q v h'->Q' v h'\/((v.frz h').bel 0=true/\Q' (v.frz h') [])):aE cx f args [] Q':=by
 refine ⟨hc.1,fun ρ w cargs wf hg hv=>?_⟩;refine (hc.2 ρ w cargs wf hg hv).mono ?_;rintro e w' ⟨ρ',cv,v,h',rfl,hQ,r1,r2,r3,r4⟩;rcases hq v h' hQ with h1|⟨h1,h2⟩
 . exact ⟨ρ',cv,v,h',rfl,h1,r1,r2,r3,r4⟩
 . obtain ⟨ρ2,q1,q2,q3,q4⟩:=eO v.owns r2 r4;have g3:=(r1.frz q2 q4 (fun o ho=>ho)).take h1;have g4:=q1.take 0 zq;have g5:=(r3.trans q2).take 0 zq;have g6:=q3.take 0;simp only [List.take_zero] at g3 g4 g5 g6;exact ⟨ρ2,cv,_,[],rfl,h2,g3,g4,g5,g6⟩
theorem eX {f:FuncId} {args:List aa} {Q:aa->ae->Prop} {V:aa} (hc:aE cx f args [] Q) (hq:∀ v h',Q v h'->v.frz h'=V) (hb:V.bel 0=true):af cx f args V :=
 ph hc fun v h' h1=>.inr (by rw [hq v h' h1];exact ⟨hb,rfl,rfl⟩)
theorem gv {rs:List ResultVar} {e:Exit} {l:List aa} {q:aa->ae->Prop} (j:Nat) (g:ae) (he:e=.normal\/e=.ret) (hl:fx cx.P T h rs=some l) (hm:m<=j) (hg:h.take j=g) (hb:(bg l).bel j=true) (ho:g.all (ax.belO j)=true) (hq:q (bg l) g):z7 cx rs m q e T h :=
 ⟨he,l,hl,j,hm,hb,by rw [hg];exact ho,by rw [hg];exact hq⟩
theorem dy (b i:Nat) {cs:List aa} {y:aa} (cs':List aa) (hb:h[b]?=some (.box cs)) (hi:cs[i]?=some y) (hw:y.owns=[]) (he:cs.set i (y.frz [])=cs') {d:Code} (hk:wpA cx n m d Q T (h.set b (.box cs'))):wpA cx n m d Q T h:=by
 intro E B ρ a w hm hr
 obtain ⟨ρ2,q1⟩:=Rel.box hr hr hb hb (Le.refl _ _ _) hi (y':=y.frz []) (fun v hv=>by
  rw [<- lN h [] y hw];exact VR.frz (ids:=[]) (Le.refl _ _ _) zq hv (by rw [hw];simp))
 rw [he] at q1;exact hk E B ρ2 a w hm q1
end
end Go.Proofs.YtcpklndelobigaaGreatDoor.Abs
namespace Go.Proofs.YtcpklndelobigaaGreatDoor.Abs
open Go
section
variable {cx:Cx} {l:List BOp} {K:Tm->ae->Prop} {S:RSt} {KD:List (List Nat×List Nat)->Tm->ae->Prop} {s:DSt}
theorem Lc {f:FuncId} {args args':List aa} {V V':aa} {G G' F:ae} {L:List Nat} (hc:bc l=true) (hg:bi s.2.1 (hdB l).g=some true) (hal:e8 (hdB l).op=false) (ho:aop cx.P s.2.2.1 (aev cx.G s.2.1) (hdB l).op=none) (ha:aI (aev cx.G s.2.1) (hdB l).op=some (f,args))
 (hq:aE cx f args' [] fun v' g'=>v'=V/\g'=G) (H0:ae) (hH:s.2.2.1=H0) (hf:aQ H0 args=args') (hb:aM 0 args'=true) (hG0:0<G.length)
 (hF:cG H0 (aG args)=F) (hV:V.ren (bD [] H0.length)=V') (hG:iK (bD [] H0.length) G=G') (hL:su H0 args G=L)
 (hk:bdr cx l.tail (s.1,b3 s.2.1 (hdB l).dst V',F++G',s.2.2.2++[(L,L)]) KD):bdr cx l s KD :=
 N8 hc hg hal ho ha hq (by rw [hH];exact hf) hb hG0 (by rw [hH,hV,hG,hF,hL];exact hk)
end
end Go.Proofs.YtcpklndelobigaaGreatDoor.Abs
namespace Go.Proofs.YtcpklndelobigaaGreatDoor.Abs
open Go
section
variable {cx:Cx} {l:List BOp} {K:Tm->ae->Prop} {S:RSt}
theorem LD {f:FuncId} {args args':List aa} {A B:Prop} {V1 V1' V2 V2':aa} {G1 G1' G2 G2' F:ae} (hc:bc l=true) (hg:bi S.1 (hdB l).g=some true) (ho:aop cx.P S.2 (aev cx.G S.1) (hdB l).op=none) (ha:aI (aev cx.G S.1) (hdB l).op=some (f,args))
 (hq:aE cx f args' [] fun v h=>(A/\v=V1/\h=G1)\/(B/\v=V2/\h=G2)) (H0:ae) (hH:S.2=H0) (hf:aQ H0 args=args') (hb:aM 0 args'=true)
 (hF:cG H0 (aG args)=F) (hV1:V1.ren (bD [] H0.length)=V1') (hG1:iK (bD [] H0.length) G1=G1') (hV2:V2.ren (bD [] H0.length)=V2') (hG2:iK (bD [] H0.length) G2=G2')
 (hk1:A->bS cx l.tail (b3 S.1 (hdB l).dst V1',F++G1') K) (hk2:B->bS cx l.tail (b3 S.1 (hdB l).dst V2',F++G2') K):bS cx l S K :=
 Oo hc hg ho ha hq (by rw [hH];exact hf) hb (by
  rintro _ _ (⟨a,rfl,rfl⟩|⟨b,rfl,rfl⟩)
  . rw [hH,hV1,hG1,hF];exact hk1 a
  . rw [hH,hV2,hG2,hF];exact hk2 b)
end
theorem iV {P:Program} {ev:Operand->aa} {op:Op} {h:ae} {α:Type} {enc:α->aa} {l:List α} {X d:α} {t:Nat} {o idx k sz:Nat} {x:aa} {i:TyI} (hv:mr ev op=some (t,.pown o idx 0 k,x)) (hx:x=enc X) (ho:h[o]?=some (.arr sz (l.map enc) 0)) (hl:(l.map enc).length=k) (hi:idx<l.length) (ht:aN P t=some i)
 (hok:∀ q,(enc q).cells.length=i.size/\(enc q).cells.all aa.cellOk=true) (hw:∀ p q,(enc p).withCells (enc q).cells=some (enc q)):aop P h ev op=some (.any,h.set o (.arr sz ((l.set idx X).map enc) 0)):=by
 have hy:(l.map enc)[idx]?=some (enc (l.getD idx d)):=by
  rw [List.getElem?_map,List.getElem?_eq_getElem hi,List.getD_eq_getElem?_getD,List.getElem?_eq_getElem hi];rfl
 rw [Ig hv ho hl (Nat.zero_le _) hy ht (by rw [hx];exact hok X) rfl (hok _).1 (by rw [hx];exact hw _ _),hx,List.map_set]
end Go.Proofs.YtcpklndelobigaaGreatDoor.Abs
namespace Go.Proofs.YtcpklndelobigaaGreatDoor.Abs
open Go.RowKit
section
variable {cx:Cx}
theorem j7 {f:FuncId} {args:List aa} {h:ae} {v:aa} {K:aa->ae->Prop} (hb:uR cx.P f) (hk:K v h)
 (hc:∀ (ρ:Ren) (w:World) (cargs:Array Value),WF ρ h w->wk cx ρ w->VRs ρ h w args cargs->Calls cx.P f cargs w fun e w'=>∃ cv I',e=.returned cv/\Below w.heap.size w w' /\
  (∀ b j,ρ.I b j->I' b j)/\(∀ b j,I' b j->ρ.I b j\/(w.heap.size<=b/\b<w'.heap.size))/\(Le ρ h w ⟨ρ.loc,I'⟩ h w'->VR ⟨ρ.loc,I'⟩ h w' v cv)):aE cx f args h K:=by
 refine ⟨hb,fun ρ w cargs wf hg hv=>(hc ρ w cargs wf hg hv).mono ?_⟩;rintro e w' ⟨cv,I',rfl,hbel,h1,h2,h3⟩;have hst:=kO (w':=w') wf (Fr.refl ρ h w) I' hbel.os hbel.tape hbel.output hbel.size hbel.block h1 h2;exact ⟨⟨ρ.loc,I'⟩,cv,v,h,rfl,hk,h3 hst.2.1,hst.1,hst.2.1,hst.2.2⟩
theorem pM {f:FuncId} {args:List aa} {v:aa} {cv:Value} (hb:uR cx.P f) (hf:v.flat=some cv)
 (hc:∀ (ρ:Ren) (w:World) (cargs:Array Value),VRs ρ [] w args cargs->Calls cx.P f cargs w fun e w'=>e=.returned cv/\Below w.heap.size w w'):af cx f args v:=by
 refine j7 (v:=v) hb ⟨rfl,rfl⟩ fun ρ w cargs _ _ hv=>(hc ρ w cargs hv).mono ?_
 rintro e w' ⟨rfl,hbel⟩;exact ⟨cv,ρ.I,rfl,hbel,fun _ _ h=>h,fun _ _ h=>.inl h,fun _=>pZ hf _ _ _⟩
theorem VRs.two {ρ:Ren} {h:ae} {w:World} {x y:aa} {vs:Array Value} (hv:VRs ρ h w [x,y] vs):∃ u v,vs=#[u,v]/\VR ρ h w x u/\VR ρ h w y v:=by
 obtain ⟨h1,h2⟩:=hv;obtain ⟨l⟩:=vs
 match l,h1 with
 | [u,v],_=>exact ⟨u,v,rfl,h2 0 x u rfl rfl,h2 1 y v rfl rfl⟩
theorem VRs.one {ρ:Ren} {h:ae} {w:World} {x:aa} {vs:Array Value} (hv:VRs ρ h w [x] vs):∃ u,vs=#[u]/\VR ρ h w x u:=by
 obtain ⟨h1,h2⟩:=hv;obtain ⟨l⟩:=vs
 match l,h1 with
 | [u],_=>exact ⟨u,rfl,h2 0 x u rfl rfl⟩
end
end Go.Proofs.YtcpklndelobigaaGreatDoor.Abs
namespace Go.Proofs.YtcpklndelobigaaGreatDoor.Abs
section
variable {cx:Cx} {n m:Nat} {Q Q':cD} {T:Tm} {h:ae} {c d:Code} {p:List Nat} {l:List BOp} {S:RSt}
def sl:Tm->List Nat
 | []=>[]
 | x::r=>x.1::sl r
theorem wO (hk:(Nat.beq (bU (at_ c p)) 1 && qL n (at_ c (0::p)))=true) (hw:bS cx (bOf n (at_ c (0::p))) (T,h) (fun T' h'=>cn (wpA cx n m (at_ c (1::p)) Q) Q .normal T' h')):wpA cx n m (at_ c p) Q T h:=by
 simp only [Bool.and_eq_true] at hk;exact fu (Nat.eq_of_beq_eq_true hk.1) (iJ hk.2 (cY hw))
theorem wV (j:Nat) (hk:(Nat.beq (bU (at_ c p)) 1 && qL n (at_ c (0::p)) && (jo cx.P cx.G j (bOf n (at_ c (0::p))) (T,h)).isSome)=true)
 (hw:bS cx ((bOf n (at_ c (0::p))).drop j) (rS (jo cx.P cx.G j (bOf n (at_ c (0::p))) (T,h))) (fun T' h'=>cn (wpA cx n m (at_ c (1::p)) Q) Q .normal T' h')):wpA cx n m (at_ c p) Q T h:=by
 rw [Bool.and_eq_true] at hk;exact wO hk.1 (fh j hk.2 hw)
theorem vN (T':Tm) (h':ae) (hf:(bc l,fX (sl T') S.1,S.2)=(false,T',h')) (hw:wpA cx n m d Q T' h'):bS cx l S (fun T h=>cn (wpA cx n m d Q) Q' .normal T h):=by
 simp only [Prod.mk.injEq] at hf;exact ia hf.1 (ab (wSt (sl T') T' h' hf.2.1 hf.2.2 hw))
theorem vR (j:Nat) (T':Tm) (h':ae) (hf:((jo cx.P cx.G j l S).isSome,bc (l.drop j),fX (sl T') (rS (jo cx.P cx.G j l S)).1,(rS (jo cx.P cx.G j l S)).2)=(true,false,T',h')) (hw:wpA cx n m d Q T' h') :
 bS cx l S (fun T h=>cn (wpA cx n m d Q) Q' .normal T h):=by
 simp only [Prod.mk.injEq] at hf;exact fh j hf.1 (vN T' h' (by simp only [Prod.mk.injEq];exact hf.2) hw)
def wWf (cx:Cx) (n:Nat) (c:Code) (p:List Nat) (j:Nat) (T':Tm) (T:Tm) (h:ae):Bool×Bool×Tm×ae :=
 let r:=jo cx.P cx.G j (bOf n (at_ c (0::p))) (T,h)
 (Nat.beq (bU (at_ c p)) 1 && qL n (at_ c (0::p)) && r.isSome,bc ((bOf n (at_ c (0::p))).drop j),fX (sl T') (rS r).1,(rS r).2)
theorem wW (j:Nat) (T':Tm) (h':ae) (hf:wWf cx n c p j T' T h=(true,false,T',h')) (hw:wpA cx n m (at_ c (1::p)) Q T' h'):wpA cx n m (at_ c p) Q T h:=by
 simp only [wWf,Prod.mk.injEq] at hf;exact wV j hf.1 (vN T' h' (by simp only [Prod.mk.injEq];exact hf.2) hw)
theorem wU (j:Nat) (T':Tm) (hf:wWf cx n c p j T' T h=(true,false,T',h)) (hw:wpA cx n m (at_ c (1::p)) Q T' h):wpA cx n m (at_ c p) Q T h:=wW j T' h hf hw
theorem vT (hf:(Nat.beq (bU (at_ c p)) 8 && !(bc l))=true) (hw:Q .ret S.1 S.2):bS cx l S (fun T h=>cn (wpA cx n m (at_ c p) Q) Q' .normal T h):=by
 simp only [Bool.and_eq_true,Bool.not_eq_true'] at hf;exact ia hf.2 (ab (bq (Nat.eq_of_beq_eq_true hf.1) hw))
theorem vX (j:Nat) (hf:(Nat.beq (bU (at_ c p)) 8 && (jo cx.P cx.G j l S).isSome && !(bc (l.drop j)))=true) (hw:Q .ret (rS (jo cx.P cx.G j l S)).1 (rS (jo cx.P cx.G j l S)).2):bS cx l S (fun T h=>cn (wpA cx n m (at_ c p) Q) Q' .normal T h):=by
 simp only [Bool.and_eq_true] at hf;exact fh j hf.1.2 (vT (by simp only [Bool.and_eq_true];exact ⟨hf.1.1,hf.2⟩) hw)
theorem vs (e:Nat) {x y:Bool} (he:x=y) (hT:Tm.get S.1 e=.bool x) (hk:bS cx l (IQ S e (.bool y)) (fun T h=>cn (wpA cx n m d Q) Q' .normal T h)):bS cx l S (fun T h=>cn (wpA cx n m d Q) Q' .normal T h) :=
 yU e (.bool x) (.bool y) (yW aj) hT (congrArg aa.bool he) hk
theorem wT {x:Bool} (he:x=true) (hf:(bU (at_ c p),aev cx.G T (sj (at_ c p)))=(2,.bool x)) (hw:wpA cx n m (at_ c (0::p)) Q T h):wpA cx n m (at_ c p) Q T h:=by
 simp only [Prod.mk.injEq] at hf;exact cJ hf.1 (hf.2.trans (congrArg aa.bool he)) hw
theorem wF {x:Bool} (he:x=false) (hf:(bU (at_ c p),aev cx.G T (sj (at_ c p)))=(2,.bool x)) (hw:wpA cx n m (at_ c (1::p)) Q T h):wpA cx n m (at_ c p) Q T h:=by
 simp only [Prod.mk.injEq] at hf;exact fM hf.1 (hf.2.trans (congrArg aa.bool he)) hw
theorem wK (hk:bU (at_ c p)=7) (hw:wpA cx n m d Q T h):wpA cx n m (at_ c p) (cn (wpA cx n m d Q) Q') T h:=rX hk (ab hw)
theorem wZ (T':Tm) (h':ae) (hf:(fX (sl T') T,h)=(T',h')) (hw:wpA cx n m d Q T' h'):wpA cx n m d Q T h:=by
 simp only [Prod.mk.injEq] at hf;exact wSt (sl T') T' h' hf.1 hf.2 hw
theorem wZs (T':Tm) (hf:fX (sl T') T=T') (hw:wpA cx n m d Q T' h):wpA cx n m d Q T h:=wSt (sl T') T' h hf rfl hw
theorem vc (args:List aa) {f:FuncId} {args':List aa} {v:aa} {K:Tm->ae->Prop} (hq:af cx f args' v)
 (hf:(bc l,bi S.1 (hdB l).g,(aop cx.P S.2 (aev cx.G S.1) (hdB l).op).isNone,aI (aev cx.G S.1) (hdB l).op,aQ S.2 args,aM 0 args',(aG args).isEmpty)=(true,some true,true,some (f,args),args',true,true))
 (hk:bS cx l.tail (Cl S (hdB l).dst v) K):bS cx l S K:=by
 simp only [Prod.mk.injEq,Option.isNone_iff_eq_none,List.isEmpty_iff] at hf;exact my hf.1 hf.2.1 hf.2.2.1 hf.2.2.2.1 hq hf.2.2.2.2.1 hf.2.2.2.2.2.1 hf.2.2.2.2.2.2 hk
theorem aR {K:Tm->ae->Prop} (q:Q .ret T h):cn K Q .ret T h:=q
theorem iR {id:Nat} (q:Q .ret T h):AIn id Q .ret T h:=q
end
end Go.Proofs.YtcpklndelobigaaGreatDoor.Abs
namespace Go.Proofs.YtcpklndelobigaaGreatDoor.Abs
section
variable {cx:Cx} {n m:Nat} {Q Q':cD} {T:Tm} {h:ae} {c d:Code} {p:List Nat} {l:List BOp} {S:RSt} {K:Tm->ae->Prop} {KD:List (List Nat×List Nat)->Tm->ae->Prop} {s:DSt}
def ao (hw:_) (hk:_):=fu (cx:=cx) (n:=n) (m:=m) (Q:=Q) (T:=T) (h:=h) (c:=c) (p:=p) hk hw
def qO (hw:_) (hk:_):=wO (cx:=cx) (n:=n) (m:=m) (Q:=Q) (T:=T) (h:=h) (c:=c) (p:=p) hk hw
def qV (j:Nat) (hw:_) (hk:_):=wV (cx:=cx) (n:=n) (m:=m) (Q:=Q) (T:=T) (h:=h) (c:=c) (p:=p) j hk hw
def qW (j:Nat) (T':Tm) (h':ae) (hw:_) (hk:_):=wW (cx:=cx) (n:=n) (m:=m) (Q:=Q) (T:=T) (h:=h) (c:=c) (p:=p) j T' h' hk hw
def qU (j:Nat) (T':Tm) (hw:_) (hk:_):=wU (cx:=cx) (n:=n) (m:=m) (Q:=Q) (T:=T) (h:=h) (c:=c) (p:=p) j T' hk hw
def qN (T':Tm) (h':ae) (hw:_) (hk:_):=vN (cx:=cx) (n:=n) (m:=m) (Q:=Q) (Q':=Q') (d:=d) (l:=l) (S:=S) T' h' hk hw
def qR (j:Nat) (T':Tm) (h':ae) (hw:_) (hk:_):=vR (cx:=cx) (n:=n) (m:=m) (Q:=Q) (Q':=Q') (d:=d) (l:=l) (S:=S) j T' h' hk hw
def qT (hw:_) (hk:_):=vT (cx:=cx) (n:=n) (m:=m) (Q:=Q) (Q':=Q') (c:=c) (p:=p) (l:=l) (S:=S) hk hw
def qX (j:Nat) (hw:_) (hk:_):=vX (cx:=cx) (n:=n) (m:=m) (Q:=Q) (Q':=Q') (c:=c) (p:=p) (l:=l) (S:=S) j hk hw
def qs (e:Nat) {x y:Bool} (he:x=y) (hw:_) (hk:_):=vs (cx:=cx) (n:=n) (m:=m) (Q:=Q) (Q':=Q') (d:=d) (l:=l) (S:=S) e he hk hw
def KW (S:RSt) (v:aa):List Nat->RSt
 | []=>S
 | e::es=>KW (IQ S e v) v es
theorem qm (es:List Nat) {x y:Bool} (he:x=y) (hw:bS cx l (KW S (.bool y) es) (fun T h=>cn (wpA cx n m d Q) Q' .normal T h)) (hk:(es.map fun e=>Tm.get S.1 e)=es.map fun _=>.bool x):bS cx l S (fun T h=>cn (wpA cx n m d Q) Q' .normal T h):=by
 subst he
 induction es generalizing S with
 | nil=>exact hw
 | cons e es ih =>
  simp only [List.map_cons,List.cons.injEq] at hk;refine vs e rfl hk.1 (ih ?_ hw);refine List.map_congr_left fun e' he'=>?_
  have h1:Tm.get S.1 e'=.bool x:=(List.map_inj_left.1 hk.2) e' he';show Tm.get ((e,.bool x)::S.1) e'=.bool x;simp only [Tm.get];split
  . rfl
  . exact h1
def qt {x:Bool} (he:x=true) (hw:_) (hk:_):=wT (cx:=cx) (n:=n) (m:=m) (Q:=Q) (T:=T) (h:=h) (c:=c) (p:=p) he hk hw
def qf {x:Bool} (he:x=false) (hw:_) (hk:_):=wF (cx:=cx) (n:=n) (m:=m) (Q:=Q) (T:=T) (h:=h) (c:=c) (p:=p) he hk hw
def qK (hw:_) (hk:_):=wK (cx:=cx) (n:=n) (m:=m) (Q:=Q) (Q':=Q') (T:=T) (h:=h) (c:=c) (d:=d) (p:=p) hk hw
def qZ (T':Tm) (h':ae) (hw:_) (hk:_):=wZ (cx:=cx) (n:=n) (m:=m) (Q:=Q) (T:=T) (h:=h) (d:=d) T' h' hk hw
def qz (T':Tm) (hw:_) (hk:_):=wZs (cx:=cx) (n:=n) (m:=m) (Q:=Q) (T:=T) (h:=h) (d:=d) T' hk hw
def qc (args:List aa) {f:FuncId} {args':List aa} {v:aa} (hq:af cx f args' v) (hw:_) (hk:_):=vc (cx:=cx) (l:=l) (S:=S) (K:=K) args hq hk hw
def qB (id:Nat) (hw:_) (hk:_) (hi:_):=LJ (cx:=cx) (n:=n) (m:=m) (Q:=Q) (T:=T) (h:=h) (c:=c) (p:=p) id hk hi hw
def qo (hw:_) (hk:_):=iJ (cx:=cx) (n:=n) (m:=m) (Q:=Q) (T:=T) (h:=h) (c:=c) (p:=p) hk (cY hw)
def qr (j:Nat) (hw:_) (hk:_):=fh (cx:=cx) (l:=l) (S:=S) (K:=K) j hk hw
def qe (hw:_) (hk:_):=ia (cx:=cx) (l:=l) (S:=S) (K:=K) hk hw
def qk (hw:_) (hk:_):=rX (cx:=cx) (n:=n) (m:=m) (Q:=Q) (T:=T) (h:=h) (c:=c) (p:=p) hk hw
def qy {v:aa} (ho:aop cx.P S.2 (aev cx.G S.1) (hdB l).op=some (v,S.2)) (hw:_) (hc:_) (hg:_):=Rk (cx:=cx) (l:=l) (S:=S) (K:=K) hc hg ho hw
def qY {v:aa} {o:Nat} {x:ax} (ho:aop cx.P S.2 (aev cx.G S.1) (hdB l).op=some (v,S.2.set o x)) (hw:_) (hc:_) (hg:_):=Nx (cx:=cx) (l:=l) (S:=S) (K:=K) hc hg ho hw
def qd {v:aa} (ho:aop cx.P s.2.2.1 (aev cx.G s.2.1) (hdB l).op=some (v,s.2.2.1)) (hw:_) (hc:_) (hg:_) (ha:_):=Rv (cx:=cx) (l:=l) (s:=s) (KD:=KD) hc hg ha ho hw
def qD {v:aa} {ob:Nat} {x:ax} (ho:aop cx.P s.2.2.1 (aev cx.G s.2.1) (hdB l).op=some (v,s.2.2.1.set ob x)) (hw:_) (hc:_) (hg:_) (ha:_):=O3 (cx:=cx) (l:=l) (s:=s) (KD:=KD) hc hg ha ho hw
def qu (j:Nat) (hw:_) (hk:_):=Q6 (cx:=cx) (l:=l) (s:=s) (KD:=KD) j hk hw
end
abbrev nI (k:Nat):aa:=.int .i64 (k:Nat)
end Go.Proofs.YtcpklndelobigaaGreatDoor.Abs
namespace Go.Proofs.YtcpklndelobigaaGreatDoor.Abs
mutual
def dOf {H:Type}:DataW H->aa
 | .lit (.bool b)=>.bool b
 | .lit (.int k n)=>.int k n
 | .lit (.string s)=>.str s
 | .nil=>.imm []
 | .slice elems _=>.imm (s8 elems)
 | .agg parts=>.agg (wI parts)
 | _=>.any
def s8 {H:Type}:List (DataW H)->List aa
 | []=>[]
 | d::r=>dOf d::s8 r
def wI {H:Type}:List (DataW H)->List aa
 | []=>[]
 | d::r=>(dOf d).cells++wI r
end
theorem nM {H:Type}:∀ l:List (DataW H),s8 l=l.map dOf
 | []=>rfl
 | d::r=>by rw [s8,nM r];rfl
theorem jt {α β:Type} {f:α->Option β}:∀ {l:List α} {r:List β},l.mapM f=some r->r.length=l.length/\∀ (i:Nat) x,l[i]?=some x->∃ y,r[i]?=some y/\f x=some y
 | [],r,h=>by simp at h;subst h;simp
 | x::l,r,h=>by
  simp only [List.mapM_cons,Option.bind_eq_bind,Option.bind_eq_some_iff,Option.pure_def,Option.some.injEq] at h;obtain ⟨y,hy,r',hr,rfl⟩:=h;obtain ⟨h1,h2⟩:=jt hr;refine ⟨by simp [h1],fun i z hz=>?_⟩;cases i with
  | zero=>simp at hz;subst hz;exact ⟨y,rfl,hy⟩
  | succ i=>simp at hz;simpa using h2 i z hz
section
variable {H:Type} {enc:TypeId×Value->H} {P:Program} {w:World} {sp:Nat->Bool} {held:Bool}
theorem mv {fuel:Nat} {t e:TypeId} {cs:List Value} {d:DataW H} {ps:List MemPlace} (ht:P.underlying t=some (.slice e)) (h:DataW.trod enc P w 0 sp held (fuel+1) t cs=some (d,ps)) :
 (cs=[.slice none 0 0]/\d=.nil)\/∃ a len cap elems spare,cs=[.slice (some a) len cap]/\d=.slice elems spare/\elems.length=len/\len<=cap /\
  ∀ (i:Nat) x,elems[i]?=some x->∃ cs' ps',w.cells? 0 (a.add (i * P.cellsOf e)) (P.cellsOf e)=some cs'/\DataW.trod enc P w 0 sp held fuel e cs'=some (x,ps'):=by
 unfold DataW.trod at h;rw [ht] at h;split at h <;> try (simp at h;done)
 all_goals (rename_i heq;cases heq)
 . simp at h;exact .inl ⟨rfl,h.1.symm⟩
 . rename_i a len cap;right;split at h
   . rename_i hc;simp only [Option.bind_eq_some_iff,Option.map_eq_some_iff] at h;obtain ⟨elems,he,rest,_,hd⟩:=h;simp only [Prod.mk.injEq] at hd;obtain ⟨h1,h2⟩:=jt he;refine ⟨a,len,cap,_,_,rfl,hd.1.symm,by simpa using h1,hc.2.1,fun i x hx=>?_⟩;simp only [List.getElem?_map,Option.map_eq_some_iff] at hx;obtain ⟨y,hy,rfl⟩:=hx
     have hi:i<len:=by
      have:=(List.getElem?_eq_some_iff.1 hy).1;simp at h1;omega
     obtain ⟨z,hz,hf⟩:=h2 i i (by simp [hi]);rw [hy] at hz;cases hz;simp only [Option.bind_eq_some_iff] at hf;obtain ⟨cs',q1,q2⟩:=hf;exact ⟨cs',_,q1,q2⟩
   . simp at h
theorem pg {fuel:Nat} {t:TypeId} {fs:Array Field} {cs:List Value} {d:DataW H} {ps:List MemPlace} (ht:P.underlying t=some (.struct fs)) (h:DataW.trod enc P w 0 sp held (fuel+1) t cs=some (d,ps)) :
 ∃ parts,d=.agg parts/\cs.length=P.cellsOf t/\parts.length=fs.toList.length/\∀ (i:Nat) f,fs.toList[i]?=some f->∃ x ps',parts[i]?=some x/\DataW.trod enc P w 0 sp held fuel f.type ((cs.drop f.offset).take (P.cellsOf f.type))=some (x,ps'):=by
 simp only [DataW.trod,ht] at h;split at h
 . rename_i hc;simp only [Option.map_eq_some_iff] at h;obtain ⟨xs,hx,hd⟩:=h;simp only [Prod.mk.injEq] at hd;obtain ⟨h1,h2⟩:=jt hx;refine ⟨_,hd.1.symm,hc,by simpa using h1,fun i f hf=>?_⟩;obtain ⟨y,hy,q⟩:=h2 i f hf;exact ⟨y.1,y.2,by simp [hy],q⟩
 . simp at h
theorem rP {fuel:Nat} {t e:TypeId} {n:Nat} {cs:List Value} {d:DataW H} {ps:List MemPlace} (ht:P.underlying t=some (.array n e)) (h:DataW.trod enc P w 0 sp held (fuel+1) t cs=some (d,ps)) :
 ∃ parts,d=.agg parts/\cs.length=P.cellsOf t/\parts.length=n/\∀ (i:Nat),i<n->∃ x ps',parts[i]?=some x/\DataW.trod enc P w 0 sp held fuel e ((cs.drop (i * P.cellsOf e)).take (P.cellsOf e))=some (x,ps'):=by
 simp only [DataW.trod,ht] at h;split at h
 . rename_i hc;simp only [Option.map_eq_some_iff] at h;obtain ⟨xs,hx,hd⟩:=h;simp only [Prod.mk.injEq] at hd;obtain ⟨h1,h2⟩:=jt hx;refine ⟨_,hd.1.symm,hc,by simpa using h1,fun i hi=>?_⟩;obtain ⟨y,hy,q⟩:=h2 i i (by simp [hi]);exact ⟨y.1,y.2,by simp [hy],q⟩
 . simp at h
theorem ou {fuel:Nat} {t:TypeId} {cs:List Value} {d:DataW H} {ps:List MemPlace} (ht:P.underlying t=some .bool) (h:DataW.trod enc P w 0 sp held (fuel+1) t cs=some (d,ps)):∃ b,cs=[.bool b]/\d=.lit (.bool b):=by
 unfold DataW.trod at h;rw [ht] at h;split at h <;> try (simp at h;done)
 all_goals (rename_i heq;cases heq)
 simp at h;exact ⟨_,rfl,h.1.symm⟩
theorem rh {fuel:Nat} {t:TypeId} {k:IntKind} {cs:List Value} {d:DataW H} {ps:List MemPlace} (ht:P.underlying t=some (.int k)) (h:DataW.trod enc P w 0 sp held (fuel+1) t cs=some (d,ps)):∃ n,cs=[.int k n]/\d=.lit (.int k n)/\(Lit.int k n).wf=true:=by
 unfold DataW.trod at h;rw [ht] at h;split at h <;> try (simp at h;done)
 all_goals (rename_i heq;cases heq)
 split at h
 . rename_i hc;simp at h;obtain ⟨rfl,hw⟩:=hc;exact ⟨_,rfl,h.1.symm,hw⟩
 . simp at h
theorem pp {fuel:Nat} {t:TypeId} {cs:List Value} {d:DataW H} {ps:List MemPlace} (ht:P.underlying t=some .string) (h:DataW.trod enc P w 0 sp held (fuel+1) t cs=some (d,ps)):∃ s:ByteArray,cs=[.string s]/\d=.lit (.string s.data.toList):=by
 unfold DataW.trod at h;rw [ht] at h;split at h <;> try (simp at h;done)
 all_goals (rename_i heq;cases heq)
 split at h
 . simp at h;exact ⟨_,rfl,h.1.symm⟩
 . simp at h
def Hm (P:Program) (l:List TypeId) (total:Nat):Nat->List Field->Bool
 | off,[]=>Nat.beq off total
 | off,f::r=>Nat.beq f.offset off && l.contains f.type && Hm P l total (off+P.cellsOf f.type) r
def z8 (P:Program) (l:List TypeId) (t:TypeId):Bool:=match P.underlying t with
 | some .bool=>Nat.beq (P.cellsOf t) 1
 | some (.int _)=>Nat.beq (P.cellsOf t) 1
 | some .string=>Nat.beq (P.cellsOf t) 1
 | some (.slice e)=>Nat.beq (P.cellsOf t) 1 && l.contains e && Nat.blt 0 (P.cellsOf e)
 | some (.struct fs)=>Hm P l (P.cellsOf t) 0 fs.toList
 | some (.array n e)=>l.contains e && Nat.beq (P.cellsOf t) (n * P.cellsOf e)
 | _=>false
def uY (P:Program) (l:List TypeId):Bool:=l.all (z8 P l)
def eH (ρ:Ren) (h:ae) (w:World) (xs:List aa) (cs:List Value):Prop:=xs.length=cs.length/\∀ (j:Nat) y v,xs[j]?=some y->cs[j]?=some v->VR ρ h w y v
theorem eH.append {ρ:Ren} {h:ae} {w:World} {xs ys:List aa} {cs ds:List Value} (h1:eH ρ h w xs cs) (h2:eH ρ h w ys ds):eH ρ h w (xs++ys) (cs++ds):=by
 refine ⟨by simp [h1.1,h2.1],fun j y v hy hv=>?_⟩;by_cases hj:j<xs.length
 . rw [List.getElem?_append_left hj] at hy;rw [List.getElem?_append_left (by rw [<- h1.1];exact hj)] at hv;exact h1.2 j y v hy hv
 . rw [List.getElem?_append_right oq] at hy;rw [List.getElem?_append_right (by rw [<- h1.1];omega),<- h1.1] at hv;exact h2.2 _ y v hy hv
theorem eH.one {ρ:Ren} {h:ae} {w:World} {x:aa} {v:Value} (hx:VR ρ h w x v):eH ρ h w [x] [v]:=by
 refine ⟨rfl,fun j y u hy hu=>?_⟩;cases j with
 | zero=>simp at hy hu;subst hy hu;exact hx
 | succ j=>simp at hy
theorem tO {a:Addr} {n:Nat} {cs:List Value} (h:w.cells? 0 a n=some cs):cs.length=n/\∀ j,j<n->∃ v,cs[j]?=some v/\w.cell? (a.add j)=some v:=by
 unfold World.cells? at h;simp only [Nat.zero_le,if_true] at h;obtain ⟨h1,h2⟩:=jt h;refine ⟨by simpa using h1,fun j hj=>?_⟩;exact h2 j j (by simp [hj])
theorem Ci {a:Addr} {v:Value} (h:w.cell? a=some v):a.spot=none/\a.block<w.heap.size:=by
 unfold World.cell? at h;split at h
 . rename_i c t f hb;split at h
   . simp at h
   . rename_i hs;exact ⟨by cases hq:a.spot <;> simp_all,(Array.getElem?_eq_some_iff.1 hb).1⟩
 . simp at h
theorem qM {ρ:Ren} {hp:ae} {l:List TypeId} {total:Nat} {cs:List Value} (hc:cs.length=total):∀ (fs:List Field) (off:Nat) (parts:List (DataW H)),Hm P l total off fs=true->off<=total->parts.length=fs.length ->
 (∀ (i:Nat) f,fs[i]?=some f->∃ x,parts[i]?=some x/\(l.contains f.type=true->eH ρ hp w (dOf x).cells ((cs.drop f.offset).take (P.cellsOf f.type))/\(dOf x).cells.length=P.cellsOf f.type)) ->
 eH ρ hp w (wI parts) (cs.drop off)
 | [],off,parts,h,ho,hl,_=>by
  have:parts=[]:=List.eq_nil_of_length_eq_zero (by simpa using hl);subst this;have e:off=total:=Nat.eq_of_beq_eq_true h;rw [List.drop_of_length_le oq];exact ⟨rfl,by simp [wI]⟩
 | f::fs,off,parts,h,ho,hl,hp'=>by
  simp only [Hm,Bool.and_eq_true] at h;obtain ⟨⟨h1,h2⟩,h3⟩:=h;obtain ⟨x,hx,hq⟩:=hp' 0 f rfl;obtain ⟨q1,q2⟩:=hq h2;cases parts with
  | nil=>simp at hl
  | cons p parts =>
   simp at hx;subst hx;have e:f.offset=off:=Nat.eq_of_beq_eq_true h1;rw [e] at q1
   have hle:off+P.cellsOf f.type<=total:=by
    have:=q1.1;rw [q2] at this;simp at this;omega
   have ih:=qM hc fs (off+P.cellsOf f.type) parts h3 hle (by simpa using hl) (fun i g hg=>by simpa using hp' (i+1) g (by simpa using hg));simp only [wI];have:=q1.append ih
   rwa [<- List.drop_drop,List.take_append_drop] at this
theorem pv {ρ:Ren} {hp:ae} {sz:Nat} {cs:List Value}:∀ (n i:Nat) (parts:List (DataW H)),parts.length=n->cs.length=(i+n) * sz ->
 (∀ (j:Nat),j<n->∃ x,parts[j]?=some x/\eH ρ hp w (dOf x).cells ((cs.drop ((i+j) * sz)).take sz))->eH ρ hp w (wI parts) (cs.drop (i * sz))
 | 0,i,parts,hl,hc,_=>by
  have:parts=[]:=List.eq_nil_of_length_eq_zero hl;subst this;rw [List.drop_of_length_le (by rw [hc,Nat.add_zero];exact Nat.le_refl _)];exact ⟨rfl,by simp [wI]⟩
 | n+1,i,parts,hl,hc,hq=>by
  cases parts with
  | nil=>simp at hl
  | cons p parts =>
   obtain ⟨x,hx,q⟩:=hq 0 oq;simp at hx;subst hx
   have ih:=pv (ρ:=ρ) (hp:=hp) n (i+1) parts (by simpa using hl) (by rw [hc];congr 1;omega) (fun j hj=>by
    obtain ⟨y,hy,q'⟩:=hq (j+1) oq;exact ⟨y,by simpa using hy,by rw [show i+1+j=i+(j+1) by omega];exact q'⟩)
   have:=q.append ih;rw [Nat.add_zero,Nat.add_mul,Nat.one_mul,<- List.drop_drop,List.take_append_drop] at this;simpa [wI] using this
theorem hZ {ρ:Ren} {hp:ae} (hI:∀ b j,b<w.heap.size->ρ.I b j) {l:List TypeId} (hl:uY P l=true):∀ (fuel:Nat) (t:TypeId) (cs:List Value) (d:DataW H) (ps:List MemPlace),l.contains t=true->DataW.trod enc P w 0 sp held fuel t cs=some (d,ps) ->
 eH ρ hp w (dOf d).cells cs/\(dOf d).cells.length=P.cellsOf t
 | 0,t,cs,d,ps,_,h=>by simp [DataW.trod] at h
 | fuel+1,t,cs,d,ps,hm,h=>by
  have hpl:=List.all_eq_true.1 hl t (by simpa using hm);unfold z8 at hpl;split at hpl <;> try (simp at hpl;done)
  . rename_i ht;obtain ⟨b,rfl,rfl⟩:=ou ht h;rw [Nat.eq_of_beq_eq_true hpl];exact ⟨.one (.bool b),rfl⟩
  . rename_i k ht;obtain ⟨n,rfl,rfl,_⟩:=rh ht h;rw [Nat.eq_of_beq_eq_true hpl];exact ⟨.one (.int k n),rfl⟩
  . rename_i ht;obtain ⟨s,rfl,rfl⟩:=pp ht h;rw [Nat.eq_of_beq_eq_true hpl];exact ⟨.one (VR.str (ρ:=ρ) (h:=hp) (w:=w) s.data.toList),rfl⟩
  . rename_i e ht;simp only [Bool.and_eq_true,Nat.blt_eq] at hpl;obtain ⟨⟨h1,h2⟩,h3⟩:=hpl;rw [Nat.eq_of_beq_eq_true h1];rcases mv ht h with ⟨rfl,rfl⟩|⟨a,len,cap,elems,spare,rfl,rfl,hlen,hcap,hel⟩
    . exact ⟨.one (.imm [] none 0 0 0 0 (fun _ _=>undef) (Nat.le_refl _) zq zq zq zq),rfl⟩
    . refine ⟨.one ?_,rfl⟩
      have ih:∀ (i:Nat) x,elems[i]?=some x->∃ cs',w.cells? 0 (a.add (i * P.cellsOf e)) (P.cellsOf e)=some cs'/\eH ρ hp w (dOf x).cells cs'/\(dOf x).cells.length=P.cellsOf e:=fun i x hx=>by
       obtain ⟨cs',ps',q1,q2⟩:=hel i x hx;exact ⟨cs',q1,hZ hI hl fuel e cs' x ps' h2 q2⟩
      simp only [dOf];have hll:(s8 elems).length=elems.length:=by rw [nM];simp
      have spot0:0<elems.length->a.spot=none/\a.block<w.heap.size:=fun hpos=>by
       obtain ⟨cs',q1,q2,q3⟩:=ih 0 elems[0] (List.getElem?_eq_getElem hpos);obtain ⟨g1,g2⟩:=tO q1;obtain ⟨v,_,hcell⟩:=g2 0 h3;have:=Ci hcell;simpa [Addr.add] using this
      have key:∀ (i:Nat) x (j:Nat) y,(s8 elems)[i]?=some x->x.cells[j]?=some y->a.spot=none/\a.block<w.heap.size/\∃ v,w.cell? ⟨a.block,a.off+i * P.cellsOf e+j,none⟩=some v/\VR ρ hp w y v:=by
       intro i x j y hx hy;rw [nM] at hx;simp only [List.getElem?_map,Option.map_eq_some_iff] at hx;obtain ⟨z,hz,rfl⟩:=hx;obtain ⟨cs',q1,q2,q3⟩:=ih i z hz;have hj:j<P.cellsOf e:=by rw [<- q3];exact (List.getElem?_eq_some_iff.1 hy).1
       obtain ⟨g1,g2⟩:=tO q1;obtain ⟨v,hv,hcell⟩:=g2 j hj;obtain ⟨hs,hb⟩:=spot0 (by have:=(List.getElem?_eq_some_iff.1 hz).1;omega);refine ⟨hs,hb,v,?_,q2.2 j y v hy hv⟩
       have e':(a.add (i * P.cellsOf e)).add j=⟨a.block,a.off+i * P.cellsOf e+j,none⟩:=by
        rw [show a=⟨a.block,a.off,none⟩ by cases a;simp_all,fL,fL]
       rw [<- e'];exact hcell
      rw [show (Value.slice (some a) len cap)=Value.slice (some a) (s8 elems).length cap by rw [hll,hlen]];refine .imm (s8 elems) (some a) cap (P.cellsOf e) a.block a.off (fun i j=>(w.cell? ⟨a.block,a.off+i * P.cellsOf e+j,none⟩).getD undef) (by rw [hll,hlen];exact hcap) ?_ ?_ ?_ ?_
      . intro hpos;obtain ⟨hs,_⟩:=spot0 (by rw [<- hll];exact hpos);rw [show a=⟨a.block,a.off,none⟩ by cases a;simp_all]
      . intro i x hx;rw [nM] at hx;simp only [List.getElem?_map,Option.map_eq_some_iff] at hx;obtain ⟨z,hz,rfl⟩:=hx;obtain ⟨_,_,_,q3⟩:=ih i z hz;exact q3
      . intro i x j y hx hy;obtain ⟨_,hb,v,hv,_⟩:=key i x j y hx hy;exact ⟨hI _ _ hb,by rw [hv];rfl⟩
      . intro i x j y hx hy;obtain ⟨_,hb,v,hv,hvr⟩:=key i x j y hx hy;simp only [hv,Option.getD_some];exact hvr
  . rename_i fs ht;obtain ⟨parts,rfl,hc,hpl',hel⟩:=pg ht h
    have:=qM (P:=P) (w:=w) (ρ:=ρ) (hp:=hp) (l:=l) (total:=P.cellsOf t) hc fs.toList 0 parts hpl (Nat.zero_le _) hpl' (fun i f hf=>by
     obtain ⟨x,ps',q1,q2⟩:=hel i f hf;exact ⟨x,q1,fun hin=>hZ hI hl fuel f.type _ x ps' hin q2⟩)
    simp only [List.drop_zero] at this;refine ⟨by simpa [dOf,aa.cells] using this,?_⟩;rw [<- hc];simpa [dOf,aa.cells] using this.1
  . rename_i n e ht;simp only [Bool.and_eq_true] at hpl;obtain ⟨parts,rfl,hc,hpl',hel⟩:=rP ht h
    have:=pv (w:=w) (ρ:=ρ) (hp:=hp) (sz:=P.cellsOf e) (cs:=cs) n 0 parts hpl' (by rw [hc,Nat.zero_add];exact Nat.eq_of_beq_eq_true hpl.2) (fun j hj=>by
     obtain ⟨x,ps',q1,q2⟩:=hel j hj;exact ⟨x,q1,by rw [Nat.zero_add];exact (hZ hI hl fuel e _ x ps' hpl.1 q2).1⟩)
    simp only [Nat.zero_mul,List.drop_zero] at this;refine ⟨by simpa [dOf,aa.cells] using this,?_⟩;rw [<- hc];simpa [dOf,aa.cells] using this.1
end
end Go.Proofs.YtcpklndelobigaaGreatDoor.Abs
namespace Go.Proofs.YtcpklndelobigaaGreatDoor.Abs
open Go.RowKit Go.ChangeShapes
def oa (W:World):Ren:=⟨fun _=>⟨0,0,0⟩,fun b _=>b<W.heap.size⟩
theorem Ju (W:World):WF (oa W) [] W:=⟨by simp,by simp,by simp,fun _ _ h=>h,by simp⟩
theorem Ak {cx:Cx} {f:FuncId} {args:List aa} (hc:af cx f args (.bool true)) {W:World} {cargs:Array Value} (hv:VRs (oa W) [] W args cargs) (hg:wk cx (oa W) W) :
 Calls cx.P f cargs W fun e W'=>e=.returned (.bool true)/\Below W.heap.size W W':=by
 refine (hc.2 (oa W) W cargs (Ju W) hg hv).mono ?_;rintro e W' ⟨ρ',cv,v,h',rfl,⟨rfl,rfl⟩,r1,r2,r3,r4⟩;refine ⟨by cases r1;rfl,r4.os,r4.tape,r4.output,r4.size,fun k hk=>r4.keep k hk ?_⟩;rintro ⟨o,x,hx,_⟩;simp at hx
section
variable {H:Type} {enc:TypeId×Value->H} {P:Program}
theorem l6 (hl:laidOutB P=true) {W W':World} (hb:Below W.heap.size W W'):∀ (ts:List TypeId) (vs:List Value) (ds:List (DataW H)) (ps:List MemPlace),(∀ t∈ts,P.readableRec t=true/\t<P.types.size)->(∀ p∈ps,p.block<W.heap.size) ->
 DataW.TrodAll enc P W 0 (fun _=>true) true ts vs ds ps->DataW.TrodAll enc P W' 0 (fun b=>decide (b<W.heap.size)) true ts vs ds ps
 | [],[],[],ps,_,_,h=>h
 | t::ts,v::vs,d::ds,ps,ht,hp,h=>by
  obtain ⟨p,q,h1,h2,rfl⟩:=h;exact ⟨p,q,Below.trod hl (ht t zq).1 (ht t zq).2 h1 hb (fun x hx=>hp x (by simp [hx])),l6 hl hb ts vs ds q (fun t' ht'=>ht t' (by simp [ht'])) (fun x hx=>hp x (by simp [hx])) h2,rfl⟩
 | [],_::_,_,_,_,_,h=>by simp [DataW.TrodAll] at h
 | [],[],_::_,_,_,_,h=>by simp [DataW.TrodAll] at h
 | _::_,[],_,_,_,_,h=>by simp [DataW.TrodAll] at h
 | _::_,_::_,[],_,_,_,h=>by simp [DataW.TrodAll] at h
theorem CO {f:Func} {s:ChangeSpec} {t4:TypeId} {W W':World} {args:Array Value} {ds gs:List (DataW H)} {before:List MemPlace} (hl:laidOutB P=true) (hs:s.vars=[]) (hr:f.resultTypes=#[t4]) (h4:P.underlying t4=some .bool)
 (ht:∀ t∈f.params.toList,P.readableRec t=true/\t<P.types.size) (hW:DataW.Whole enc P f.params.toList s.vars false W args.toList ds gs before) (hfn:s.fn H (ds++gs)={ results:=[.lit (.bool true)],args:=ds }) (hb:Below W.heap.size W W') :
 s.post enc P f false true false false W args (.bool true) W':=by
 have hW':=hW;obtain ⟨p,q,hA,hV,rfl,hfz,hnd⟩:=hW;refine ⟨ds,gs,p++q,[],p,[],hW',?_,?_,?_,hb.frame _,fun h=>by cases h⟩
 . rw [hfn,hr];exact trodAll_cons_mk (shut_bool h4 _) trodAll_mk0
 . rw [hfn];exact l6 hl hb _ _ _ _ ht (fun x hx=>hW'.lt x (by simp [hx])) hA
 . rw [hfn,hs];exact rfl
theorem nH {w:World} {n:String} {d:DataW Unit}:∀ {l:List (String×DataW Unit)} {ps:List MemPlace},DataW.LaidVars P w l ps->(n,d)∈l ->
 ∃ g t cs fuel p,P.globalNamed n=some g/\(P.globals[g]?).map (·.type)=some t/\w.var? P n=some cs/\DataW.trod (fun _=>()) P w 0 (fun _=>true) false fuel t cs.toList=some (d,p)
 | [],ps,_,h=>by simp at h
 | (n',d')::l,ps,h,hm=>by
  obtain ⟨g,t,cs,fuel,p,q,h1,h2,h3,h4,h5,_⟩:=h;simp only [List.mem_cons,Prod.mk.injEq] at hm;rcases hm with ⟨rfl,rfl⟩|hm
  . exact ⟨g,t,cs,fuel,p,h1,h2,h3,h4⟩
  . exact nH h5 hm
theorem uo {w:World} {laid:List (String×DataW Unit)} (hh:laid.filter (fun x=>x.2.handleName?.isSome)=[]) (hL:laidMetH P laid w) {n:String} {d:DataW Unit} (hm:(n,d)∈laid) {g:Nat} {t:TypeId} (hg:P.globalNamed n=some g)
 (ht:(P.globals[g]?).map (·.type)=some t) {l:List TypeId} (hl:uY P l=true) (htl:l.contains t=true):VR (oa w) [] w (.pimm (dOf d).cells 0) (.pointer (some ⟨g,0,none⟩)):=by
 unfold laidMetH at hL;rw [hh] at hL;obtain ⟨ps,hv,_⟩:=hL;obtain ⟨g',t',cs,fuel,p,h1,h2,h3,h4⟩:=nH hv hm;obtain rfl:=Option.some.inj (hg.symm.trans h1);obtain rfl:=Option.some.inj (ht.symm.trans h2);obtain ⟨hc,_⟩:=hZ (w:=w) (ρ:=oa w) (hp:=[]) (fun b _ hb=>hb) hl fuel t cs.toList d p htl h4
 have hblk:∃ t f,w.heap[g]?=some (.cells cs t f):=by
  unfold World.var? at h3;rw [hg] at h3;simp only [Option.bind_some] at h3;split at h3
  . rename_i c t f hq;simp only [Option.some.injEq] at h3;subst h3;exact ⟨t,f,hq⟩
  . simp at h3
 obtain ⟨ty,fr,hb⟩:=hblk
 have hcell:∀ (j:Nat) y,(dOf d).cells[j]?=some y->∃ v,cs[j]?=some v/\VR (oa w) [] w y v:=fun j y hy=>by
  have hj:j<cs.size:=by
   have:=(List.getElem?_eq_some_iff.1 hy).1;rw [hc.1] at this;simpa using this
  exact ⟨cs[j],Array.getElem?_eq_getElem hj,hc.2 j y cs[j] hy (by simp [hj])⟩
 refine .pimm _ 0 g 0 (fun j=>(cs[j]?).getD undef) (fun j y hy=>⟨(Array.getElem?_eq_some_iff.1 hb).1,?_⟩) (fun j y hy=>?_)
 . obtain ⟨v,hv,_⟩:=hcell j y hy;simp [World.cell?,hb,hv]
 . obtain ⟨v,hv,hvr⟩:=hcell j y hy;simp only [hv,Option.getD_some];exact hvr
theorem yI {w:World} {l:List TypeId} (hl:uY P l=true) {t:TypeId} (htl:l.contains t=true) {v:Value} {d:DataW H} {ps:List MemPlace} {base:Nat} (hok:Value.okWide P w .any base t v) (h:DataW.Trod enc P w 0 (fun _=>true) true t v d ps):VR (oa w) [] w (dOf d) v:=by
 obtain ⟨fuel,h⟩:=h;have hc:=(hZ (w:=w) (ρ:=oa w) (hp:=[]) (fun b _ hb=>hb) hl fuel t _ d ps htl h).1;cases fuel with
 | zero=>simp [DataW.trod] at h
 | succ fuel =>
  have hpl:=List.all_eq_true.1 hl t (by simpa using htl)
  have single:∀ x:aa,x.cells=[x]->dOf d=x->(∀ cs,v≠.agg cs)->VR (oa w) [] w (dOf d) v:=by
   intro x hx hd hv;have hvc:v.cells=#[v]:=by cases v <;> first|rfl|exact absurd rfl (hv _)
   rw [hd] at hc ⊢;rw [hx,hvc] at hc;exact hc.2 0 x v rfl rfl
  have aggc:∀ xs:List aa,dOf d=.agg xs->(∃ cs,v=.agg cs)->VR (oa w) [] w (dOf d) v:=by
   rintro xs hd ⟨cs,rfl⟩;rw [hd] at hc ⊢;refine .agg xs cs ?_ fun i x u hx hu=>hc.2 i x u hx ?_
   . have:=hc.1;simp [aa.cells,Value.cells] at this;omega
   . simpa [Value.cells] using hu
  unfold z8 at hpl;split at hpl <;> try (simp at hpl;done)
  . rename_i ht;obtain ⟨b,hcs,rfl⟩:=ou ht h;exact single _ rfl rfl (by rintro cs rfl;simp [Value.okWide,ht,Cell.okWide,Cell.ok] at hok)
  . rename_i k ht;obtain ⟨n,hcs,rfl,_⟩:=rh ht h;exact single _ rfl rfl (by rintro cs rfl;simp [Value.okWide,ht,Cell.okWide,Cell.ok] at hok)
  . rename_i ht;obtain ⟨s,hcs,rfl⟩:=pp ht h;exact single _ rfl rfl (by rintro cs rfl;simp [Value.okWide,ht,Cell.okWide,Cell.ok] at hok)
  . rename_i e ht;have hna:∀ cs,v≠.agg cs:=by rintro cs rfl;simp [Value.okWide,ht,Cell.okWide,Cell.ok] at hok
    rcases mv ht h with ⟨_,rfl⟩|⟨a,len,cap,elems,spare,_,rfl,_⟩
    . exact single _ rfl rfl hna
    . exact single _ rfl rfl hna
  . rename_i fs ht;obtain ⟨parts,rfl,_⟩:=pg ht h;simp only [Value.okWide,ht] at hok;obtain ⟨cs,rfl,_⟩:=hok;exact aggc _ rfl ⟨cs,rfl⟩
  . rename_i n e ht;obtain ⟨parts,rfl,_⟩:=rP ht h;simp only [Value.okWide,ht] at hok;obtain ⟨cs,rfl,_⟩:=hok;exact aggc _ rfl ⟨cs,rfl⟩
end
end Go.Proofs.YtcpklndelobigaaGreatDoor.Abs
