/- A part of the proof: plain lemmas, rules and walks. No condition. -/
import Derived.Test.YtdikgijfekfaoaaGreatDoorP2
import GoSem.ClaimJoined
import Derived.ProofKit
import Derived.OpenShut
import Derived.Carry
import Derived.ChangeOld
import Derived.Test.YtdikgijfekfaoaaGreatDoorProg
import Derived.Shelf.SlGeneric
import Derived.Shelf.SlIter.Nil
import Derived.Shelf.SortM.Plain
import Derived.Shelf.SortM.SortNone
import Derived.Shelf.SlMaps.Clone
import Derived.Shelf.Strings.IndexAnyAll
import Derived.Ground.GgzProg
import Derived.Ground.SlgmProg
import Derived.Ground.SlmcProg
import Derived.Ground.NamesProg
import Derived.Laws.RangeAny
import Derived.Shelf.Strings.Runes
import Derived.Shelf.Small.Utf8
import Derived.Laws.RangeString
import Derived.Laws.Runes
import Derived.Laws.Strings3
import Derived.Deep.LoopGhost
import Derived.WalkMore
import Derived.Shelf.RegionOpenPlain
import Derived.Shelf.Strings.IndexAny
set_option linter.all false
namespace Go.Proofs.YtdikgijfekfaoaaGreatDoor.Abs
theorem mb {a b:Nat} (h:a≠b):Nat.beq a b=false:=by
 cases hb:Nat.beq a b
 · rfl
 · exact absurd (Nat.eq_of_beq_eq_true hb) h
theorem DE {a b:Nat} (h:a=b):Nat.beq a b=true:=by subst h;exact Nat.beq_refl a
inductive Tt where
 | e
 | n (v:aa) (l r:Tt)
def Tt.get:Tt→Nat→aa
 | .e,_=>.any
 | .n v l r,k=>bif Nat.beq k 0 then v else bif Nat.beq (k % 2) 1 then l.get (k / 2) else r.get (k / 2 - 1)
def Tt.setF:Nat→Tt→Nat→aa→Tt
 | 0,t,_,_=>t
 | f+1,.e,k,x=>bif Nat.beq k 0 then .n x .e .e else bif Nat.beq (k % 2) 1 then .n .any (Tt.setF f .e (k / 2) x) .e else .n .any .e (Tt.setF f .e (k / 2 - 1) x)
 | f+1,.n v l r,k,x=>bif Nat.beq k 0 then .n x l r else bif Nat.beq (k % 2) 1 then .n v (Tt.setF f l (k / 2) x) r else .n v l (Tt.setF f r (k / 2 - 1) x)
theorem Tt.get_e (k:Nat):Tt.e.get k=.any:=by simp [Tt.get]
theorem Tt.get_set:∀ (f:Nat) (t:Tt) (k:Nat) (x:aa) (j:Nat),k+1<2 ^ f→(Tt.setF f t k x).get j=if j=k then x else t.get j
 | 0,t,k,x,j,h=>by simp at h
 | f+1,t,k,x,j,h=>by
  have h2:2 ^ (f+1)=2 * 2 ^ f:=by rw [Nat.pow_succ];omega
  by_cases k0:k=0
  · subst k0
    cases t <;> by_cases j0:j=0 <;> simp [Tt.setF,Tt.get,j0,mb]
  · have kb:Nat.beq k 0=false:=mb k0
    by_cases k1:k % 2=1
    · have kb1:Nat.beq (k % 2) 1=true:=DE k1
      cases t with
      | e =>
       simp only [Tt.setF,kb,kb1,cond_true,cond_false]
       by_cases j0:j=0
       · subst j0;simp [Tt.get,Ne.symm k0]
       · have jb:Nat.beq j 0=false:=mb j0
         simp only [Tt.get,jb,cond_false]
         by_cases j1:j % 2=1
         · have jb1:Nat.beq (j % 2) 1=true:=DE j1
           simp only [jb1,cond_true]
           rw [Tt.get_set f _ _ _ _ oq]
           by_cases e:j=k
           · subst e;simp
           · rw [if_neg oq,if_neg e];simp [Tt.get]
         · have jb1:Nat.beq (j % 2) 1=false:=mb j1
           have:j≠k:=by intro e;subst e;exact j1 k1
           simp [jb1,this]
      | n v l r =>
       simp only [Tt.setF,kb,kb1,cond_true,cond_false]
       by_cases j0:j=0
       · subst j0;simp [Tt.get,Ne.symm k0]
       · have jb:Nat.beq j 0=false:=mb j0
         simp only [Tt.get,jb,cond_false]
         by_cases j1:j % 2=1
         · have jb1:Nat.beq (j % 2) 1=true:=DE j1
           simp only [jb1,cond_true]
           rw [Tt.get_set f _ _ _ _ oq]
           by_cases e:j=k
           · subst e;simp
           · rw [if_neg oq,if_neg e]
         · have jb1:Nat.beq (j % 2) 1=false:=mb j1
           have:j≠k:=by intro e;subst e;exact j1 k1
           simp [jb1,this]
    · have kb1:Nat.beq (k % 2) 1=false:=mb k1
      cases t with
      | e =>
       simp only [Tt.setF,kb,kb1,cond_false]
       by_cases j0:j=0
       · subst j0;simp [Tt.get,Ne.symm k0]
       · have jb:Nat.beq j 0=false:=mb j0
         simp only [Tt.get,jb,cond_false]
         by_cases j1:j % 2=1
         · have jb1:Nat.beq (j % 2) 1=true:=DE j1
           have:j≠k:=by intro e;subst e;exact k1 j1
           simp [jb1,this]
         · have jb1:Nat.beq (j % 2) 1=false:=mb j1
           simp only [jb1,cond_false]
           rw [Tt.get_set f _ _ _ _ oq]
           by_cases e:j=k
           · subst e;simp
           · rw [if_neg oq,if_neg e];simp [Tt.get]
      | n v l r =>
       simp only [Tt.setF,kb,kb1,cond_false]
       by_cases j0:j=0
       · subst j0;simp [Tt.get,Ne.symm k0]
       · have jb:Nat.beq j 0=false:=mb j0
         simp only [Tt.get,jb,cond_false]
         by_cases j1:j % 2=1
         · have jb1:Nat.beq (j % 2) 1=true:=DE j1
           have:j≠k:=by intro e;subst e;exact k1 j1
           simp [jb1,this]
         · have jb1:Nat.beq (j % 2) 1=false:=mb j1
           simp only [jb1,cond_false]
           rw [Tt.get_set f _ _ _ _ oq]
           by_cases e:j=k
           · subst e;simp
           · rw [if_neg oq,if_neg e]
def eR (T:Tm) (tt:Tt):Prop:=∀ t,Tm.get T t=tt.get t
def r9 (tt:Tt) (d:Option Tmp) (v:aa):Tt:=match d with
 | some d=>tt.setF 12 d v
 | none=>tt
theorem eR.put {T:Tm} {tt:Tt} (hs:eR T tt) {n:Nat} (hn:n≤4095) {d:Option Tmp} (hd:gf n d=true) (v:aa):eR (b4 T d v) (r9 tt d v):=by
 cases d with
 | none=>exact hs
 | some d =>
  have:d<n:=by simpa [gf] using hd
  have hlt:d+1<2 ^ 12:=Nat.succ_lt_succ (Nat.lt_of_lt_of_le this hn)
  intro t
  simp only [b4,r9,Tm.get]
  rw [Tt.get_set 12 tt d v t hlt]
  by_cases e:d=t
  · subst e;simp
  · rw [if_neg e,if_neg (fun h=>e h.symm)];exact hs t
def tev (G:Nat→Option (List aa)) (tt:Tt):Operand→aa
 | .tmp t=>tt.get t
 | .const v=>match eB v with
  | some x=>x
  | none=>.any
 | .global g=>match G g with
  | some cs=>.pimm cs 0
  | none=>.any
 | .func f=>.fn (.func f) [] []
theorem yy {G:Nat→Option (List aa)} {T:Tm} {tt:Tt} (hs:eR T tt):tev G tt=aev G T:=by
 funext x
 cases x
 · exact (hs _).symm
 all_goals first|rfl|(simp only [tev,aev];split <;> simp_all)
def vd (ops:Array Oper) (tt:Tt):Option (Nat×Bool)→Option Bool
 | none=>some true
 | some (j,want)=>match (ops[j]?).bind (·.dst) with
  | some d=>match tt.get d with
   | .bool b=>some (b==want)
   | .tup _=>some false
   | _=>none
  | none=>none
theorem tw {ops:Array Oper} {T:Tm} {tt:Tt} (hs:eR T tt) (g:Option (Nat×Bool)):vd ops tt g=cC ops T g:=by
 unfold vd cC
 cases g with
 | none=>rfl
 | some p =>
  obtain ⟨j,want⟩:=p
  dsimp only
  cases (ops[j]?).bind (·.dst) with
  | none=>rfl
  | some d=>dsimp only;rw [hs d];cases tt.get d <;> rfl
abbrev ma:=FuncId→List aa→ac→Option (List Nat×aa×ac)
def xv (P:Program) (G:Nat→Option (List aa)) (call:ma) (n:Nat) (ops:Array Oper):List Oper→Tt→ac→Option (Tt×ac)
 | [],T,h=>some (T,h)
 | o::os,T,h=>bif gf n o.dst then
  match vd ops T o.guard with
  | some true=>match aop P h (tev G T) o.op with
   | some r=>xv P G call n ops os (r9 T o.dst r.1) r.2
   | none=>match aG (tev G T) o.op with
    | some c=>match call c.1 c.2 h with
     | some r=>xv P G call n ops os (r9 T o.dst r.2.1) r.2.2
     | none=>none
    | none=>match anx P h (tev G T) o.op with
     | some [r]=>xv P G call n ops os (r9 T o.dst r.1) r.2
     | _=>none
  | some false=>xv P G call n ops os (r9 T o.dst (.tup [])) h
  | none=>none
  else none
def oj (P:Program) (G:Nat→Option (List aa)) (call:ma) (n:Nat) (ops:Array Oper):List Oper→Nat→Tt→ac→List (List Nat×List Nat)→Option (List (List Nat×List Nat)×Tt×ac)
 | [],_,T,h,rs=>some (rs,T,h)
 | o::os,k,T,h,rs=>bif gf n o.dst then
  match vd ops T o.guard with
  | some true=>bif ey o.op then
   (match apl P (tev G T) o.op with
   | some cs=>bif jR h k then oj P G call n ops os (k+1) (r9 T o.dst (.ptr k 0)) (h.set k (.box cs)) (rs++[([k],[k])]) else none
   | none=>none)
   else match aop P h (tev G T) o.op with
   | some r=>oj P G call n ops os k (r9 T o.dst r.1) r.2 (rs++[(ard (tev G T) o.op,awr h (tev G T) o.op)])
   | none=>match aG (tev G T) o.op with
    | some c=>match call c.1 c.2 h with
     | some r=>oj P G call n ops os k (r9 T o.dst r.2.1) r.2.2 (rs++[(r.1,r.1)])
     | none=>none
    | none=>none
  | some false=>oj P G call n ops os (bif ey o.op then k+1 else k) (r9 T o.dst (.tup [])) h (rs++[([],[])])
  | none=>none
  else none
def uw (ops:Array Oper) (ms:List Nat) (i:Nat) (o:Oper):List (Nat×Oper)→Bool
 | []=>true
 | s::ss=>((ms.getD i 0).testBit s.1 || s.2.apart ops o) && uw ops ms i o ss
def sOk (ops:Array Oper) (ms:List Nat):Nat→List (Nat×Oper)→List Oper→Bool
 | _,_,[]=>true
 | i,pre,o::os=>uw ops ms i o pre && sOk ops ms (i+1) ((i,o)::pre) os
def w7 (ops:Array Oper):Bool:=fN 0 ops.toList && sOk ops (wi ops.toList []) 0 [] ops.toList
def wS:List (List Nat×List Nat)→Bool
 | []=>true
 | r::rs=>r.2.isEmpty && wS rs
theorem kX {ops:Array Oper} {ms:List Nat} {t:Tr} (ht:t.wr=[]):∀ {pre:List Tr},(∀ s∈pre,s.wr=[])→uw ops ms t.i t.o (pre.map fun s=>(s.i,s.o))=true→mR ops ms t pre=true
 | [],_,_=>rfl
 | s::ss,hw,h=>by
  simp only [List.map_cons,uw,Bool.and_eq_true,Bool.or_eq_true] at h
  simp only [mR,Bool.and_eq_true,Bool.or_eq_true]
  refine ⟨?_,kX ht (fun x hx=>hw x (by simp [hx])) h.2⟩
  rcases h.1 with g|g
  · exact .inl g
  · refine .inr ?_
    have:=hw s zq
    simp [jk,g,G0,ht,this,EE]
theorem qi {ops:Array Oper} {ms:List Nat}:∀ (os:List Oper) (i:Nat) (rs:List (List Nat×List Nat)) (pre:List Tr),(∀ s∈pre,s.wr=[])→wS rs=true →
 sOk ops ms i (pre.map fun s=>(s.i,s.o)) os=true→kf ops ms pre (eQ i os rs)=true
 | [],i,rs,pre,_,_,_=>by cases rs <;> simp [eQ,kf]
 | o::os,i,[],pre,_,_,_=>by simp [eQ,kf]
 | o::os,i,r::rs,pre,hw,hq,hs=>by
  simp only [sOk,Bool.and_eq_true] at hs
  simp only [wS,Bool.and_eq_true,List.isEmpty_iff] at hq
  simp only [eQ,kf,Bool.and_eq_true]
  refine ⟨kX hq.1 hw hs.1,?_⟩
  refine qi os (i+1) rs _ ?_ hq.2 ?_
  · intro s hs'
    simp only [List.mem_cons] at hs'
    rcases hs' with rfl|hs'
    · exact hq.1
    · exact hw s hs'
  · simpa using hs.2
def oO (ops:Array Oper) (rs:List (List Nat×List Nat)):Bool:=bif wS rs then w7 ops else (fN 0 ops.toList && mE ops rs)
theorem uz {ops:Array Oper} {rs:List (List Nat×List Nat)} (h:oO ops rs=true):fN 0 ops.toList=true∧mE ops rs=true:=by
 unfold oO at h
 cases hq:wS rs with
 | true =>
  rw [hq] at h
  simp only [cond_true,w7,Bool.and_eq_true] at h
  exact ⟨h.1,qi _ 0 rs [] zq hq (by simpa using h.2)⟩
 | false =>
  rw [hq] at h
  simp only [cond_false,Bool.and_eq_true] at h
  exact h
def vG (body:Tt→ac→Option (Exit×Tt×ac)):Nat→Tt→ac→Option (Exit×Tt×ac)
 | 0,_,_=>none
 | k+1,T,h=>match body T h with
  | some (.normal,T',h')=>vG body k T' h'
  | r=>r
def dJ (P:Program) (G:Nat→Option (List aa)) (call:ma) (n lf:Nat):Code→Tt→ac→Option (Exit×Tt×ac)
 | .skip,T,h=>some (.normal,T,h)
 | .ret,T,h=>some (.ret,T,h)
 | .exit id,T,h=>some (.exit id,T,h)
 | .seq a b,T,h=>match dJ P G call n lf a T h with
  | some (.normal,T',h')=>dJ P G call n lf b T' h'
  | r=>r
 | .cond c a b,T,h=>match tev G T c with
  | .bool true=>dJ P G call n lf a T h
  | .bool false=>dJ P G call n lf b T h
  | _=>none
 | .block id c,T,h=>match dJ P G call n lf c T h with
  | some (.exit id',T',h')=>bif Nat.beq id' id then some (.normal,T',h') else some (.exit id',T',h')
  | r=>r
 | .loop c,T,h=>vG (dJ P G call n lf c) lf T h
 | .region _ ops false,T,h=>match xv P G call n ops ops.toList T h with
  | some (T',h')=>some (.normal,T',h')
  | none=>none
 | .region _ ops true,T,h=>match oj P G call n ops ops.toList h.length T (h++gv (nAl ops.toList)) [] with
  | some (rs,T',h')=>bif oO ops rs then some (.normal,T',h') else none
  | none=>none
 | _,_,_=>none
section
variable {cx:Cx} {call:ma} {n m lf:Nat}
theorem gu (hcall:∀ f args h r,call f args h=some r→jf cx f args h r.1 r.2.1 r.2.2) (hn:n≤4095) {ops:Array Oper} {K:Tm→ac→Prop}:∀ (os:List Oper) (tt:Tt) (h:ac) (T:Tm) (r:Tt×ac),eR T tt →
 xv cx.P cx.G call n ops os tt h=some r→(∀ T',eR T' r.1→K T' r.2)→sd cx n ops os T h K
 | [],tt,h,T,r,hs,hx,hk=>by simp [xv] at hx;subst hx;exact hk T hs
 | o::os,tt,h,T,r,hs,hx,hk=>by
  simp only [xv] at hx
  cases hd:gf n o.dst with
  | false=>rw [hd] at hx;simp at hx
  | true =>
   rw [hd] at hx
   simp only [cond_true,tw hs,yy hs] at hx
   simp only [sd]
   refine ⟨hd,?_⟩
   split at hx
   · rename_i hg
     rw [hg]
     split at hx
     · rename_i q hq
       rw [hq]
       exact gu hcall hn os _ _ _ r (hs.put hn hd _) hx hk
     · rename_i hq
       rw [hq]
       split at hx
       · rename_i c hc
         rw [hc]
         split at hx <;> try (simp at hx;done)
         rename_i q hq'
         refine av.mono (hcall _ _ _ _ hq').2.1 ?_
         rintro v h' ⟨rfl,rfl⟩
         exact gu hcall hn os _ _ _ r (hs.put hn hd _) hx hk
       · rename_i hc
         rw [hc]
         split at hx <;> try (simp at hx;done)
         rename_i q hq'
         rw [hq']
         intro r' hr'
         rw [List.mem_singleton] at hr'
         subst hr'
         exact gu hcall hn os _ _ _ r (hs.put hn hd _) hx hk
   · rename_i hg
     rw [hg]
     exact gu hcall hn os _ _ _ r (hs.put hn hd _) hx hk
   · simp at hx
theorem fk (hcall:∀ f args h r,call f args h=some r→jf cx f args h r.1 r.2.1 r.2.2) (hn:n≤4095) {ops:Array Oper} {K:List (List Nat×List Nat)→Tm→ac→Prop}:∀ (os:List Oper) (k:Nat) (tt:Tt) (h:ac) (rs:List (List Nat×List Nat)) (T:Tm) (r:List (List Nat×List Nat)×Tt×ac),eR T tt →
 oj cx.P cx.G call n ops os k tt h rs=some r→(∀ T',eR T' r.2.1→K r.1 T' r.2.2)→jm cx n ops os k T h rs K
 | [],k,tt,h,rs,T,r,hs,hx,hk=>by simp [oj] at hx;subst hx;exact hk T hs
 | o::os,k,tt,h,rs,T,r,hs,hx,hk=>by
  simp only [oj] at hx
  cases hd:gf n o.dst with
  | false=>rw [hd] at hx;simp at hx
  | true =>
   rw [hd] at hx
   simp only [cond_true,tw hs,yy hs] at hx
   simp only [jm]
   refine ⟨hd,?_⟩
   split at hx
   · rename_i hg
     rw [hg]
     cases hal:ey o.op with
     | true =>
      rw [hal] at hx
      simp only [cond_true] at hx ⊢
      split at hx <;> try (simp at hx;done)
      rename_i cs hcs
      rw [hcs]
      cases hh:jR h k with
      | false=>rw [hh] at hx;simp at hx
      | true =>
       rw [hh] at hx
       exact ⟨rfl,fk hcall hn os _ _ _ _ _ r (hs.put hn hd _) hx hk⟩
     | false =>
      rw [hal] at hx
      simp only [cond_false] at hx ⊢
      split at hx
      · rename_i q hq
        rw [hq]
        exact fk hcall hn os _ _ _ _ _ r (hs.put hn hd _) hx hk
      · rename_i hq
        rw [hq]
        split at hx
        · rename_i c hc
          rw [hc]
          split at hx <;> try (simp at hx;done)
          rename_i q hq'
          exact ⟨q.1,q.2.1,q.2.2,hcall _ _ _ _ hq',fk hcall hn os _ _ _ _ _ r (hs.put hn hd _) hx hk⟩
        · simp at hx
   · rename_i hg
     rw [hg]
     exact fk hcall hn os _ _ _ _ _ r (hs.put hn hd _) hx hk
   · simp at hx
theorem eR.ext {T T':Tm} {tt:Tt} (hs:eR T tt) (he:∀ t,Tm.get T t=Tm.get T' t):eR T' tt:=fun t=>(he t).symm.trans (hs t)
theorem ch (hmix:cx.P.follows .mixedOrders=true) (hcall:∀ f args h r,call f args h=some r→jf cx f args h r.1 r.2.1 r.2.2) (hn:n≤4095):∀ (c:Code) (tt:Tt) (h:ac) (T:Tm) (e:Exit) (tt':Tt) (h':ac) (Q:di),eR T tt →
 dJ cx.P cx.G call n lf c tt h=some (e,tt',h')→(∀ T',eR T' tt'→Q e T' h')→wpA cx n m c Q T h
 | .skip,tt,h,T,e,tt',h',Q,hs,hx,hq=>by simp [dJ] at hx;obtain ⟨rfl,rfl,rfl⟩:=hx;exact wC (hq T hs)
 | .ret,tt,h,T,e,tt',h',Q,hs,hx,hq=>by simp [dJ] at hx;obtain ⟨rfl,rfl,rfl⟩:=hx;exact AR (hq T hs)
 | .exit id,tt,h,T,e,tt',h',Q,hs,hx,hq=>by simp [dJ] at hx;obtain ⟨rfl,rfl,rfl⟩:=hx;exact vL (hq T hs)
 | .seq a b,tt,h,T,e,tt',h',Q,hs,hx,hq=>by
  simp only [dJ] at hx
  refine AW ?_
  split at hx
  · rename_i T1 h1 hr
    exact ch hmix hcall hn a tt h T _ _ _ _ hs hr fun T' hT'=>ch hmix hcall hn b _ _ T' _ _ _ Q hT' hx hq
  · rename_i r hne
    refine ch hmix hcall hn a tt h T _ _ _ _ hs hx ?_
    intro T' hT'
    cases e with
    | normal=>exact (hne _ _ hx).elim
    | _=>exact hq T' hT'
 | .cond c a b,tt,h,T,e,tt',h',Q,hs,hx,hq=>by
  simp only [dJ,yy hs] at hx
  split at hx
  · rename_i hc;exact Bi hc (ch hmix hcall hn a tt h T _ _ _ Q hs hx hq)
  · rename_i hc;exact BY hc (ch hmix hcall hn b tt h T _ _ _ Q hs hx hq)
  · simp at hx
 | .block id c,tt,h,T,e,tt',h',Q,hs,hx,hq=>by
  simp only [dJ] at hx
  refine tC ?_
  split at hx
  · rename_i id' T1 h1 hr
    refine ch hmix hcall hn c tt h T _ _ _ _ hs hr ?_
    intro T' hT'
    by_cases hid:id'=id
    · subst hid
      simp at hx
      obtain ⟨rfl,rfl,rfl⟩:=hx
      exact aA (hq T' hT')
    · have hb:Nat.beq id' id=false:=mb hid
      rw [hb] at hx
      simp at hx
      obtain ⟨rfl,rfl,rfl⟩:=hx
      exact sX hid (hq T' hT')
  · rename_i r hne
    refine ch hmix hcall hn c tt h T _ _ _ _ hs hx ?_
    intro T' hT'
    cases e with
    | exit id'=>exact (hne _ _ _ hx).elim
    | _=>exact hq T' hT'
 | .loop c,tt,h,T,e,tt',h',Q,hs,hx,hq=>by
  simp only [dJ] at hx
  refine pC (fun k T1 h1=>∃ tt1,eR T1 tt1∧vG (dJ cx.P cx.G call n lf c) k tt1 h1=some (e,tt',h')) lf ⟨tt,hs,hx⟩ ?_
  rintro k T1 h1 ⟨tt1,hs1,hx1⟩
  cases k with
  | zero=>simp [vG] at hx1
  | succ k =>
   simp only [vG] at hx1
   split at hx1
   · rename_i T2 h2 hr
     exact ch hmix hcall hn c tt1 h1 T1 _ _ _ _ hs1 hr fun T' hT'=>⟨k,Nat.lt_succ_self k,T2,hT',hx1⟩
   · rename_i r hne
     refine ch hmix hcall hn c tt1 h1 T1 _ _ _ _ hs1 hx1 ?_
     intro T' hT'
     cases e with
     | normal=>exact (hne _ _ hx1).elim
     | _=>exact hq T' hT'
 | .region id ops false,tt,h,T,e,tt',h',Q,hs,hx,hq=>by
  simp only [dJ] at hx
  split at hx <;> simp at hx
  rename_i T1 h1 hr
  obtain ⟨rfl,rfl,rfl⟩:=hx
  exact pp (gu hcall hn _ tt h T _ hs hr hq)
 | .region id ops true,tt,h,T,e,tt',h',Q,hs,hx,hq=>by
  simp only [dJ] at hx
  split at hx <;> try (simp at hx;done)
  rename_i rs T1 h1 hr
  cases hok:oO ops rs with
  | false=>rw [hok] at hx;simp at hx
  | true =>
   rw [hok] at hx
   simp at hx
   obtain ⟨rfl,rfl,rfl⟩:=hx
   obtain ⟨g1,g2⟩:=uz hok
   refine rJ (vH hmix g1 (Q:=fun e T' h''=>e=.normal∧eR T' T1∧h''=h1) ?_ ?_) ?_
   · rintro T2 T3 h3 ht ⟨_,a,b⟩
     exact ⟨rfl,a.ext ht,b⟩
   · exact fk hcall hn _ _ tt _ [] T _ hs hr fun T' hT'=>⟨g2,rfl,hT',rfl⟩
   · rintro e T' h'' ⟨rfl,a,rfl⟩
     exact hq T' a
 | .rangeFunc _ _ _ _,tt,h,T,e,tt',h',Q,hs,hx,hq=>by simp [dJ] at hx
 | .scope _,tt,h,T,e,tt',h',Q,hs,hx,hq=>by simp [dJ] at hx
 | .label _,tt,h,T,e,tt',h',Q,hs,hx,hq=>by simp [dJ] at hx
 | .goto _,tt,h,T,e,tt',h',Q,hs,hx,hq=>by simp [dJ] at hx
 | .refuse _,tt,h,T,e,tt',h',Q,hs,hx,hq=>by simp [dJ] at hx
end
end Go.Proofs.YtdikgijfekfaoaaGreatDoor.Abs
namespace Go.Proofs.YtdikgijfekfaoaaGreatDoor.Abs
def idx:List Nat→Nat→Nat
 | [],_=>0
 | x::L,o=>bif Nat.beq x o then 0 else idx L o+1
def jJ:List Nat→Nat→Bool
 | [],_=>false
 | x::L,o=>bif Nat.beq x o then true else jJ L o
def pL:List Nat→Bool
 | []=>true
 | x::L=>bif jJ L x then false else pL L
theorem iy:∀ (L:List Nat) (o:Nat),jJ L o=true↔o∈L
 | [],o=>by simp [jJ]
 | x::L,o=>by
  simp only [jJ]
  by_cases e:x=o
  · subst e;simp
  · have:Nat.beq x o=false:=mb e
    rw [this,cond_false,iy L o,List.mem_cons]
    exact ⟨.inr,fun h=>h.resolve_left (fun h=>e h.symm)⟩
theorem oz:∀ (L:List Nat),pL L=true→L.Nodup
 | [],_=>.nil
 | x::L,h=>by
  simp only [pL] at h
  cases hm:jJ L x with
  | true=>rw [hm] at h;simp at h
  | false =>
   rw [hm] at h
   refine List.nodup_cons.2 ⟨fun hx=>?_,oz L (by simpa using h)⟩
   rw [(iy L x).2 hx] at hm;simp at hm
theorem vg:∀ (L:List Nat) (o:Nat),o∈L→L[idx L o]?=some o
 | [],o,h=>by simp at h
 | x::L,o,h=>by
  simp only [idx]
  by_cases e:x=o
  · subst e;simp
  · have hb:Nat.beq x o=false:=mb e
    rw [hb,cond_false,List.getElem?_cons_succ]
    exact vg L o (by simpa [Ne.symm e] using h)
theorem nv {L:List Nat} {o:Nat} (h:jJ L o=true):idx L o<L.length:=by
 have:=vg L o ((iy L o).1 h)
 exact (List.getElem?_eq_some_iff.1 this).1
theorem fO {L:List Nat} {o:Nat} (m:Nat) (h:jJ L o=true):bc L m (idx L o)=o:=cJ m (vg L o ((iy L o).1 h))
mutual
def aa.win (L:List Nat):aa→Bool
 | .agg cs=>kN L cs
 | .tup cs=>kN L cs
 | .ptr o _=>jJ L o
 | .pimm cs _=>kN L cs
 | .pown o _ _ _=>jJ L o
 | .imm l=>kN L l
 | .full l=>kN L l
 | .own o _ _=>jJ L o
 | .map o=>jJ L o
 | .fn _ xs ys=>kN L xs && kN L ys
 | .itr o=>jJ L o
 | .iface _ v=>v.win L
 | .any=>true
 | .bool _=>true
 | .int _ _=>true
 | .str _=>true
 | .nilp=>true
 | .nilm=>true
 | .nilfn=>true
 | .nili=>true
def kN (L:List Nat):List aa→Bool
 | []=>true
 | x::xs=>x.win L && kN L xs
end
def BN (L:List Nat):List (aa×aa)→Bool
 | []=>true
 | e::es=>e.1.win L && e.2.win L && BN L es
def ai.winO (L:List Nat):ai→Bool
 | .hole=>true
 | .box cs=>kN L cs
 | .arr _ es _=>kN L es
 | .map es=>BN L es
 | .iter m _=>jJ L m
mutual
theorem oS (L:List Nat) (m:Nat):∀ x:aa,x.win L=true→(x.ren (idx L)).ren (bc L m)=x
 | .agg cs,h=>by simp only [aa.ren,df L m cs h]
 | .tup cs,h=>by simp only [aa.ren,df L m cs h]
 | .ptr o _,h=>by simp only [aa.ren,fO m h]
 | .pimm cs _,h=>by simp only [aa.ren,df L m cs h]
 | .pown o _ _ _,h=>by simp only [aa.ren,fO m h]
 | .imm l,h=>by simp only [aa.ren,df L m l h]
 | .full l,h=>by simp only [aa.ren,df L m l h]
 | .own o _ _,h=>by simp only [aa.ren,fO m h]
 | .map o,h=>by simp only [aa.ren,fO m h]
 | .fn _ xs ys,h=>by
  simp only [aa.win,Bool.and_eq_true] at h
  simp only [aa.ren,df L m xs h.1,df L m ys h.2]
 | .itr o,h=>by simp only [aa.ren,fO m h]
 | .iface _ v,h=>by simp only [aa.ren,oS L m v h]
 | .any,_=>rfl
 | .bool _,_=>rfl
 | .int _ _,_=>rfl
 | .str _,_=>rfl
 | .nilp,_=>rfl
 | .nilm,_=>rfl
 | .nilfn,_=>rfl
 | .nili,_=>rfl
theorem df (L:List Nat) (m:Nat):∀ xs:List aa,kN L xs=true→bV (bc L m) (bV (idx L) xs)=xs
 | [],_=>rfl
 | x::xs,h=>by
  simp only [kN,Bool.and_eq_true] at h
  simp only [bV,oS L m x h.1,df L m xs h.2]
end
mutual
theorem pa (L:List Nat):∀ x:aa,x.win L=true→(x.ren (idx L)).bel L.length=true
 | .agg cs,h=>by simp only [aa.ren,aa.bel];exact de L cs h
 | .tup cs,h=>by simp only [aa.ren,aa.bel];exact de L cs h
 | .ptr o _,h=>by simp only [aa.ren,aa.bel];simpa using nv h
 | .pimm cs _,h=>by simp only [aa.ren,aa.bel];exact de L cs h
 | .pown o _ _ _,h=>by simp only [aa.ren,aa.bel];simpa using nv h
 | .imm l,h=>by simp only [aa.ren,aa.bel];exact de L l h
 | .full l,h=>by simp only [aa.ren,aa.bel];exact de L l h
 | .own o _ _,h=>by simp only [aa.ren,aa.bel];simpa using nv h
 | .map o,h=>by simp only [aa.ren,aa.bel];simpa using nv h
 | .fn _ xs ys,h=>by
  simp only [aa.win,Bool.and_eq_true] at h
  simp only [aa.ren,aa.bel,de L xs h.1,de L ys h.2,Bool.and_self]
 | .itr o,h=>by simp only [aa.ren,aa.bel];simpa using nv h
 | .iface _ v,h=>by simp only [aa.ren,aa.bel];exact pa L v h
 | .any,_=>rfl
 | .bool _,_=>rfl
 | .int _ _,_=>rfl
 | .str _,_=>rfl
 | .nilp,_=>rfl
 | .nilm,_=>rfl
 | .nilfn,_=>rfl
 | .nili,_=>rfl
theorem de (L:List Nat):∀ xs:List aa,kN L xs=true→bP L.length (bV (idx L) xs)=true
 | [],_=>rfl
 | x::xs,h=>by
  simp only [kN,Bool.and_eq_true] at h
  simp only [bV,bP,pa L x h.1,de L xs h.2,Bool.and_self]
end
theorem xV (L:List Nat) (m:Nat):∀ es,BN L es=true→ix (bc L m) (ix (idx L) es)=es
 | [],_=>rfl
 | e::es,h=>by
  simp only [BN,Bool.and_eq_true] at h
  simp only [ix,oS L m _ h.1.1,oS L m _ h.1.2,xV L m es h.2]
theorem vQ (L:List Nat):∀ es,BN L es=true→((ix (idx L) es).all fun e=>e.1.bel L.length && e.2.bel L.length)=true
 | [],_=>rfl
 | e::es,h=>by
  simp only [BN,Bool.and_eq_true] at h
  have:=vQ L es h.2
  simp only [ix,List.all_cons,pa L _ h.1.1,pa L _ h.1.2,Bool.and_self,Bool.true_and]
  exact this
theorem DK (L:List Nat) (m:Nat) (x:ai) (h:x.winO L=true):(x.ren (idx L)).ren (bc L m)=x:=by
 cases x <;> simp only [ai.ren,ai.winO] at h ⊢
 · rw [df L m _ h]
 · rw [df L m _ h]
 · rw [xV L m _ h]
 · rw [fO m h]
theorem Do (L:List Nat) (x:ai) (h:x.winO L=true):(x.ren (idx L)).belO L.length=true:=by
 cases x <;> simp only [ai.ren,ai.winO,ai.belO] at h ⊢
 · exact de L _ h
 · exact de L _ h
 · exact vQ L _ h
 · simpa using nv h
mutual
def aa.objs:aa→List Nat
 | .agg cs=>je cs
 | .tup cs=>je cs
 | .ptr o _=>[o]
 | .pimm cs _=>je cs
 | .pown o _ _ _=>[o]
 | .imm l=>je l
 | .full l=>je l
 | .own o _ _=>[o]
 | .map o=>[o]
 | .fn _ xs ys=>je xs++je ys
 | .itr o=>[o]
 | .iface _ v=>v.objs
 | .any=>[]
 | .bool _=>[]
 | .int _ _=>[]
 | .str _=>[]
 | .nilp=>[]
 | .nilm=>[]
 | .nilfn=>[]
 | .nili=>[]
def je:List aa→List Nat
 | []=>[]
 | x::xs=>x.objs++je xs
end
def GC:List (aa×aa)→List Nat
 | []=>[]
 | e::es=>e.1.objs++(e.2.objs++GC es)
def ai.objsO:ai→List Nat
 | .hole=>[]
 | .box cs=>je cs
 | .arr _ es _=>je es
 | .map es=>GC es
 | .iter m _=>[m]
def qq (h:ac):Nat→List Nat→List Nat→List Nat
 | 0,_,acc=>acc
 | _+1,[],acc=>acc
 | n+1,o::todo,acc=>bif jJ acc o then qq h n todo acc else
  match h[o]? with
  | some x=>qq h n (x.objsO++todo) (acc++[o])
  | none=>qq h n todo (acc++[o])
def pg (h:ac) (L:List Nat):List Nat→Option ac
 | []=>some []
 | o::os=>match h[o]? with
  | some x=>bif x.winO L then
   match pg h L os with
   | some xs=>some (x.ren (idx L)::xs)
   | none=>none
   else none
  | none=>none
def pk (L:List Nat):Nat→ac→Bool
 | _,[]=>true
 | o,x::h=>(match x with
  | .iter m _=>jJ L o || !(jJ L m)
  | _=>true) && pk L (o+1) h
theorem nZ {h:ac} {L:List Nat}:∀ {os:List Nat} {hs:ac},pg h L os=some hs→hs.length=os.length ∧
 (∀ (i:Nat) o x,os[i]?=some o→hs[i]?=some x→h[o]?=some (x.ren (bc L h.length)))∧hs.all (ai.belO L.length)=true
 | [],hs,hx=>by simp [pg] at hx;subst hx;simp
 | o::os,hs,hx=>by
  simp only [pg] at hx
  split at hx <;> try (simp at hx;done)
  rename_i x ho
  cases hw:x.winO L with
  | false=>rw [hw] at hx;simp at hx
  | true =>
   rw [hw] at hx
   simp only [cond_true] at hx
   split at hx <;> simp at hx
   rename_i xs hxs
   subst hx
   obtain ⟨g1,g2,g3⟩:=nZ hxs
   refine ⟨by simp [g1],?_,?_⟩
   · intro i p y hp hy
     cases i with
     | zero =>
      simp at hp hy
      subst hp hy
      rw [DK L _ x hw];exact ho
     | succ i=>simp at hp hy;exact g2 i p y hp hy
   · simp only [List.all_cons,Do L x hw,Bool.true_and];exact g3
theorem nK {L:List Nat}:∀ {h:ac} {k:Nat},pk L k h=true→∀ (o m:Nat) left,h[o]?=some (.iter m left)→(k+o)∉L→m∉L
 | [],k,_,o,m,left,ho=>by simp at ho
 | x::h,k,hk,o,m,left,ho=>by
  simp only [pk,Bool.and_eq_true] at hk
  cases o with
  | zero =>
   simp at ho
   subst ho
   intro hn hm
   have h1:=hk.1
   simp only [Bool.or_eq_true,Bool.not_eq_true'] at h1
   rcases h1 with h1|h1
   · exact hn (by simpa using (iy L k).1 h1)
   · rw [(iy L m).2 hm] at h1;simp at h1
  | succ o =>
   simp at ho
   have:=nK hk.2 o m left ho
   rwa [show k+1+o=k+(o+1) by omega] at this
section
variable {cx:Cx}
theorem i5 {f:FuncId} {args:List aa} {h:ac} {K:aa→ac→Prop} (hc:av cx f (bo h args) (cb h (aS args)) K):av cx f args h K:=by
 refine ⟨hc.1,fun ρ w cargs wf hg hv=>?_⟩
 obtain ⟨ρ1,q1,q2,q3,q4⟩:=dK (aS args) wf (Fr.refl ρ h w)
 have hv1:VRs ρ1 (cb h (aS args)) w (bo h args) cargs:=by
  refine ⟨by rw [hv.1,ce];simp,fun i x u hx hu=>?_⟩
  rw [ce] at hx
  simp at hx
  obtain ⟨y,hy,rfl⟩:=hx
  exact (hv.2 i y u hy hu).frz q2 q4 (fun o ho=>cX hy o ho)
 refine (hc.2 ρ1 w cargs q1 (fun g cs hg'=>(hg g cs hg').nil_mono q2) hv1).mono ?_
 rintro e w' ⟨ρ2,cv,v',h',rfl,hk,r1,r2,r3,r4⟩
 exact ⟨ρ2,cv,v',h',rfl,hk,r1,r2,q2.trans r3,q3.comp r4⟩
mutual
theorem nu (g h:ac):∀ x:aa,x.owns=[]→x.frz g=x.frz h
 | .agg cs,e=>by simp only [aa.frz,cL g h cs e]
 | .tup cs,e=>by simp only [aa.frz,cL g h cs e]
 | .ptr _ _,_=>rfl
 | .pimm _ _,_=>rfl
 | .pown _ _ _ _,_=>rfl
 | .imm l,e=>by simp only [aa.frz,cL g h l e]
 | .full l,e=>by simp only [aa.frz,cL g h l e]
 | .own o _ _,e=>by simp [aa.owns] at e
 | .map _,_=>rfl
 | .fn _ xs ys,e=>by
  simp only [aa.owns,List.append_eq_nil_iff] at e
  simp only [aa.frz,cL g h xs e.1,cL g h ys e.2]
 | .itr _,_=>rfl
 | .iface _ v,e=>by simp only [aa.frz,nu g h v e]
 | .any,_=>rfl
 | .bool _,_=>rfl
 | .int _ _,_=>rfl
 | .str _,_=>rfl
 | .nilp,_=>rfl
 | .nilm,_=>rfl
 | .nilfn,_=>rfl
 | .nili,_=>rfl
theorem cL (g h:ac):∀ xs:List aa,aS xs=[]→bo g xs=bo h xs
 | [],_=>rfl
 | x::xs,e=>by
  simp only [aS,List.append_eq_nil_iff] at e
  simp only [bo,nu g h x e.1,cL g h xs e.2]
end
mutual
theorem lH (r:Nat→Nat):∀ x:aa,x.bel 0=true→x.ren r=x
 | .agg cs,h=>by simp only [aa.ren,cI r cs h]
 | .tup cs,h=>by simp only [aa.ren,cI r cs h]
 | .ptr o _,h=>by simp [aa.bel] at h
 | .pimm cs _,h=>by simp only [aa.ren,cI r cs h]
 | .pown o _ _ _,h=>by simp [aa.bel] at h
 | .imm l,h=>by simp only [aa.ren,cI r l h]
 | .full l,h=>by simp only [aa.ren,cI r l h]
 | .own o _ _,h=>by simp [aa.bel] at h
 | .map o,h=>by simp [aa.bel] at h
 | .fn _ xs ys,h=>by
  simp only [aa.bel,Bool.and_eq_true] at h
  simp only [aa.ren,cI r xs h.1,cI r ys h.2]
 | .itr o,h=>by simp [aa.bel] at h
 | .iface _ v,h=>by simp only [aa.ren,lH r v h]
 | .any,_=>rfl
 | .bool _,_=>rfl
 | .int _ _,_=>rfl
 | .str _,_=>rfl
 | .nilp,_=>rfl
 | .nilm,_=>rfl
 | .nilfn,_=>rfl
 | .nili,_=>rfl
theorem cI (r:Nat→Nat):∀ xs:List aa,bP 0 xs=true→bV r xs=xs
 | [],_=>rfl
 | x::xs,h=>by
  simp only [bP,Bool.and_eq_true] at h
  simp only [bV,lH r x h.1,cI r xs h.2]
end
theorem dI:∀ (os:List Nat) (h:ac),(cb h os).length=h.length
 | [],h=>rfl
 | o::os,h=>by
  simp only [cb]
  split
  · rw [dI os];simp
  · exact dI os h
theorem i4:∀ (os:List Nat) (h:ac) (o:Nat),o∉os→(cb h os)[o]?=h[o]?
 | [],h,o,_=>rfl
 | p::os,h,o,ho=>by
  simp only [List.mem_cons,not_or] at ho
  simp only [cb]
  split
  · rw [i4 os _ o ho.2,List.getElem?_set_ne (fun e=>ho.1 e.symm)]
  · exact i4 os h o ho.2
abbrev yB:=FuncId→List aa→ac→Option (aa×ac)
def Aq (run:yB) (f:FuncId) (owns:List Nat) (args:List aa) (h:ac):Option (List Nat×aa×ac) :=
 let L:=qq h 100000 (je args) []
 bif pL L && kN L args && pk L 0 h then
  match pg h L L with
  | some hs=>match run f (bV (idx L) args) hs with
   | some (v,hs')=>bif (owns++L++List.range' h.length (hs'.length - L.length)).isEmpty && !(v.bel 0 && hs'.isEmpty) then none else
    some (owns++L++List.range' h.length (hs'.length - L.length),v.ren (bc L h.length),dv h L hs')
   | none=>none
  | none=>none
 else none
def A3 (kP:ma) (run:yB) (raw:FuncId→Bool) (f:FuncId) (args:List aa) (h:ac):Option (List Nat×aa×ac) :=
 match kP f args h with
 | some r=>some r
 | none=>bif raw f then Aq run f [] args h else Aq run f (aS args) (bo h args) (cb h (aS args))
def AH (cx:Cx) (run:yB):Prop:=∀ f args h r,run f args h=some r→av cx f args h fun v h'=>v=r.1∧h'=r.2
theorem ot {run:yB} (hrun:AH cx run) {f:FuncId} {owns:List Nat} {args:List aa} {h:ac} {r:List Nat×aa×ac} (hx:Aq run f owns args h=some r) :
 (∀ o,o∉r.1→r.2.2[o]?=h[o]?)∧(∀ o∈owns,o∈r.1)∧(av cx f args h fun v' g'=>v'=r.2.1∧g'=r.2.2)∧(r.1=[]→ay cx f args r.2.1∧bP 0 args=true∧r.2.1.bel 0=true):=by
 unfold Aq at hx
 dsimp only at hx
 generalize hL:qq h 100000 (je args) []=L at hx
 cases hc:pL L && kN L args && pk L 0 h with
 | false=>rw [hc] at hx;simp at hx
 | true =>
  rw [hc] at hx
  simp only [cond_true] at hx
  simp only [Bool.and_eq_true] at hc
  obtain ⟨⟨c1,c2⟩,c3⟩:=hc
  split at hx <;> try (simp at hx;done)
  rename_i hs hhs
  split at hx <;> try (simp at hx;done)
  rename_i v hs' hr
  obtain ⟨g1,g2,g3⟩:=nZ hhs
  have le:r6 h L hs:=⟨g1,oz L c1,g2,by rw [g1];exact g3,fun o m left ho hn=>nK c3 o m left ho (by simpa using hn)⟩
  have hA:=hrun _ _ _ _ hr
  cases hz:(owns++L++List.range' h.length (hs'.length - L.length)).isEmpty && !(v.bel 0 && hs'.isEmpty) with
  | true=>rw [hz] at hx;simp at hx
  | false =>
   rw [hz] at hx
   simp only [cond_false,Option.some.injEq] at hx
   subst hx
   have hcall:av cx f args h fun v' g'=>v'=v.ren (bc L h.length)∧g'=dv h L hs':=by
    have:=e9 (K:=fun v' g'=>v'=v.ren (bc L h.length)∧g'=dv h L hs') le hA (by rw [g1];exact de L args c2) (by
     rintro v' hs1 _ ⟨rfl,rfl⟩;exact ⟨rfl,rfl⟩)
    rwa [df L h.length args c2] at this
   refine ⟨?_,fun o ho=>by simp [ho],hcall,?_⟩
   · intro o ho
     simp only [List.mem_append,not_or,List.mem_range'_1] at ho
     by_cases hlt:o<h.length
     · exact gO ho.1.2 hlt
     · have hge:h.length+(hs'.length - L.length)≤o:=by omega
       rw [List.getElem?_eq_none (l:=h) oq,List.getElem?_eq_none]
       unfold dv
       rw [List.length_append,cw,fX]
       simp;omega
   · intro he
     dsimp only at he
     have hL0:L=[]:=by
      simp only [List.append_eq_nil_iff] at he;exact he.1.2
     rw [show (owns++L++List.range' h.length (hs'.length - L.length)).isEmpty=true from by rw [he];rfl] at hz
     simp only [Bool.true_and,Bool.not_eq_false',Bool.and_eq_true,List.isEmpty_iff] at hz
     subst hL0
     have hb:bP 0 (bV (idx []) args)=true:=de [] args c2
     have hba:bV (idx []) args=args:=by
      have e1:=df [] 0 args c2
      rw [cI _ _ hb] at e1
      exact e1
     rw [hba] at hb hr hA
     obtain ⟨hv,hs0⟩:=hz
     subst hs0
     have hsnil:hs=[]:=by simpa using g1
     subst hsnil
     refine ⟨?_,hb,by dsimp only;rw [lH _ _ hv];exact hv⟩
     dsimp only
     rw [lH _ _ hv]
     exact hA
theorem nX {kP:ma} {run:yB} {raw:FuncId→Bool} (hhook:∀ f args h r,kP f args h=some r→jf cx f args h r.1 r.2.1 r.2.2) (hrun:AH cx run) :
 ∀ f args h r,A3 kP run raw f args h=some r→jf cx f args h r.1 r.2.1 r.2.2:=by
 intro f args h r hx
 unfold A3 at hx
 split at hx
 · rename_i q hq
   simp at hx;subst hx
   exact hhook _ _ _ _ hq
 · cases hraw:raw f with
   | true =>
    rw [hraw] at hx
    obtain ⟨h1,h2,h3,h4⟩:=ot hrun hx
    refine ⟨h1,h3,fun e=>?_⟩
    obtain ⟨h5,h6,h7⟩:=h4 e
    intro g
    have key:=e9 (cx:=cx) (h:=g) (L:=[]) (hs:=[]) (args:=args) (Q:=fun v' g'=>v'=r.2.1∧g'=[]) (K:=fun v' g'=>v'=r.2.1∧g'=g) ⟨rfl,.nil,by simp,rfl,by simp⟩ h5 h6 (by
     rintro v' hs' _ ⟨rfl,rfl⟩
     refine ⟨?_,by simp [dv,cy,dB]⟩
     exact lH _ _ h7)
    rwa [cI _ _ h6] at key
   | false =>
    rw [hraw] at hx
    obtain ⟨h1,h2,h3,h4⟩:=ot hrun hx
    refine ⟨fun o ho=>?_,i5 h3,fun e=>?_⟩
    · rw [h1 o ho,i4 _ _ _ (fun hin=>ho (h2 o hin))]
    · obtain ⟨h5,h6,h7⟩:=h4 e
      have ho:aS args=[]:=by
       rcases hoo:aS args with _|⟨o,os⟩
       · rfl
       · have:=h2 o (by rw [hoo];simp);rw [e] at this;simp at this
      intro g
      refine fm (by rw [cL g h args ho];exact h5) (by rw [cL g h args ho];exact h6) ?_
      rw [ho]
      exact ⟨rfl,rfl⟩
end
end Go.Proofs.YtdikgijfekfaoaaGreatDoor.Abs
namespace Go.Proofs.YtdikgijfekfaoaaGreatDoor.Abs
def Cp (P:Program) (T:Tt) (h:ac):List ResultVar→Option (List aa)
 | []=>some []
 | .tmp t::rs=>match Cp P T h rs with
  | some l=>some (T.get t::l)
  | none=>none
 | .cell a t::rs=>match k8 h (T.get a) with
  | some r=>match kd P t r.1 r.2 with
   | some x=>match Cp P T h rs with
    | some l=>some (x::l)
    | none=>none
   | none=>none
  | none=>none
theorem oR {P:Program} {T:Tm} {tt:Tt} (hs:eR T tt) (h:ac):∀ rs,Cp P tt h rs=eD P T h rs
 | []=>rfl
 | .tmp t::rs=>by
  simp only [Cp,eD,oR hs h rs]
  cases eD P T h rs with
  | none=>rfl
  | some l=>dsimp only;rw [hs t]
 | .cell a t::rs=>by
  simp only [Cp,eD,oR hs h rs,hs a]
  cases k8 h (tt.get a) with
  | none=>rfl
  | some r =>
   dsimp only
   cases kd P t r.1 r.2 with
   | none=>rfl
   | some x =>
    dsimp only
    cases eD P T h rs <;> rfl
def BT:Nat→List aa→Tt→Tt
 | _,[],T=>T
 | k,x::xs,T=>BT (k+1) xs (T.setF 12 k x)
theorem vw:∀ (xs:List aa) (k:Nat) (T:Tt) (t:Nat),k+xs.length≤4095→(BT k xs T).get t=if k≤t∧t<k+xs.length then (xs[t - k]?).getD .any else T.get t
 | [],k,T,t,_=>by simp [BT];intro h1 h2;omega
 | x::xs,k,T,t,h=>by
  simp only [List.length_cons] at h ⊢
  rw [BT,vw xs (k+1) _ t oq,Tt.get_set 12 T k x t (by show k+1<4096;omega)]
  by_cases e:t=k
  · subst e
    rw [if_neg oq,if_pos rfl,if_pos oq];simp
  · rw [if_neg e]
    by_cases h1:k+1≤t∧t<k+1+xs.length
    · rw [if_pos h1,if_pos oq,show t - k=(t - (k+1))+1 by omega];simp
    · rw [if_neg h1,if_neg oq]
theorem s6 (xs:List aa) (h:xs.length≤4095):eR (jH 0 xs) (BT 0 xs .e):=by
 intro t
 rw [km,vw xs 0 .e t oq,Tt.get_e]
 simp only [Nat.zero_le,if_true,Nat.sub_zero,true_and,Nat.zero_add]
 by_cases e:t<xs.length
 · rw [if_pos e]
 · rw [if_neg e,List.getElem?_eq_none oq];rfl
def jOk (v:aa) (h:ac) (j:Nat):Bool:=v.bel j && (h.take j).all (ai.belO j)
def m6 (v:aa) (h:ac):Nat→Nat→Option Nat
 | 0,j=>bif jOk v h j then some j else none
 | c+1,j=>bif jOk v h j then some j else m6 v h c (j+1)
theorem j9 {v:aa} {h:ac}:∀ {c j k:Nat},m6 v h c j=some k→j≤k∧jOk v h k=true
 | 0,j,k,hx=>by
  simp only [m6] at hx
  cases hj:jOk v h j with
  | false=>rw [hj] at hx;simp at hx
  | true=>rw [hj] at hx;simp at hx;subst hx;exact ⟨Nat.le_refl _,hj⟩
 | c+1,j,k,hx=>by
  simp only [m6] at hx
  cases hj:jOk v h j with
  | false =>
   rw [hj] at hx;simp at hx
   obtain ⟨h1,h2⟩:=j9 hx
   exact ⟨by omega,h2⟩
  | true=>rw [hj] at hx;simp at hx;subst hx;exact ⟨Nat.le_refl _,hj⟩
def Exit.fine:Exit→Bool
 | .normal=>true
 | .ret=>true
 | _=>false
def Iu (raw:Bool) (m:Nat) (v:aa) (h:ac):Option (aa×ac) :=
 bif raw then (match m6 v h (h.length - m) m with
  | some j=>some (v,h.take j)
  | none=>none)
 else match m6 (v.frz h) (cb h v.owns) (h.length - m) m with
  | some j=>some (v.frz h,(cb h v.owns).take j)
  | none=>none
structure XP where
 lf:Nat
 rawArg:FuncId→Bool
 rawRes:FuncId→FuncId→Bool
def BR (P:Program) (G:Nat→Option (List aa)) (kP:ma) (p:XP):Nat→Bool→yB
 | 0,_,_,_,_=>none
 | n+1,raw,f,args,h=>match P.funcs[f]? with
  | some fn=>match fn.body with
   | some c=>bif Nat.ble args.length fn.ntmps && Nat.ble fn.ntmps 4095 then
    match dJ P G (A3 kP (fun g=>BR P G kP p n (p.rawRes f g) g) p.rawArg) fn.ntmps p.lf c (BT 0 args .e) h with
    | some (e,T,h')=>bif Exit.fine e then
     match Cp P T h' fn.results.toList with
     | some l=>Iu raw h.length (aK l) h'
     | none=>none
     else none
    | none=>none
    else none
   | none=>none
  | none=>none
section
variable {cx:Cx}
theorem qw (hmix : cx.P.follows .mixedOrders = true) (hname : ∀ (f : FuncId) (fn : Func), cx.P.funcs[f]? = some fn → (fn.name == "runtime.NumGoroutine") = false) {kP : ma} (hhook : ∀ f args h r, kP f args h = some r → jf cx f args h r.1 r.2.1 r.2.2) {p : XP} : ∀ n raw, AH cx (BR cx.P cx.G kP p n raw)
 | 0,_=>fun f args h r hx=>by simp [BR] at hx
 | n+1,raw=>fun f args h r hx=>by
  simp only [BR] at hx
  split at hx <;> try (simp at hx;done)
  rename_i fn hf
  split at hx <;> try (simp at hx;done)
  rename_i c hb
  cases hc:Nat.ble args.length fn.ntmps && Nat.ble fn.ntmps 4095 with
  | false=>rw [hc] at hx;simp at hx
  | true =>
   rw [hc] at hx
   simp only [Bool.and_eq_true,Nat.ble_eq] at hc
   simp only [cond_true] at hx
   split at hx <;> try (simp at hx;done)
   rename_i e T h' hr
   cases he:Exit.fine e with
   | false=>rw [he] at hx;simp at hx
   | true =>
    rw [he] at hx
    simp only [cond_true] at hx
    split at hx <;> try (simp at hx;done)
    rename_i l hl
    have hcall:=nX (raw:=p.rawArg) (run:=fun g=>BR cx.P cx.G kP p n (p.rawRes f g) g) hhook (fun g args h r hx=>qw hmix hname hhook (p:=p) n _ g args h r hx)
    have hfine:e=.normal∨e=.ret:=by cases e <;> simp [Exit.fine] at he <;> simp
    unfold Iu at hx
    cases raw with
    | true =>
     simp only [cond_true] at hx
     split at hx <;> simp at hx
     rename_i j hj
     subst hx
     obtain ⟨j1,j2⟩:=j9 hj
     simp only [jOk,Bool.and_eq_true] at j2
     refine gB hf hb (hname f fn hf) hc.1 ?_
     refine ch hmix hcall hc.2 c _ h _ _ _ _ _ (s6 args (Nat.le_trans hc.1 hc.2)) hr ?_
     intro T' hT'
     exact ⟨hfine,l,by rw [← oR hT'];exact hl,j,j1,j2.1,j2.2,rfl,rfl⟩
    | false =>
     simp only [cond_false] at hx
     split at hx <;> simp at hx
     rename_i j hj
     subst hx
     obtain ⟨j1,j2⟩:=j9 hj
     simp only [jOk,Bool.and_eq_true] at j2
     refine jw hf hb (hname f fn hf) hc.1 ?_
     refine ch hmix hcall hc.2 c _ h _ _ _ _ _ (s6 args (Nat.le_trans hc.1 hc.2)) hr ?_
     intro T' hT'
     exact ⟨hfine,l,by rw [← oR hT'];exact hl,j,j1,j2.1,j2.2,rfl,rfl⟩
end
end Go.Proofs.YtdikgijfekfaoaaGreatDoor.Abs
namespace Go.Proofs.YtdikgijfekfaoaaGreatDoor.Abs
def IE (i:Nat):Code→Code
 | .seq a b=>bif Nat.beq i 0 then a else b
 | .cond _ a b=>bif Nat.beq i 0 then a else b
 | .block _ c=>c
 | .loop c=>c
 | c=>c
def at_ (c:Code):List Nat→Code
 | []=>c
 | i::p=>IE i (at_ c p)
def cj:Code→Nat
 | .seq _ _=>1
 | .cond _ _ _=>2
 | .block _ _=>3
 | .loop _=>4
 | .skip=>7
 | .ret=>8
 | .exit _=>9
 | _=>0
def rt:Code→Operand
 | .cond o _ _=>o
 | _=>.const (.bool false)
def FK:Code→Nat
 | .block id _=>id
 | .exit id=>id
 | _=>0
def so:Code→Array Oper
 | .region _ ops _=>ops
 | _=>#[]
def bOf (n:Nat) (c:Code):List BOp:=match rV n (so c) (so c).toList with
 | some l=>l
 | none=>[]
def xK (n:Nat):Code→Bool
 | .region _ ops false=>(rV n ops ops.toList).isSome
 | _=>false
def GO (n:Nat):Code→Bool
 | .region _ ops true=>(rV n ops ops.toList).isSome && fN 0 ops.toList
 | _=>false
def wd (Q:di):Prop:=∀ T T' h,(∀ t,Tm.get T t=Tm.get T' t)→Q .normal T h→Q .normal T' h
def CJ (K:Tm→ac→Prop):Prop:=∀ T T' h,(∀ t,Tm.get T t=Tm.get T' t)→K T h→K T' h
section
variable {cx:Cx} {n m:Nat} {Q:di} {T:Tm} {h:ac} {c:Code} {p:List Nat}
theorem IK (hk:cj (at_ c p)=1) (hw:wpA cx n m (at_ c (0::p)) (dy (wpA cx n m (at_ c (1::p)) Q) Q) T h):wpA cx n m (at_ c p) Q T h:=by
 simp only [at_] at hw
 generalize at_ c p=d at hk hw
 cases d <;> simp [cj] at hk
 exact AW hw
theorem wIf (hk:cj (at_ c p)=2) (b:Bool) (hb:aev cx.G T (rt (at_ c p))=.bool b) (h1:b=true→wpA cx n m (at_ c (0::p)) Q T h) (h2:b=false→wpA cx n m (at_ c (1::p)) Q T h):wpA cx n m (at_ c p) Q T h:=by
 simp only [at_] at h1 h2
 generalize at_ c p=d at hk hb h1 h2
 cases d <;> simp [cj] at hk
 exact Ce b hb h1 h2
theorem cp (hk:cj (at_ c p)=2) (hb:aev cx.G T (rt (at_ c p))=.bool true) (h1:wpA cx n m (at_ c (0::p)) Q T h):wpA cx n m (at_ c p) Q T h :=
 wIf hk true hb (fun _=>h1) (fun e=>by cases e)
theorem dY (hk:cj (at_ c p)=2) (hb:aev cx.G T (rt (at_ c p))=.bool false) (h2:wpA cx n m (at_ c (1::p)) Q T h):wpA cx n m (at_ c p) Q T h :=
 wIf hk false hb (fun e=>by cases e) (fun _=>h2)
theorem GZ (id:Nat) (hk:cj (at_ c p)=3) (hid:FK (at_ c p)=id) (hw:wpA cx n m (at_ c (0::p)) (AIn id Q) T h):wpA cx n m (at_ c p) Q T h:=by
 simp only [at_] at hw
 generalize at_ c p=d at hk hid hw
 cases d <;> simp [cj] at hk
 simp only [FK] at hid
 subst hid
 exact tC hw
theorem GB (hk:cj (at_ c p)=7) (hq:Q .normal T h):wpA cx n m (at_ c p) Q T h:=by
 generalize at_ c p=d at hk
 cases d <;> simp [cj] at hk
 exact wC hq
theorem bb (hk:cj (at_ c p)=8) (hq:Q .ret T h):wpA cx n m (at_ c p) Q T h:=by
 generalize at_ c p=d at hk
 cases d <;> simp [cj] at hk
 exact AR hq
theorem bC (id:Nat) (hk:cj (at_ c p)=9) (hid:FK (at_ c p)=id) (hq:Q (.exit id) T h):wpA cx n m (at_ c p) Q T h:=by
 generalize at_ c p=d at hk hid
 cases d <;> simp [cj] at hk
 simp only [FK] at hid
 subst hid
 exact vL hq
theorem Ig (hk:xK n (at_ c p)=true) (hw:kO cx (bOf n (at_ c p)) T h (fun T' h'=>Q .normal T' h')):wpA cx n m (at_ c p) Q T h:=by
 generalize at_ c p=d at hk hw
 unfold xK at hk
 split at hk <;> try (simp at hk;done)
 rename_i id ops
 obtain ⟨l,hl⟩:=Option.isSome_iff_exists.1 hk
 simp only [bOf,so,hl] at hw
 exact pp (iH _ _ _ _ hl hw)
theorem cK (hm:cx.P.follows .mixedOrders=true) (hk:GO n (at_ c p)=true) (hq:wd Q)
 (hw:gh cx (bOf n (at_ c p)) h.length T (h++gv (nAl (so (at_ c p)).toList)) [] (fun rs T' h'=>mE (so (at_ c p)) rs=true∧Q .normal T' h')):wpA cx n m (at_ c p) Q T h:=by
 generalize at_ c p=d at hk hw
 unfold GO at hk
 split at hk <;> try (simp at hk;done)
 rename_i id ops
 rw [Bool.and_eq_true] at hk
 obtain ⟨l,hl⟩:=Option.isSome_iff_exists.1 hk.1
 simp only [bOf,so,hl] at hw
 exact vH hm hk.2 hq (fl _ _ _ _ _ _ hl hw)
theorem bR {σ:Type} (S:σ→Tm) (H:σ→ac) (I:σ→Prop) (μ:σ→Nat) (s0:σ) (hk:cj (at_ c p)=4) (i0:I s0) (h0:hX m T h (S s0) (H s0))
 (round:∀ s,I s→wpA cx n m (at_ c (0::p)) (dy (fun T' h'=>∃ s',μ s'<μ s∧I s'∧hX m T' h' (S s') (H s')) Q) (S s) (H s)):wpA cx n m (at_ c p) Q T h:=by
 simp only [at_] at round
 generalize at_ c p=d at hk round
 cases d <;> simp [cj] at hk
 exact zt S H I μ s0 i0 h0 round
def rnd (cx:Cx) (n m:Nat) (d:Code) (Q:di):Nat→Tm→ac→Prop
 | 0,_,_=>False
 | j+1,T,h=>wpA cx n m d (dy (rnd cx n m d Q j) Q) T h
theorem Eh {d:Code} {j:Nat} (hr:rnd cx n m d Q j T h):wpA cx n m (.loop d) Q T h:=by
 refine pC (fun k T h=>rnd cx n m d Q k T h) j hr ?_
 intro k T h hk
 cases k with
 | zero=>exact hk.elim
 | succ k =>
  refine rJ hk ?_
  intro e T' h' q
  cases e with
  | normal=>exact ⟨k,Nat.lt_succ_self k,q⟩
  | _=>exact q
theorem J0 (j:Nat) (hk:cj (at_ c p)=4) (hr:rnd cx n m (at_ c (0::p)) Q j T h):wpA cx n m (at_ c p) Q T h:=by
 simp only [at_] at hr
 generalize at_ c p=d at hk hr
 cases d <;> simp [cj] at hk
 exact Eh hr
theorem fz {d:Code} {j:Nat} (hw:wpA cx n m d (dy (rnd cx n m d Q j) Q) T h):rnd cx n m d Q (j+1) T h:=hw
theorem rSt {d:Code} {j:Nat} (L:List Nat) (T':Tm) (h':ac) (hT:j6 L T=T') (hh:h=h') (hw:rnd cx n m d Q j T' h'):rnd cx n m d Q j T h:=by
 cases j with
 | zero=>exact hw.elim
 | succ j =>
  subst hT hh
  exact x6 (fun t=>sC L T t) hw
theorem wSt (L:List Nat) (T':Tm) (h':ac) (hT:j6 L T=T') (hh:h=h') {d:Code} (hw:wpA cx n m d Q T' h'):wpA cx n m d Q T h:=by
 subst hT hh
 exact x6 (fun t=>sC L T t) hw
theorem pJ (d sz:Nat) (hsz:0<sz) (hT:Tm.get T d=.full []) {d':Code} (hw:wpA cx n m d' Q ((d,.own h.length 0 0)::T) (h++[.arr sz [] 0])):wpA cx n m d' Q T h:=by
 intro E B ρ a w hm hr
 have hst:=b6 (h':=h++[.arr sz [] 0]) (w':=w) hr.wf hr.fr h.length (.arr sz [] 0) ⟨0,0,0⟩ ρ.I (getElem?_append_one _ _) (fun o' ho=>bH _ _ _ ho)
  rfl rfl rfl (Nat.le_refl _) (fun _ _ _=>rfl) zq (fun b j hI=>⟨hI,rfl⟩) (fun b j hI=>.inl hI)
  (fun hb=>by simp [ai.hasBlk] at hb) (fun j hb=>by simp [ai.hasBlk] at hb) (cf hr.wf)
  (fun _=>⟨Nat.le_refl _,Nat.le_refl _,hsz,by simp,fun hc=>by simp at hc⟩)
 have hr2:=hr.step hst.1 hst.2.1 hst.2.2
 refine hw E B _ a w hm ⟨fun t=>?_,hr2.size,hr2.defers,hr2.glob,hr2.wf,hr2.fr,hr2.le⟩
 simp only [Tm.get]
 by_cases e:d=t
 · subst e
   rw [if_pos rfl]
   have hv:=hr.tm d
   rw [hT] at hv
   obtain ⟨ad,hv2⟩:∃ ad,a.tmps.getD d undef=.slice ad 0 0:=by
    cases hce:a.tmps.getD d undef <;> rw [hce] at hv <;> cases hv
    exact ⟨_,rfl⟩
   rw [hv2]
   refine .own _ _ _ _ _ _ sz [] 0 (getElem?_append_one _ _) ⟨by simp,fun _=>⟨rfl,?_,fun h0=>by simp at h0⟩⟩
   rw [Ren.put_same]
 · rw [if_neg e];exact hr2.tm t
theorem aB {d:Code} {Q':di}:wd (dy (wpA cx n m d Q) Q'):=fun _ _ _ he hw=>AB he hw
theorem lG {id:Nat} (hq:wd Q):wd (AIn id Q):=fun T T' h he hw=>hq T T' h he hw
theorem LeL.ext {T T':Tm} (he:∀ t,Tm.get T t=Tm.get T' t):∀ {S:Tm},LeL T S→LeL T' S
 | [],_=>trivial
 | p::S,hl=>⟨(he p.1).symm.trans hl.1,LeL.ext he hl.2⟩
theorem hX.ext {T T' S:Tm} {g:ac} (he:∀ t,Tm.get T t=Tm.get T' t) (hf:hX m T h S g):hX m T' h S g:=⟨hf.le.ext he,hf.bel,hf.len,hf.heap,hf.objs⟩
theorem ri {P:Program} {T T':Tm} (he:∀ t,Tm.get T t=Tm.get T' t) (h:ac):∀ rs,eD P T h rs=eD P T' h rs
 | []=>rfl
 | .tmp t::rs=>by simp only [eD,ri he h rs,he t]
 | .cell a t::rs=>by simp only [eD,ri he h rs,he a]
theorem dt {rs:List ResultVar} {q:aa→ac→Prop}:wd (Fin cx rs m q):=by
 rintro T T' h he ⟨h1,l,h2,h3⟩
 exact ⟨h1,l,by rw [← ri he];exact h2,h3⟩
def hdB:List BOp→BOp
 | o::_=>o
 | []=>⟨none,none,.move (.const (.bool false))⟩
def bF:List BOp→Bool
 | _::_=>true
 | []=>false
abbrev RSt:=Tm×ac
def Hy (P:Program) (G:Nat→Option (List aa)) (o:BOp) (S:RSt):Option RSt:=match bI S.1 o.g with
 | some true=>match aop P S.2 (aev G S.1) o.op with
  | some r=>some (b4 S.1 o.dst r.1,r.2)
  | none=>none
 | some false=>some (b4 S.1 o.dst (.tup []),S.2)
 | none=>none
def lq (P:Program) (G:Nat→Option (List aa)):Nat→List BOp→RSt→Option RSt
 | 0,_,S=>some S
 | j+1,o::os,S=>match Hy P G o S with
  | some r=>lq P G j os r
  | none=>none
 | _+1,[],_=>none
def rS:Option RSt→RSt
 | some r=>r
 | none=>([],[])
def C3 (S:RSt) (d:Option Nat) (v:aa):RSt:=(b4 S.1 d v,S.2)
def Id (S:RSt) (d:Option Nat) (v:aa) (o:Nat) (x:ai):RSt:=(b4 S.1 d v,S.2.set o x)
def JF (S:RSt) (d:Option Nat) (v:aa) (os:List Nat):RSt:=(b4 S.1 d v,cb S.2 os)
def Hb (S:RSt) (d:Nat) (y:aa):RSt:=((d,y)::S.1,S.2)
structure bS (cx:Cx) (l:List BOp) (S:RSt) (K:Tm→ac→Prop):Prop where
 out:kO cx l S.1 S.2 K
variable {l:List BOp} {K:Tm→ac→Prop} {S:RSt}
theorem D7 (hk:bS cx l (T,h) K):kO cx l T h K:=hk.out
theorem FSa (j:Nat) (ho:(lq cx.P cx.G j l S).isSome=true) (hk:bS cx (l.drop j) (rS (lq cx.P cx.G j l S)) K):bS cx l S K:=by
 induction j generalizing l S with
 | zero=>simpa [lq,rS] using hk
 | succ j ih =>
  cases l with
  | nil=>simp [lq] at ho
  | cons o os =>
   simp only [lq] at ho hk
   cases h1:Hy cx.P cx.G o S with
   | none=>rw [h1] at ho;simp at ho
   | some r =>
    rw [h1] at ho hk
    have:=(ih ho (by simpa using hk)).out
    unfold Hy at h1
    refine ⟨?_⟩
    simp only [kO]
    split at h1
    · rename_i hg
      rw [hg]
      split at h1 <;> simp at h1
      rename_i q hq
      simp only [jK,hq,lc]
      subst h1
      exact this
    · rename_i hg
      rw [hg]
      simp at h1
      subst h1
      exact this
    · simp at h1
theorem AD {v:aa} {h':ac} (hc:bF l=true) (hg:bI S.1 (hdB l).g=some true) (ho:aop cx.P S.2 (aev cx.G S.1) (hdB l).op=some (v,h')) (hk:bS cx l.tail (b4 S.1 (hdB l).dst v,h') K):bS cx l S K:=by
 cases l with
 | nil=>simp [bF] at hc
 | cons o os =>
  refine ⟨?_⟩
  simp only [hdB] at hg ho
  simp only [kO,hg,jK,ho,lc]
  exact hk.out
theorem JH {v:aa} (hc:bF l=true) (hg:bI S.1 (hdB l).g=some true) (ho:aop cx.P S.2 (aev cx.G S.1) (hdB l).op=some (v,S.2)) (hk:bS cx l.tail (C3 S (hdB l).dst v) K):bS cx l S K:=AD hc hg ho hk
theorem I7 {v:aa} {o:Nat} {x:ai} (hc:bF l=true) (hg:bI S.1 (hdB l).g=some true) (ho:aop cx.P S.2 (aev cx.G S.1) (hdB l).op=some (v,S.2.set o x)) (hk:bS cx l.tail (Id S (hdB l).dst v o x) K):bS cx l S K:=AD hc hg ho hk
theorem wn {f:FuncId} {args:List aa} {q:aa→ac→Prop} (hc:bF l=true) (hg:bI S.1 (hdB l).g=some true) (ho:aop cx.P S.2 (aev cx.G S.1) (hdB l).op=none) (ha:aG (aev cx.G S.1) (hdB l).op=some (f,args)) (hq:av cx f args S.2 q)
 (hk:∀ v h',q v h'→bS cx l.tail (b4 S.1 (hdB l).dst v,h') K):bS cx l S K:=by
 cases l with
 | nil=>simp [bF] at hc
 | cons o os =>
  simp only [hdB] at hg ho ha
  refine ⟨?_⟩
  simp only [kO,hg,jK,ho,lc,ha,t8]
  exact hq.mono fun v h' q=>(hk v h' q).out
theorem Hu {f:FuncId} {args args':List aa} {v:aa} (hc:bF l=true) (hg:bI S.1 (hdB l).g=some true) (ho:aop cx.P S.2 (aev cx.G S.1) (hdB l).op=none) (ha:aG (aev cx.G S.1) (hdB l).op=some (f,args)) (hq:ay cx f args' v) (hf:bo S.2 args=args') (hb:bP 0 args'=true)
 (hk:bS cx l.tail (JF S (hdB l).dst v (aS args)) K):bS cx l S K :=
 wn hc hg ho ha (H1 (K:=fun v' h'=>v'=v∧h'=cb S.2 (aS args)) hq hf hb ⟨rfl,rfl⟩) (by rintro v' h' ⟨rfl,rfl⟩;exact hk)
theorem bp {f:FuncId} {args args':List aa} {v:aa} (hc:bF l=true) (hg:bI S.1 (hdB l).g=some true) (ho:aop cx.P S.2 (aev cx.G S.1) (hdB l).op=none) (ha:aG (aev cx.G S.1) (hdB l).op=some (f,args)) (hq:ay cx f args' v) (hf:bo S.2 args=args') (hb:bP 0 args'=true) (hw:aS args=[])
 (hk:bS cx l.tail (C3 S (hdB l).dst v) K):bS cx l S K :=
 Hu hc hg ho ha hq hf hb (by rw [hw];exact hk)
theorem s8 {L:List (aa×ac)} (hc:bF l=true) (hg:bI S.1 (hdB l).g=some true) (ho:aop cx.P S.2 (aev cx.G S.1) (hdB l).op=none) (ha:aG (aev cx.G S.1) (hdB l).op=none) (hx:anx cx.P S.2 (aev cx.G S.1) (hdB l).op=some L)
 (hk:∀ r,r∈L→bS cx l.tail (b4 S.1 (hdB l).dst r.1,r.2) K):bS cx l S K:=by
 cases l with
 | nil=>simp [bF] at hc
 | cons o os =>
  simp only [hdB] at hg ho ha hx
  refine ⟨?_⟩
  simp only [kO,hg,jK,ho,lc,ha,t8,hx,Gg]
  exact fun r hr=>(hk r hr).out
theorem Ht (hc:bF l=false) (hk:K S.1 S.2):bS cx l S K:=by
 cases l with
 | nil=>exact ⟨hk⟩
 | cons o os=>simp [bF] at hc
theorem rG {T S:Tm} (he:∀ t,Tm.get T t=Tm.get S t) (g:Option (Nat×Bool)):bI T g=bI S g:=by
 cases g with
 | none=>rfl
 | some q=>simp only [bI,he]
theorem j7 (hx:CJ K):∀ (l:List BOp) {T S:Tm} {h:ac},(∀ t,Tm.get T t=Tm.get S t)→kO cx l T h K→kO cx l S h K
 | [],T,S,h,he,hb=>hx T S h he hb
 | o::os,T,S,h,he,hb=>by
  have hp:∀ v t,Tm.get (b4 T o.dst v) t=Tm.get (b4 S o.dst v) t:=by
   intro v t
   rw [fJ,fJ,he]
  simp only [kO,rG he,uA (cx:=cx) he] at hb ⊢
  cases hg:bI S o.g with
  | none=>rw [hg] at hb;exact hb.elim
  | some t =>
   rw [hg] at hb
   cases t with
   | false=>exact j7 hx os (hp _) hb
   | true =>
    simp only [jK] at hb ⊢
    cases ho:aop cx.P h (aev cx.G S) o.op with
    | some r=>rw [ho] at hb;exact j7 hx os (hp _) hb
    | none =>
     rw [ho] at hb
     simp only [lc] at hb ⊢
     cases hcl:aG (aev cx.G S) o.op with
     | none =>
      rw [hcl] at hb
      simp only [t8] at hb ⊢
      cases hnx:anx cx.P h (aev cx.G S) o.op with
      | none=>rw [hnx] at hb;exact hb.elim
      | some L=>rw [hnx] at hb;exact fun r hr=>j7 hx os (hp _) (hb r hr)
     | some q =>
      rw [hcl] at hb
      exact av.mono hb fun v h' q=>j7 hx os (hp _) q
theorem gm (d:Nat) (x y:aa) (hx:CJ K) (hT:Tm.get S.1 d=x) (e:x=y) (hk:bS cx l (Hb S d y) K):bS cx l S K:=by
 refine ⟨j7 hx l (fun t=>?_) hk.out⟩
 show Tm.get ((d,y)::S.1) t=_
 simp only [Tm.get]
 by_cases hd:d=t
 · subst hd;rw [if_pos rfl,hT,e]
 · rw [if_neg hd]
theorem JG {d':Code} (d:Nat) (x y:aa) (hT:Tm.get T d=x) (e:x=y) (hk:wpA cx n m d' Q ((d,y)::T) h):wpA cx n m d' Q T h:=by
 refine AB (fun t=>?_) hk
 simp only [Tm.get]
 by_cases hd:d=t
 · subst hd;rw [if_pos rfl,hT,e]
 · rw [if_neg hd]
abbrev DSt:=Nat×Tm×ac×List (List Nat×List Nat)
def CO (P:Program) (G:Nat→Option (List aa)) (o:BOp) (s:DSt):Option DSt:=match bI s.2.1 o.g with
 | some true=>bif ey o.op then
  (match apl P (aev G s.2.1) o.op with
  | some cs=>bif jR s.2.2.1 s.1 then some (s.1+1,b4 s.2.1 o.dst (.ptr s.1 0),s.2.2.1.set s.1 (.box cs),s.2.2.2++[([s.1],[s.1])]) else none
  | none=>none)
  else match aop P s.2.2.1 (aev G s.2.1) o.op with
  | some r=>some (s.1,b4 s.2.1 o.dst r.1,r.2,s.2.2.2++[(ard (aev G s.2.1) o.op,awr s.2.2.1 (aev G s.2.1) o.op)])
  | none=>none
 | some false=>some (bif ey o.op then s.1+1 else s.1,b4 s.2.1 o.dst (.tup []),s.2.2.1,s.2.2.2++[([],[])])
 | none=>none
def sQ (P:Program) (G:Nat→Option (List aa)):Nat→List BOp→DSt→Option DSt
 | 0,_,s=>some s
 | j+1,o::os,s=>match CO P G o s with
  | some r=>sQ P G j os r
  | none=>none
 | _+1,[],_=>none
def dS:Option DSt→DSt
 | some r=>r
 | none=>(0,[],[],[])
structure bdr (cx:Cx) (l:List BOp) (s:DSt) (K:List (List Nat×List Nat)→Tm→ac→Prop):Prop where
 out:gh cx l s.1 s.2.1 s.2.2.1 s.2.2.2 K
variable {KD:List (List Nat×List Nat)→Tm→ac→Prop} {s:DSt}
theorem bv {k:Nat} {rs:List (List Nat×List Nat)} (hk:bdr cx l (k,T,h,rs) KD):gh cx l k T h rs KD:=hk.out
theorem JB (j:Nat) (ho:(sQ cx.P cx.G j l s).isSome=true) (hk:bdr cx (l.drop j) (dS (sQ cx.P cx.G j l s)) KD):bdr cx l s KD:=by
 induction j generalizing l s with
 | zero=>simpa [sQ,dS] using hk
 | succ j ih =>
  cases l with
  | nil=>simp [sQ] at ho
  | cons o os =>
   simp only [sQ] at ho hk
   cases h1:CO cx.P cx.G o s with
   | none=>rw [h1] at ho;simp at ho
   | some r =>
    rw [h1] at ho hk
    have:=(ih ho (by simpa using hk)).out
    unfold CO at h1
    refine ⟨?_⟩
    simp only [gh]
    split at h1
    · rename_i hg
      rw [hg]
      cases hal:ey o.op with
      | true =>
       rw [hal] at h1
       simp only [cond_true] at h1
       split at h1 <;> try (simp at h1;done)
       rename_i cs hcs
       cases hh:jR s.2.2.1 s.1 with
       | false=>rw [hh] at h1;simp at h1
       | true =>
        rw [hh] at h1
        simp at h1
        subst h1
        simp only [jK,hcs,FH]
        exact ⟨trivial,this⟩
      | false =>
       rw [hal] at h1
       simp only [cond_false] at h1
       split at h1 <;> simp at h1
       rename_i q hq
       simp only [jK,hq,lc]
       subst h1
       exact this
    · rename_i hg
      rw [hg]
      simp at h1
      subst h1
      exact this
    · simp at h1
def Eo (cx:Cx) (s:DSt) (o:BOp) (v:aa) (h':ac):DSt:=(s.1,b4 s.2.1 o.dst v,h',s.2.2.2++[(ard (aev cx.G s.2.1) o.op,awr s.2.2.1 (aev cx.G s.2.1) o.op)])
def IB (cx:Cx) (s:DSt) (o:BOp) (v:aa):DSt:=Eo cx s o v s.2.2.1
def I4 (cx:Cx) (s:DSt) (o:BOp) (v:aa) (ob:Nat) (x:ai):DSt:=Eo cx s o v (s.2.2.1.set ob x)
def IW (s:DSt) (o:BOp) (v:aa):DSt:=(s.1,b4 s.2.1 o.dst v,s.2.2.1,s.2.2.2++[([],[])])
def Jg (s:DSt) (d:Nat) (y:aa):DSt:=(s.1,(d,y)::s.2.1,s.2.2.1,s.2.2.2)
theorem GI {v:aa} {h':ac} (hc:bF l=true) (hg:bI s.2.1 (hdB l).g=some true) (hal:ey (hdB l).op=false) (ho:aop cx.P s.2.2.1 (aev cx.G s.2.1) (hdB l).op=some (v,h'))
 (hk:bdr cx l.tail (Eo cx s (hdB l) v h') KD):bdr cx l s KD:=by
 cases l with
 | nil=>simp [bF] at hc
 | cons o os =>
  simp only [hdB] at hg ho hal
  refine ⟨?_⟩
  simp only [gh,hg,jK,hal,ho,lc]
  exact hk.out
theorem JV {v:aa} (hc:bF l=true) (hg:bI s.2.1 (hdB l).g=some true) (hal:ey (hdB l).op=false) (ho:aop cx.P s.2.2.1 (aev cx.G s.2.1) (hdB l).op=some (v,s.2.2.1)) (hk:bdr cx l.tail (IB cx s (hdB l) v) KD):bdr cx l s KD:=GI hc hg hal ho hk
theorem Jk {v:aa} {ob:Nat} {x:ai} (hc:bF l=true) (hg:bI s.2.1 (hdB l).g=some true) (hal:ey (hdB l).op=false) (ho:aop cx.P s.2.2.1 (aev cx.G s.2.1) (hdB l).op=some (v,s.2.2.1.set ob x)) (hk:bdr cx l.tail (I4 cx s (hdB l) v ob x) KD):bdr cx l s KD:=GI hc hg hal ho hk
theorem z6 {f:FuncId} {args:List aa} {L:List Nat} {v:aa} {h':ac} (hc:bF l=true) (hg:bI s.2.1 (hdB l).g=some true) (hal:ey (hdB l).op=false) (ho:aop cx.P s.2.2.1 (aev cx.G s.2.1) (hdB l).op=none) (ha:aG (aev cx.G s.2.1) (hdB l).op=some (f,args))
 (hq:jf cx f args s.2.2.1 L v h') (hk:bdr cx l.tail (s.1,b4 s.2.1 (hdB l).dst v,h',s.2.2.2++[(L,L)]) KD):bdr cx l s KD:=by
 cases l with
 | nil=>simp [bF] at hc
 | cons o os =>
  simp only [hdB] at hg ho ha hal
  refine ⟨?_⟩
  simp only [gh,hg,jK,hal,ho,lc,ha,t8]
  exact ⟨L,v,h',hq,hk.out⟩
theorem cB {f:FuncId} {args args':List aa} {v:aa} (hc:bF l=true) (hg:bI s.2.1 (hdB l).g=some true) (hal:ey (hdB l).op=false) (ho:aop cx.P s.2.2.1 (aev cx.G s.2.1) (hdB l).op=none) (ha:aG (aev cx.G s.2.1) (hdB l).op=some (f,args))
 (hq:ay cx f args' v) (hf:∀ g,bo g args=args') (hb:bP 0 args'=true) (hw:aS args=[]) (hk:bdr cx l.tail (IW s (hdB l) v) KD):bdr cx l s KD :=
 z6 hc hg hal ho ha (yz hf hq hb hw) hk
theorem cn (hc:bF l=false) (hk:KD s.2.2.2 s.2.1 s.2.2.1):bdr cx l s KD:=by
 cases l with
 | nil=>exact ⟨hk⟩
 | cons o os=>simp [bF] at hc
theorem iF (hx:∀ rs,CJ (KD rs)):∀ (l:List BOp) {k:Nat} {T S:Tm} {h:ac} {rs:List (List Nat×List Nat)},(∀ t,Tm.get T t=Tm.get S t)→gh cx l k T h rs KD→gh cx l k S h rs KD
 | [],k,T,S,h,rs,he,hb=>hx rs T S h he hb
 | o::os,k,T,S,h,rs,he,hb=>by
  have hp:∀ v t,Tm.get (b4 T o.dst v) t=Tm.get (b4 S o.dst v) t:=by
   intro v t
   rw [fJ,fJ,he]
  simp only [gh,rG he,uA (cx:=cx) he] at hb ⊢
  cases hg:bI S o.g with
  | none=>rw [hg] at hb;exact hb.elim
  | some t =>
   rw [hg] at hb
   cases t with
   | false=>exact iF hx os (hp _) hb
   | true =>
    simp only [jK] at hb ⊢
    cases hal:ey o.op with
    | true =>
     rw [hal] at hb
     simp only at hb ⊢
     cases hpl:apl cx.P (aev cx.G S) o.op with
     | none=>rw [hpl] at hb;exact hb.elim
     | some cs=>rw [hpl] at hb;exact ⟨hb.1,iF hx os (hp _) hb.2⟩
    | false =>
     rw [hal] at hb
     simp only at hb ⊢
     cases ho:aop cx.P h (aev cx.G S) o.op with
     | some r=>rw [ho] at hb;exact iF hx os (hp _) hb
     | none =>
      rw [ho] at hb
      simp only [lc] at hb ⊢
      cases hcl:aG (aev cx.G S) o.op with
      | none=>rw [hcl] at hb;exact hb.elim
      | some q =>
       rw [hcl] at hb
       obtain ⟨L,v,h',q1,q2⟩:=hb
       exact ⟨L,v,h',q1,iF hx os (hp _) q2⟩
theorem fK (d:Nat) (x y:aa) (hx:∀ rs,CJ (KD rs)) (hT:Tm.get s.2.1 d=x) (e:x=y) (hk:bdr cx l (Jg s d y) KD):bdr cx l s KD:=by
 refine ⟨iF hx l (fun t=>?_) hk.out⟩
 show Tm.get ((d,y)::s.2.1) t=_
 simp only [Tm.get]
 by_cases hd:d=t
 · subst hd;rw [if_pos rfl,hT,e]
 · rw [if_neg hd]
theorem fI {ops:Array Oper} (hq:wd Q):∀ rs,CJ (fun T' h'=>mE ops rs=true∧Q .normal T' h'):=fun _ T T' h he ⟨h1,h2⟩=>⟨h1,hq T T' h he h2⟩
theorem gw (hq:wd Q):CJ (fun T' h'=>Q .normal T' h'):=fun T T' h he h2=>hq T T' h he h2
end
end Go.Proofs.YtdikgijfekfaoaaGreatDoor.Abs
namespace Go.Proofs.YtdikgijfekfaoaaGreatDoor.Abs
def G1 (ev:Operand→aa):Op→Option (Nat×aa×aa)
 | .index t x i=>some (t,ev x,ev i)
 | _=>none
def Gl (ev:Operand→aa):Op→Option (Nat×aa×aa)
 | .indexAddr t x i=>some (t,ev x,ev i)
 | _=>none
def xz (ev:Operand→aa):Op→Option (BinOp×aa×aa)
 | .binOp op _ x y _=>some (op,ev x,ev y)
 | _=>none
def IF (ev:Operand→aa):Op→Option aa
 | .unOp .neg _ x=>some (ev x)
 | _=>none
def Ia (ev:Operand→aa):Op→Option (Nat×Nat×aa)
 | .convert s d x=>some (s,d,ev x)
 | _=>none
def By (ev:Operand→aa):Op→Option (Nat×aa×Option aa×Option aa)
 | .slice t x lo hi none=>some (t,ev x,pc ev lo,pc ev hi)
 | _=>none
def sc (ev:Operand→aa):Op→Option (Builtin×List Nat×List aa)
 | .call { callee:=.builtin b,args,argTypes }=>some (b,argTypes.toList,iG ev args.toList)
 | _=>none
def Ao (ev:Operand→aa):Op→Option (Nat×aa×aa×Bool)
 | .lookup t m k ok=>some (t,ev m,ev k,ok)
 | _=>none
def If (ev:Operand→aa):Op→Option (Nat×aa×aa×aa)
 | .mapUpdate t m k x=>some (t,ev m,ev k,ev x)
 | .insert t m k x=>some (t,ev m,ev k,ev x)
 | _=>none
def GH (ev:Operand→aa):Op→Option (Nat×aa)
 | .load t a=>some (t,ev a)
 | _=>none
def zu (ev:Operand→aa):Op→Option (Nat×aa×aa)
 | .store t a x=>some (t,ev a,ev x)
 | _=>none
section
variable {P:Program} {h:ac} {ev:Operand→aa} {op:Op}
theorem Cf {t:Nat} {x:aa} {k:IntKind} {n:Int} (hv:G1 ev op=some (t,x,.int k n)):aop P h ev op=cR h (pW P t x n):=by
 unfold G1 at hv
 split at hv <;> simp at hv
 obtain ⟨rfl,rfl,h3⟩:=hv
 simp only [aop,h3]
theorem sI {t:Nat} {x:aa} {k:IntKind} {n:Int} (hv:Gl ev op=some (t,x,.int k n)):aop P h ev op=cR h (da P h t x n):=by
 unfold Gl at hv
 split at hv <;> simp at hv
 obtain ⟨rfl,rfl,h3⟩:=hv
 simp only [aop,h3]
theorem iX {α:Type} (l:List α) (k:Nat) (d:α) (h:k<l.length):l[k]?=some (l.getD k d):=by
 rw [List.getElem?_eq_getElem h,List.getD_eq_getElem?_getD,List.getElem?_eq_getElem h];rfl
theorem lC {t:Nat} {s:List UInt8} {k:IntKind} {i:Int} {a b:Nat} {z:aa} (hv:G1 ev op=some (t,.str s,.int k i)) (ht:ba P t=some ⟨.str,a,b,z⟩) (h0:0≤i) (h1:i<s.length) :
 aop P h ev op=some (.int .u8 (s.getD i.toNat 0).toNat,h):=by
 rw [Cf hv]
 have hlt:i.toNat<s.length:=by omega
 simp only [pW,ht,h0,if_true,iX s i.toNat 0 hlt,Option.map_some,cR]
theorem ax {α:Type} {t e:Nat} {enc:α→aa} {l:List α} {k:IntKind} {i:Int} {a b a' b':Nat} {z z':aa} {ek:TyK} (d:α) (hv:Gl ev op=some (t,.imm (l.map enc),.int k i)) (ht:ba P t=some ⟨.slice e,a,b,z⟩) (he:ba P e=some ⟨ek,a',b',z'⟩)
 (hs:∀ x,(enc x).cells.length=a') (h0:0≤i) (h1:i<l.length):aop P h ev op=some (.pimm (enc (l.getD i.toNat d)).cells 0,h):=by
 rw [sI hv]
 have hlt:i.toNat<l.length:=by omega
 have hc:0≤i∧i<((l.map enc).length:Nat):=by rw [List.length_map];exact ⟨h0,h1⟩
 simp only [da,ht,he,if_pos hc,List.getElem?_map,iX l i.toNat d hlt,Option.map_some,hs,if_true,cR]
theorem lQ {t e:Nat} {o off len:Nat} {k:IntKind} {i:Int} {a b a' b' sz fr:Nat} {es:List aa} {z z':aa} {ek:TyK} (hv:Gl ev op=some (t,.own o off len,.int k i)) (ht:ba P t=some ⟨.slice e,a,b,z⟩) (he:ba P e=some ⟨ek,a',b',z'⟩)
 (ho:h[o]?=some (.arr sz es fr)) (hs:sz=a') (hl:off+len=es.length) (h0:0≤i) (h1:i<len):aop P h ev op=some (.pown o (off+i.toNat) 0 es.length,h):=by
 rw [sI hv]
 simp only [da,ht,he,ho]
 rw [if_pos ⟨hl,hs,h0,h1⟩]
 rfl
theorem uB {t:Nat} {o idx off k:Nat} {sz fr:Nat} {es:List aa} {x v:aa} (hv:GH ev op=some (t,.pown o idx off k)) (ho:h[o]?=some (.arr sz es fr)) (hl:es.length=k) (hx:es[idx]?=some x) (hld:kd P t x.cells off=some v):aop P h ev op=some (v,h):=by
 unfold GH at hv
 split at hv <;> simp at hv
 obtain ⟨rfl,h2⟩:=hv
 simp only [aop,h2,k8,ho,hl,if_true,hx,Option.map_some,hld,cR]
theorem FZ {t:Nat} {o idx off k:Nat} {sz fr:Nat} {es:List aa} {x y:aa} {i:TyI} (hv:zu ev op=some (t,.pown o idx off k,x)) (ho:h[o]?=some (.arr sz es fr)) (hl:es.length=k) (hf:fr≤idx) (hy:es[idx]?=some y) (ht:ba P t=some i)
 (hok:x.cells.length=i.size∧x.cells.all aa.cellOk=true) (h0:off=0) (hsz:y.cells.length=i.size) (hw:y.withCells x.cells=some x):aop P h ev op=some (.any,h.set o (.arr sz (es.set idx x) fr)):=by
 unfold zu at hv
 split at hv <;> simp at hv
 obtain ⟨rfl,h2,h3⟩:=hv
 subst h0
 have hsp:eZ y.cells 0 x.cells=x.cells:=by
  simp only [eZ,List.take_zero,List.nil_append,Nat.zero_add]
  rw [List.drop_eq_nil_of_le oq,List.append_nil]
 simp only [aop,h2,h3,eA,ht,ho]
 rw [if_pos hok]
 simp only [hl,hf,hy,hsz,hsp,hw,Nat.zero_add,Nat.le_refl,and_self,if_true,rj]
theorem fS {b:Builtin} {ats:List Nat} {xs:List aa} (hv:sc ev op=some (b,ats,xs)):aop P h ev op=cW P h b ats xs:=by
 unfold sc at hv
 split at hv <;> simp at hv
 obtain ⟨rfl,rfl,rfl⟩:=hv
 rfl
theorem au {α:Type} {t e:Nat} {enc:α→aa} {l:List α} {a b:Nat} {z:aa} (hv:sc ev op=some (.len,[t],[.imm (l.map enc)])) (ht:ba P t=some ⟨.slice e,a,b,z⟩):aop P h ev op=some (.int .i64 (l.length:Nat),h):=by
 rw [fS hv]
 simp [cW,ht,TyK.lenOk,uW]
theorem mz {t e:Nat} {o off len:Nat} {a b sz fr:Nat} {es:List aa} {z:aa} (hv:sc ev op=some (.len,[t],[.own o off len])) (ht:ba P t=some ⟨.slice e,a,b,z⟩) (ho:h[o]?=some (.arr sz es fr)) (hl:off+len=es.length):aop P h ev op=some (.int .i64 (len:Nat),h):=by
 rw [fS hv]
 simp [cW,ht,TyK.lenOk,uW,ho,hl]
theorem wo {t t' e:Nat} {o len:Nat} {a b a' b' a2 b2 sz fr:Nat} {es src:List aa} {z z' z2:aa} {ek k2:TyK} {e2:Nat} {x:aa} (hv:sc ev op=some (.append,[t,t'],[.own o 0 len,x])) (ht:ba P t=some ⟨.slice e,a,b,z⟩) (he:ba P e=some ⟨ek,a',b',z'⟩) (ht':ba P t'=some ⟨k2,a2,b2,z2⟩) (hk2:k2=.slice e2)
 (ho:h[o]?=some (.arr sz es fr)) (hsz:sz=a') (hl:len=es.length) (hx:gZ h x=some src) (hc:0<a'∧z'.cells.length=a'∧gg a' src=true) (hf:jp (len+src.length) b'=true) :
 aop P h ev op=some (.own o 0 (len+src.length),h.set o (.arr sz (es++src) fr)):=by
 rw [fS hv]
 subst hk2
 simp only [cW,kA,ht,he,ht',hx]
 rw [if_pos hc]
 simp only [ho]
 rw [if_pos ⟨hl,hsz,hf⟩]
theorem bh {α:Type} {enc:α→aa} {l xs:List α} {t t' e:Nat} {o len:Nat} {a b a' b' a2 b2 sz fr:Nat} {z z' z2:aa} {ek k2:TyK} {e2:Nat} {x:aa} (hv:sc ev op=some (.append,[t,t'],[.own o 0 len,x])) (ht:ba P t=some ⟨.slice e,a,b,z⟩) (he:ba P e=some ⟨ek,a',b',z'⟩) (ht':ba P t'=some ⟨k2,a2,b2,z2⟩) (hk2:k2=.slice e2)
 (ho:h[o]?=some (.arr sz (l.map enc) fr)) (hsz:sz=a') (hl:len=l.length) (hx:gZ h x=some (xs.map enc)) (hz:0<a'∧z'.cells.length=a') (hok:∀ q,((enc q).cells.length==a' && (enc q).cells.all aa.cellOk)=true) (hf:(l.length+xs.length) * b'≤140737488355328) (hf2:l.length+xs.length≤140737488355328) :
 aop P h ev op=some (.own o 0 (l++xs).length,h.set o (.arr sz ((l++xs).map enc) fr)):=by
 have:=wo (h:=h) hv ht he ht' hk2 ho hsz (by rw [hl,List.length_map]) hx ⟨hz.1,hz.2,by
  unfold gg
  rw [List.all_eq_true]
  intro q hq
  obtain ⟨r,_,rfl⟩:=List.mem_map.1 hq
  exact hok r⟩ (by rw [List.length_map,hl];simp [jp];exact ⟨hf,hf2⟩)
 rw [this]
 simp [hl]
theorem fP {b:BinOp} {x y:aa} (hv:xz ev op=some (b,x,y)):∃ t,aop P h ev op=cR h (oC P b t x y):=by
 unfold xz at hv
 split at hv <;> simp at hv
 obtain ⟨rfl,rfl,rfl⟩:=hv
 exact ⟨_,rfl⟩
theorem jM (n:Int) (h0:-9223372036854775808≤n) (h1:n≤9223372036854775807):IntKind.i64.wrap n=n:=by
 unfold IntKind.wrap IntKind.bits IntKind.signed
 simp
 omega
theorem aN {a b:Int} (hv:xz ev op=some (.add,.int .i64 a,.int .i64 b)) (h0:-9223372036854775808≤a+b) (h1:a+b≤9223372036854775807):aop P h ev op=some (.int .i64 (a+b),h):=by
 obtain ⟨t,e⟩:=fP (P:=P) (h:=h) hv
 rw [e];simp [oC,jM _ h0 h1,cR]
theorem Az {a b:Int} (hv:xz ev op=some (.sub,.int .i64 a,.int .i64 b)) (h0:-9223372036854775808≤a - b) (h1:a - b≤9223372036854775807):aop P h ev op=some (.int .i64 (a - b),h):=by
 obtain ⟨t,e⟩:=fP (P:=P) (h:=h) hv
 rw [e];simp [oC,jM _ h0 h1,cR]
theorem xQ {a b:Int} (hv:xz ev op=some (.mul,.int .i64 a,.int .i64 b)) (h0:-9223372036854775808≤a * b) (h1:a * b≤9223372036854775807):aop P h ev op=some (.int .i64 (a * b),h):=by
 obtain ⟨t,e⟩:=fP (P:=P) (h:=h) hv
 rw [e];simp [oC,jM _ h0 h1,cR]
theorem GL {a b:Int} (hv:xz ev op=some (.quo,.int .i64 a,.int .i64 b)) (hb:b≠0) (h0:-9223372036854775808≤a.tdiv b) (h1:a.tdiv b≤9223372036854775807):aop P h ev op=some (.int .i64 (a.tdiv b),h):=by
 obtain ⟨t,e⟩:=fP (P:=P) (h:=h) hv
 rw [e];simp [oC,hb,jM _ h0 h1,cR]
theorem AU {a b:Int} (hv:xz ev op=some (.rem,.int .i64 a,.int .i64 b)) (hb:b≠0):aop P h ev op=some (.int .i64 (a.tmod b),h):=by
 obtain ⟨t,e⟩:=fP (P:=P) (h:=h) hv
 rw [e];simp [oC,hb,cR]
theorem IA {k k':IntKind} {a j:Nat} {z:Int} (hv:xz ev op=some (.shr,.int k (a:Nat),.int k' z)) (hz:z=(j:Nat)) (hj:j≤k.bits):aop P h ev op=some (.int k ((a / 2 ^ j:Nat):Int),h):=by
 obtain ⟨t,e⟩:=fP (P:=P) (h:=h) hv
 subst hz
 rw [e]
 have h1:¬ ((j:Int)<0):=by omega
 have h2:min ((j:Int)).toNat k.bits=j:=by simp;omega
 simp only [oC,if_neg h1,h2,cR]
 congr 3
 have h3:(0:Int)≤(2:Int) ^ j:=Int.le_of_lt (Int.pow_pos dq)
 rw [Int.fdiv_eq_ediv_of_nonneg _ h3]
 simp
theorem I5 {a:Int} (hv:IF ev op=some (.int .i64 a)) (h0:-9223372036854775808≤-a) (h1:-a≤9223372036854775807):aop P h ev op=some (.int .i64 (-a),h):=by
 unfold IF at hv
 split at hv <;> simp at hv
 have:(0 - a)=-a:=by omega
 simp [aop,hv,aun,this,jM _ h0 h1,cR]
theorem Ew {s d a b:Nat} {z:aa} {k k':IntKind} {n:Int} {i:TyI} (hv:Ia ev op=some (s,d,.int k n)) (hs:ba P s=some i) (hd:ba P d=some ⟨.int k',a,b,z⟩) (hw:k'.wrap n=n):aop P h ev op=some (.int k' n,h):=by
 unfold Ia at hv
 split at hv <;> simp at hv
 obtain ⟨rfl,rfl,h3⟩:=hv
 simp [aop,h3,AE,hs,hd,hw,cR]
theorem tu {t:Nat} {x:aa} {lo hi:Option aa} (hv:By ev op=some (t,x,lo,hi)):aop P h ev op=cR h (ja P h t x lo hi):=by
 unfold By at hv
 split at hv <;> simp at hv
 obtain ⟨rfl,rfl,rfl,rfl⟩:=hv
 rfl
def BZ:Option aa→Option Int
 | none=>some 0
 | some (.int _ n)=>some n
 | _=>none
def yM (len:Nat):Option aa→Option Int
 | none=>some len
 | some (.int _ n)=>some n
 | _=>none
theorem qg {len:Nat} {lo hi:Option aa} {a b:Int} (hlo:BZ lo=some a) (hhi:yM len hi=some b) (h0:0≤a) (h1:a≤b) (h2:b≤len):eI len lo hi=some (a.toNat,b.toNat):=by
 have c1:(hi=none∧b=len)∨∃ k,hi=some (.int k b):=by
  cases hi with
  | none=>simp [yM] at hhi;exact .inl ⟨rfl,hhi.symm⟩
  | some v=>cases v <;> simp [yM] at hhi;subst hhi;exact .inr ⟨_,rfl⟩
 have c2:(lo=none∧a=0)∨∃ k,lo=some (.int k a):=by
  cases lo with
  | none=>simp [BZ] at hlo;exact .inl ⟨rfl,hlo.symm⟩
  | some v=>cases v <;> simp [BZ] at hlo;subst hlo;exact .inr ⟨_,rfl⟩
 have g1:0≤b∧b≤len:=⟨by omega,h2⟩
 have g2:0≤a∧a≤(b.toNat:Nat):=⟨h0,by omega⟩
 have g3:0≤a∧a≤len:=⟨h0,by omega⟩
 rcases c1 with ⟨rfl,rfl⟩|⟨k,rfl⟩ <;> rcases c2 with ⟨rfl,rfl⟩|⟨k',rfl⟩ <;> simp only [eI,if_pos g1,if_pos g2,if_pos g3,Int.toNat_natCast,Int.toNat_zero]
theorem xA {t a b:Nat} {z:aa} {s:List UInt8} {lo hi:Option aa} {x y:Int} (hv:By ev op=some (t,.str s,lo,hi)) (ht:ba P t=some ⟨.str,a,b,z⟩) (hlo:BZ lo=some x) (hhi:yM s.length hi=some y) (h0:0≤x) (h1:x≤y) (h2:y≤s.length) :
 aop P h ev op=some (.str ((s.take y.toNat).drop x.toNat),h):=by
 rw [tu hv]
 simp [ja,ht,qg hlo hhi h0 h1 h2,cR]
theorem tc {t a b:Nat} {z:aa} {s:List UInt8} {lo:Option aa} {x:Int} (hv:By ev op=some (t,.str s,lo,none)) (ht:ba P t=some ⟨.str,a,b,z⟩) (hlo:BZ lo=some x) (h0:0≤x) (h1:x≤s.length) :
 aop P h ev op=some (.str (s.drop x.toNat),h):=by
 have:=xA (h:=h) (y:=(s.length:Nat)) hv ht hlo rfl h0 h1 (Int.le_refl _)
 simpa using this
theorem Af {t a b:Nat} {z:aa} {s:List UInt8} {hi:Option aa} {y:Int} (hv:By ev op=some (t,.str s,none,hi)) (ht:ba P t=some ⟨.str,a,b,z⟩) (hhi:yM s.length hi=some y) (h1:0≤y) (h2:y≤s.length) :
 aop P h ev op=some (.str (s.take y.toNat),h):=by
 have:=xA (h:=h) (x:=0) hv ht rfl hhi (Int.le_refl _) h1 h2
 simpa using this
theorem fe {α:Type} {enc:α→aa} {l:List α} {t e a b a' b':Nat} {z z':aa} {ek:TyK} {lo hi:Option aa} {x y:Int} (hv:By ev op=some (t,.imm (l.map enc),lo,hi)) (ht:ba P t=some ⟨.slice e,a,b,z⟩) (he:ba P e=some ⟨ek,a',b',z'⟩) (hs:∀ x,(enc x).cells.length=a')
 (hlo:BZ lo=some x) (hhi:yM l.length hi=some y) (h0:0≤x) (h1:x≤y) (h2:y≤l.length):aop P h ev op=some (.imm (((l.take y.toNat).drop x.toNat).map enc),h):=by
 rw [tu hv]
 have hr:ge a' (l.map enc)=true:=by
  unfold ge
  rw [List.all_eq_true]
  intro q hq
  obtain ⟨r,_,rfl⟩:=List.mem_map.1 hq
  simp [hs]
 have hhi':yM (l.map enc).length hi=some y:=by rw [List.length_map];exact hhi
 simp only [ja,ht,he,hr,if_true,qg hlo hhi' h0 h1 (by rw [List.length_map];exact h2),cR,Option.map_some,List.map_drop,List.map_take]
theorem uf {α:Type} (l:List α) (enc:α→aa) (k:Nat) (d:α) (h:k<l.length):(l.map enc)[k]?=some (enc (l.getD k d)):=by
 rw [List.getElem?_map,iX l k d h];rfl
end
theorem eP {cx:Cx} {T:Tm} {h:ac} {rs:List ResultVar} {e:Exit} {l:List aa} {v:aa} (he:e=.normal∨e=.ret) (hl:eD cx.P T h rs=some l) (hv:(aK l).frz h=v∧v.bel 0=true) :
 Fin cx rs 0 (fun v' h'=>v'=v∧h'=[]) e T h:=jO he hl hv.1 hv.2
section
variable {cx:Cx} {T:Tm} {h:ac} {rs:List ResultVar} {e:Exit}
theorem aH {b b':Bool} (he:e=.normal∨e=.ret) (hl:eD cx.P T h rs=some [.bool b]) (hv:b=b'):Fin cx rs 0 (fun v' h'=>v'=.bool b'∧h'=[]) e T h:=jO he hl (by rw [hv];rfl) rfl
theorem b8 {k:IntKind} {n n':Int} (he:e=.normal∨e=.ret) (hl:eD cx.P T h rs=some [.int k n]) (hv:n=n'):Fin cx rs 0 (fun v' h'=>v'=.int k n'∧h'=[]) e T h:=jO he hl (by rw [hv];rfl) rfl
theorem e6 {k k':IntKind} {n n' m m':Int} (he:e=.normal∨e=.ret) (hl:eD cx.P T h rs=some [.int k n,.int k' m]) (hv:n=n'∧m=m'):Fin cx rs 0 (fun v' h'=>v'=.tup [.int k n',.int k' m']∧h'=[]) e T h:=jO he hl (by rw [hv.1,hv.2];rfl) rfl
theorem pK {k:IntKind} {n n':Int} {b b':Bool} (he:e=.normal∨e=.ret) (hl:eD cx.P T h rs=some [.int k n,.bool b]) (hv:n=n'∧b=b'):Fin cx rs 0 (fun v' h'=>v'=.tup [.int k n',.bool b']∧h'=[]) e T h:=jO he hl (by rw [hv.1,hv.2];rfl) rfl
end
section
variable {a b:UInt8} {x y:Int} (ha:((a.toNat:Nat):Int)=x) (hb:((b.toNat:Nat):Int)=y)
include ha hb
theorem fD (h:a=b):(x==y)=true:=by
 subst ha hb;simp [UInt8.lt_iff_toNat_lt,UInt8.le_iff_toNat_le,← UInt8.toNat_inj] at h ⊢;try omega
theorem fH (h:¬ (a=b)):(x==y)=false:=by
 subst ha hb;simp [UInt8.lt_iff_toNat_lt,UInt8.le_iff_toNat_le,← UInt8.toNat_inj] at h ⊢;try omega
theorem AL (h:a=b):(x != y)=false:=by
 subst ha hb;simp [UInt8.lt_iff_toNat_lt,UInt8.le_iff_toNat_le,← UInt8.toNat_inj] at h ⊢;try omega
theorem AX (h:¬ (a=b)):(x != y)=true:=by
 subst ha hb;simp [UInt8.lt_iff_toNat_lt,UInt8.le_iff_toNat_le,← UInt8.toNat_inj] at h ⊢;try omega
theorem EJ (h:a≤b):(decide (x≤y))=true:=by
 subst ha hb;simp [UInt8.lt_iff_toNat_lt,UInt8.le_iff_toNat_le,← UInt8.toNat_inj] at h ⊢;try omega
theorem Gs (h:¬ (a≤b)):(decide (x≤y))=false:=by
 subst ha hb;simp [UInt8.lt_iff_toNat_lt,UInt8.le_iff_toNat_le,← UInt8.toNat_inj] at h ⊢;try omega
theorem Gn (h:b≤a):(decide (x ≥ y))=true:=by
 subst ha hb;simp [UInt8.lt_iff_toNat_lt,UInt8.le_iff_toNat_le,← UInt8.toNat_inj] at h ⊢;try omega
theorem EL (h:¬ (b≤a)):(decide (x ≥ y))=false:=by
 subst ha hb;simp [UInt8.lt_iff_toNat_lt,UInt8.le_iff_toNat_le,← UInt8.toNat_inj] at h ⊢;try omega
end
theorem dn {α:Type} {enc:α→aa} (h:ac) (he:∀ x,(enc x).frz h=enc x):∀ l:List α,bo h (l.map enc)=l.map enc
 | []=>rfl
 | x::l=>by simp [bo,he,dn h he l]
theorem io {α:Type} {enc:α→aa} (k:Nat) (he:∀ x,(enc x).bel k=true):∀ l:List α,bP k (l.map enc)=true
 | []=>rfl
 | x::l=>by simp [bP,he,io k he l]
theorem fT {α:Type} {enc:α→aa} (he:∀ x,(enc x).owns=[]):∀ l:List α,aS (l.map enc)=[]
 | []=>rfl
 | x::l=>by simp [aS,he,fT he l]
@[simp] theorem Bb (h:ac) (l:List (List UInt8)):bo h (l.map .str)=l.map .str:=dn h (fun _=>rfl) l
@[simp] theorem Ck (k:Nat) (l:List (List UInt8)):bP k (l.map .str)=true:=io k (fun _=>rfl) l
@[simp] theorem yl (l:List (List UInt8)):aS (l.map .str)=[]:=fT (fun _=>rfl) l
@[simp] theorem HO (h:ac) (k:IntKind) (l:List Int):bo h (l.map (.int k))=l.map (.int k):=dn h (fun _=>rfl) l
@[simp] theorem HQ (j:Nat) (k:IntKind) (l:List Int):bP j (l.map (.int k))=true:=io j (fun _=>rfl) l
@[simp] theorem Ho (k:IntKind) (l:List Int):aS (l.map (.int k))=[]:=fT (fun _=>rfl) l
attribute [simp] bo aa.frz bP aa.bel aS aa.owns cb
end Go.Proofs.YtdikgijfekfaoaaGreatDoor.Abs
namespace Go.Proofs.YtdikgijfekfaoaaGreatDoor.Abs
def am {κ α:Type} [DecidableEq κ] (k:κ):List (κ×α)→Option α
 | []=>none
 | p::l=>if k=p.1 then some p.2 else am k l
def aJ {κ α:Type} [DecidableEq κ] (k:κ) (v:α):List (κ×α)→List (κ×α)
 | []=>[(k,v)]
 | p::l=>if k=p.1 then (k,v)::l else p::aJ k v l
def ae {κ α:Type} (ek:κ→aa) (ev:α→aa) (l:List (κ×α)):List (aa×aa):=l.map fun p=>(ek p.1,ev p.2)
section
variable {κ α:Type} [DecidableEq κ] {ek:κ→aa} {ev:α→aa}
theorem kx {v:α} (he:∀ a b,gC (ek a) (ek b)=some (decide (a=b))) (k:κ):∀ (l:List (κ×α)) (i:Nat),
 (am k l=none∧gW (ek k) (ae ek ev l) i=some none∧ae ek ev (aJ k v l)=ae ek ev l++[(ek k,ev v)]) ∨
 ∃ n x,am k l=some x∧gW (ek k) (ae ek ev l) i=some (some (i+n,ev x))∧ae ek ev (aJ k v l)=(ae ek ev l).set n (ek k,ev v)
 | [],i=>.inl ⟨rfl,rfl,rfl⟩
 | p::l,i=>by
  by_cases e:k=p.1
  · right
    refine ⟨0,p.2,by simp [am,e],?_,by simp [aJ,ae,e]⟩
    simp only [ae,List.map_cons,gW,he,decide_eq_true e,Nat.add_zero]
  · rcases kx he k l (i+1) (v:=v) with ⟨h1,h2,h3⟩|⟨n,x,h1,h2,h3⟩
    · left
      refine ⟨by simp [am,e,h1],?_,?_⟩
      · simp only [ae,List.map_cons,gW,he,decide_eq_false e];exact h2
      · simp only [aJ,if_neg e];simp only [ae,List.map_cons,List.cons_append] at h3 ⊢;rw [h3]
    · right
      refine ⟨n+1,x,by simp [am,e,h1],?_,?_⟩
      · simp only [ae,List.map_cons,gW,he,decide_eq_false e];rw [show i+(n+1)=i+1+n by omega];exact h2
      · simp only [aJ,if_neg e];simp only [ae,List.map_cons,List.set_cons_succ] at h3 ⊢;rw [h3]
variable {P:Program} {h:ac} {env:Operand→aa} {op:Op}
theorem e8 {t kt et:Nat} {a b a1 b1:Nat} {z z1:aa} {k1:TyK} {ei:TyI} {o:Nat} {l:List (κ×α)} {k:κ} {ok:Bool} (he:∀ a b,gC (ek a) (ek b)=some (decide (a=b))) (hm:am k l=none) (hv:Ao env op=some (t,.map o,ek k,ok)) (ht:ba P t=some ⟨.map kt et,a,b,z⟩) (hk:ba P kt=some ⟨k1,a1,b1,z1⟩) (hko:k1.keyOk (ek k)=true) (hel:ba P et=some ei)
 (ho:h[o]?=some (.map (ae ek ev l))):aop P h env op=some (if ok then .tup [ei.zero,.bool false] else ei.zero,h):=by
 unfold Ao at hv
 split at hv <;> simp at hv
 obtain ⟨rfl,h2,h3,rfl⟩:=hv
 simp only [aop,h2,h3,gR,ht,hk,hel,hko,if_true,ho]
 cases l with
 | nil=>simp [ae,gW,cR]
 | cons p l =>
  rcases kx (ev:=ev) (v:=p.2) he k (p::l) 0 with ⟨h1,h4,_⟩|⟨n,x,h1,h4,_⟩
  · rw [h4];simp [cR]
  · rw [hm] at h1;cases h1
theorem cH {t kt et:Nat} {a b a1 b1:Nat} {z z1:aa} {k1:TyK} {ei:TyI} {o:Nat} {l:List (κ×α)} {k:κ} {x:α} {ok:Bool} (he:∀ a b,gC (ek a) (ek b)=some (decide (a=b))) (hm:am k l=some x) (hv:Ao env op=some (t,.map o,ek k,ok)) (ht:ba P t=some ⟨.map kt et,a,b,z⟩) (hk:ba P kt=some ⟨k1,a1,b1,z1⟩) (hko:k1.keyOk (ek k)=true) (hel:ba P et=some ei)
 (ho:h[o]?=some (.map (ae ek ev l))):aop P h env op=some (if ok then .tup [ev x,.bool true] else ev x,h):=by
 unfold Ao at hv
 split at hv <;> simp at hv
 obtain ⟨rfl,h2,h3,rfl⟩:=hv
 simp only [aop,h2,h3,gR,ht,hk,hel,hko,if_true,ho]
 rcases kx (ev:=ev) (v:=x) he k l 0 with ⟨h1,h4,_⟩|⟨n,y,h1,h4,_⟩
 · rw [hm] at h1;cases h1
 · rw [hm] at h1;cases h1;rw [h4];simp [cR]
theorem dc {t kt et:Nat} {a b a1 b1:Nat} {z z1:aa} {k1:TyK} {o:Nat} {l:List (κ×α)} {k:κ} {x:α} (he:∀ a b,gC (ek a) (ek b)=some (decide (a=b))) (hv:If env op=some (t,.map o,ek k,ev x)) (ht:ba P t=some ⟨.map kt et,a,b,z⟩) (hk:ba P kt=some ⟨k1,a1,b1,z1⟩) (hko:k1.keyOk (ek k)=true)
 (ho:h[o]?=some (.map (ae ek ev l))) (hn:yW h o=true):aop P h env op=some (.any,h.set o (.map (ae ek ev (aJ k x l)))):=by
 have key:co P h t (.map o) (ek k) (ev x)=some (h.set o (.map (ae ek ev (aJ k x l)))):=by
  simp only [co,ht,hk,ho]
  rw [if_pos ⟨hko,hn⟩]
  rcases kx (ev:=ev) (v:=x) he k l 0 with ⟨h1,h4,h5⟩|⟨n,y,h1,h4,h5⟩
  · rw [h4,h5]
  · rw [h4,h5];simp
 unfold If at hv
 split at hv <;> simp at hv
 · obtain ⟨rfl,h2,h3,h4⟩:=hv
   simp only [aop,h2,h3,h4,key,rj]
 · obtain ⟨rfl,h2,h3,h4⟩:=hv
   simp only [aop,h2,h3,h4,key,rj]
theorem Hz {t kt et:Nat} {a b:Nat} {z:aa} {o:Nat} {l:List (κ×α)} (hv:sc env op=some (.len,[t],[.map o])) (ht:ba P t=some ⟨.map kt et,a,b,z⟩) (ho:h[o]?=some (.map (ae ek ev l))):aop P h env op=some (.int .i64 (l.length:Nat),h):=by
 rw [fS hv]
 simp [cW,ht,TyK.lenOk,uW,ho,ae]
end
theorem dH (a b:Int):gC (.int .i64 a) (.int .i64 b)=some (decide (a=b)):=by simp [gC];rfl
theorem pw (a b:List UInt8):gC (.str a) (.str b)=some (decide (a=b)):=by
 simp only [gC];congr 1;rw [Bool.eq_iff_iff];simp
theorem rh {p:Prop} (h:p:=by simpa [aa.bel] using h):p:=h
mutual
theorem rI {r:Nat→Nat} {k:Nat} (hr:∀ i,i<k→r i=i):∀ x:aa,x.bel k=true→x.ren r=x
 | .agg cs,h=>by simp only [aa.ren,eK hr cs h]
 | .tup cs,h=>by simp only [aa.ren,eK hr cs h]
 | .ptr o _,h=>by simp only [aa.ren,hr o rh]
 | .pimm cs _,h=>by simp only [aa.ren,eK hr cs h]
 | .pown o _ _ _,h=>by simp only [aa.ren,hr o rh]
 | .imm l,h=>by simp only [aa.ren,eK hr l h]
 | .full l,h=>by simp only [aa.ren,eK hr l h]
 | .own o _ _,h=>by simp only [aa.ren,hr o rh]
 | .map o,h=>by simp only [aa.ren,hr o rh]
 | .fn _ xs ys,h=>by
  simp only [aa.bel,Bool.and_eq_true] at h
  simp only [aa.ren,eK hr xs h.1,eK hr ys h.2]
 | .itr o,h=>by simp only [aa.ren,hr o rh]
 | .iface _ v,h=>by simp only [aa.ren,rI hr v h]
 | .any,_=>rfl
 | .bool _,_=>rfl
 | .int _ _,_=>rfl
 | .str _,_=>rfl
 | .nilp,_=>rfl
 | .nilm,_=>rfl
 | .nilfn,_=>rfl
 | .nili,_=>rfl
theorem eK {r:Nat→Nat} {k:Nat} (hr:∀ i,i<k→r i=i):∀ xs:List aa,bP k xs=true→bV r xs=xs
 | [],_=>rfl
 | x::xs,h=>by
  simp only [bP,Bool.and_eq_true] at h
  simp only [bV,rI hr x h.1,eK hr xs h.2]
end
theorem iU {r:Nat→Nat} {k:Nat} (hr:∀ i,i<k→r i=i):∀ es:List (aa×aa),(es.all fun e=>e.1.bel k && e.2.bel k)=true→ix r es=es
 | [],_=>rfl
 | e::es,h=>by
  simp only [List.all_cons,Bool.and_eq_true] at h
  simp only [ix,rI hr _ h.1.1,rI hr _ h.1.2,iU hr es h.2]
theorem AI {r:Nat→Nat} {k:Nat} (hr:∀ i,i<k→r i=i) (x:ai) (h:x.belO k=true):x.ren r=x:=by
 cases x <;> simp only [ai.ren,ai.belO] at h ⊢
 · rw [eK hr _ h]
 · rw [eK hr _ h]
 · rw [iU hr _ h]
 · rw [hr _ (by simpa using h)]
theorem A4 {r:Nat→Nat} {k:Nat} (hr:∀ i,i<k→r i=i):∀ hs:ac,hs.all (ai.belO k)=true→dB r hs=hs
 | [],_=>rfl
 | x::hs,h=>by
  simp only [List.all_cons,Bool.and_eq_true] at h
  simp only [dB,AI hr x h.1,A4 hr hs h.2]
theorem lD:∀ (xs hs aM:ac) (pre:ac),xs.length=hs.length→cy (pre++hs++aM) (List.range' pre.length hs.length) xs=pre++xs++aM
 | [],[],aM,pre,_=>by simp [cy]
 | [],_::_,_,_,h=>by simp at h
 | _::_,[],_,_,h=>by simp at h
 | x::xs,y::hs,aM,pre,h=>by
  have e:(pre++(y::hs)++aM).set pre.length x=(pre++[x])++hs++aM:=by simp
  rw [List.length_cons,List.range'_succ,cy,e]
  have:=lD xs hs aM (pre++[x]) (by simpa using h)
  rw [List.length_append,List.length_singleton] at this
  rw [this];simp
def gT:ac→Bool
 | []=>true
 | .iter _ _::_=>false
 | _::h=>gT h
theorem jC:∀ {h:ac} {o m:Nat} {left:List Nat×Option Nat},gT h=true→h[o]?=some (.iter m left)→False
 | [],o,m,left,_,ho=>by simp at ho
 | x::h,0,m,left,hn,ho=>by
  simp at ho;subst ho;simp [gT] at hn
 | x::h,o+1,m,left,hn,ho=>by
  simp at ho
  cases x <;> simp [gT] at hn <;> exact jC hn ho
section
variable {cx:Cx}
theorem qn {f:FuncId} {args:List aa} {hs hs' aM:ac} {v:aa} (hc:av cx f args hs fun v' h'=>v'=v∧h'=hs') (hb:bP hs.length args=true) (ho:hs.all (ai.belO hs.length)=true) (hl:hs'.length=hs.length) (hv:v.bel hs.length=true) (ho':hs'.all (ai.belO hs.length)=true) (hn:gT aM=true) :
 av cx f args (hs++aM) fun v' h'=>v'=v∧h'=hs'++aM:=by
 have hr:∀ i,i<hs.length→bc (List.range' 0 hs.length) (hs++aM).length i=i:=by
  intro i hi
  exact cJ _ (by rw [List.getElem?_range' oq];simp)
 have le:r6 (hs++aM) (List.range' 0 hs.length) hs:=by
  refine ⟨by simp,List.nodup_range',?_,ho,?_⟩
  · intro i o x hi hx
    have hlt:i<hs.length:=(List.getElem?_eq_some_iff.1 hx).1
    rw [List.getElem?_range' hlt] at hi
    simp at hi
    subst hi
    rw [AI hr x (List.all_eq_true.1 ho x (List.mem_of_getElem? hx)),List.getElem?_append_left hlt]
    exact hx
  · intro o m left hit hnin
    exfalso
    rcases Nat.lt_or_ge o hs.length with hlt|hge
    · exact hnin (by simp [List.mem_range'_1];exact hlt)
    · rw [List.getElem?_append_right hge] at hit
      exact jC hn hit
 have:=e9 (K:=fun v' h'=>v'=v∧h'=hs'++aM) le hc hb (by
  rintro v' hs1 _ ⟨rfl,rfl⟩
  refine ⟨rI hr _ hv,?_⟩
  unfold dv
  have h1:hs1.take (List.range' 0 hs.length).length=hs1:=by rw [List.take_of_length_le];simp;omega
  have h2:hs1.drop (List.range' 0 hs.length).length=[]:=by rw [List.drop_eq_nil_of_le];simp;omega
  rw [h1,h2,A4 hr _ ho']
  have:=lD hs1 hs aM [] hl
  simp only [List.nil_append,List.length_nil] at this
  rw [this];simp [dB])
 rwa [eK hr _ hb] at this
variable {l:List BOp} {K:Tm→ac→Prop} {S:RSt}
theorem aT {f:FuncId} {args:List aa} {hs hs' aM:ac} {v:aa} (hc:bF l=true) (hg:bI S.1 (hdB l).g=some true) (ho:aop cx.P S.2 (aev cx.G S.1) (hdB l).op=none) (ha:aG (aev cx.G S.1) (hdB l).op=some (f,args)) (hS:S.2=hs++aM) (hq:av cx f args hs fun v' h'=>v'=v∧h'=hs')
 (hb:bP hs.length args=true) (hbo:hs.all (ai.belO hs.length)=true) (hl:hs'.length=hs.length) (hv:v.bel hs.length=true) (hbo':hs'.all (ai.belO hs.length)=true) (hn:gT aM=true)
 (hk:bS cx l.tail (b4 S.1 (hdB l).dst v,hs'++aM) K):bS cx l S K:=by
 refine wn hc hg ho ha (q:=fun v' h'=>v'=v∧h'=hs'++aM) ?_ (by rintro v' h' ⟨rfl,rfl⟩;exact hk)
 rw [hS]
 exact qn hq hb hbo hl hv hbo' hn
end
def Jh (env:Operand→aa):Op→Option (Nat×aa)
 | .range t x=>some (t,env x)
 | _=>none
def IT (env:Operand→aa):Op→Option aa
 | .next it false=>some (env it)
 | _=>none
def Ic (env:Operand→aa):Op→Option aa
 | .entry it=>some (env it)
 | _=>none
section
variable {cx:Cx} {bl:List BOp} {K:Tm→ac→Prop} {S:RSt} {κ α:Type} {ek:κ→aa} {ev:α→aa} {l:List (κ×α)}
theorem Aa (d:κ×α) (i:Nat) (h:i<l.length):(ae ek ev l)[i]?=some (ek (l.getD i d).1,ev (l.getD i d).2):=by
 simp only [ae];rw [List.getElem?_map,iX l i d h];rfl
theorem j5 {p:Prop} (h:p:=by rw [ho];rfl):p:=h
theorem GW {t kt et a b m:Nat} {z:aa} (hc:bF bl=true) (hg:bI S.1 (hdB bl).g=some true) (hv:Jh (aev cx.G S.1) (hdB bl).op=some (t,.map m)) (ht:ba cx.P t=some ⟨.map kt et,a,b,z⟩) (hm:S.2[m]?=some (.map (ae ek ev l)))
 (hk:bS cx bl.tail (b4 S.1 (hdB bl).dst (.itr S.2.length),S.2++[.iter m (List.range l.length,none)]) K):bS cx bl S K:=by
 generalize ho:(hdB bl).op=o at hv
 unfold Jh at hv
 split at hv <;> simp at hv
 obtain ⟨rfl,hv⟩:=hv
 refine s8 hc hg (L:=[(.itr S.2.length,S.2++[.iter m (List.range l.length,none)])]) j5 j5 ?_ ?_
 · rw [ho];simp only [anx,ht,hv,hm];simp [ae]
 · intro r hr;rw [List.mem_singleton] at hr;subst hr;exact hk
theorem GY {o m:Nat} {lf:List Nat} {la:Option Nat} (d:κ×α) (hc:bF bl=true) (hg:bI S.1 (hdB bl).g=some true) (hv:IT (aev cx.G S.1) (hdB bl).op=some (.itr o)) (hi:S.2[o]?=some (.iter m (lf,la))) (hm:S.2[m]?=some (.map (ae ek ev l)))
 (h0:lf=[]→bS cx bl.tail (C3 S (hdB bl).dst (.tup [.bool false])) K)
 (h1:∀ i,i∈lf→i<l.length→bS cx bl.tail (Id S (hdB bl).dst (.tup [.bool true,ek (l.getD i d).1,ev (l.getD i d).2]) o (.iter m (lf.filter (fun j=>!(Nat.beq j i)),some i))) K):bS cx bl S K:=by
 generalize ho:(hdB bl).op=op at hv
 unfold IT at hv
 split at hv <;> simp at hv
 cases lf with
 | nil =>
  refine s8 hc hg (L:=[(.tup [.bool false],S.2)]) j5 j5 ?_ ?_
  · rw [ho];simp only [anx,hv,hi,hm]
  · intro r hr;rw [List.mem_singleton] at hr;subst hr;exact h0 rfl
 | cons i0 l0 =>
  refine s8 hc hg (L:=(i0::l0).filterMap fun i=>((ae ek ev l)[i]?).map fun kv=>(.tup [.bool true,kv.1,kv.2],S.2.set o (.iter m ((i0::l0).filter (fun j=>!(Nat.beq j i)),some i)))) j5 j5 ?_ ?_
  · rw [ho];simp only [anx,hv,hi,hm]
  · intro r hr
    obtain ⟨i,hin,hri⟩:=List.mem_filterMap.1 hr
    by_cases hlt:i<l.length
    · rw [Aa d i hlt] at hri
      simp only [Option.map_some,Option.some.injEq] at hri
      subst hri
      exact h1 i hin hlt
    · rw [List.getElem?_eq_none (by simp [ae];omega)] at hri;simp at hri
theorem F0 {o m i:Nat} {lf:List Nat} (d:κ×α) (hc:bF bl=true) (hg:bI S.1 (hdB bl).g=some true) (hv:Ic (aev cx.G S.1) (hdB bl).op=some (.itr o)) (hi:S.2[o]?=some (.iter m (lf,some i))) (hm:S.2[m]?=some (.map (ae ek ev l))) (hlt:i<l.length)
 (hk:bS cx bl.tail (C3 S (hdB bl).dst (.tup [ek (l.getD i d).1,ev (l.getD i d).2])) K):bS cx bl S K:=by
 generalize ho:(hdB bl).op=op at hv
 unfold Ic at hv
 split at hv <;> simp at hv
 refine s8 hc hg (L:=[(.tup [ek (l.getD i d).1,ev (l.getD i d).2],S.2)]) j5 j5 ?_ ?_
 · rw [ho];simp only [anx,hv,hi,hm,Aa d i hlt]
 · intro r hr;rw [List.mem_singleton] at hr;subst hr;exact hk
end
theorem aL {cx:Cx} {T:Tm} {h hs:ac} {m:Nat} {rs:List ResultVar} {e:Exit} {l:List aa} {v:aa} (he:e=.normal∨e=.ret) (hl:eD cx.P T h rs=some l) (hv:(aK l).frz h=v) (ho:(aK l).owns=[]) (hb:v.bel m=true) (hh:h.take m=hs) (hbo:hs.all (ai.belO m)=true) :
 Fin cx rs m (fun v' h'=>v'=v∧h'=hs) e T h :=
 ⟨he,l,hl,m,Nat.le_refl _,by rw [hv];exact hb,by rw [ho];simp only [cb];rw [hh];exact hbo,hv,by rw [ho];exact hh⟩
end Go.Proofs.YtdikgijfekfaoaaGreatDoor.Abs
namespace Go.Proofs.YtdikgijfekfaoaaGreatDoor.Abs
open Go
section
variable {cx:Cx} {n m:Nat} {T:Tm} {h:ac} {Q:di}
theorem jB {m:Nat} {σ:Type} {S:σ→Tm} {H:σ→ac} {A I:σ→Prop} {Q}:wd (dy (fun T' h'=>∃ s',A s'∧I s'∧hX m T' h' (S s') (H s')) Q) :=
 fun _ _ _ he ⟨s',h1,h2,h3⟩=>⟨s',h1,h2,h3.ext he⟩
theorem CT (h:ac) (l:List aa):(bo h l).length=l.length:=by rw [ce,List.length_map]
theorem H3 (o:Nat) {sz fr:Nat} {es:List aa} (es':List aa) (ho:h[o]?=some (.arr sz es fr)) (hw:aS es=[]) (he:bo [] es=es') {d:Code}
 (hk:wpA cx n m d Q T (h.set o (.arr sz es' fr))):wpA cx n m d Q T h:=by
 intro E B ρ a w hm hr
 have hlt:=(List.getElem?_eq_some_iff.1 ho).1
 have hl:es'.length=es.length:=by rw [← he,CT]
 have he':bo h es=es':=by rw [← he];exact cL h [] es hw
 have hor:=hr.wf.obj o _ ho
 have hst:=b6 (h':=h.set o (.arr sz es' fr)) (w':=w) hr.wf hr.fr o (.arr sz es' fr) (ρ.loc o) ρ.I (by rw [List.getElem?_set_self hlt]) (fun o' ho'=>aP _ _ _ _ ho')
  rfl rfl rfl (Nat.le_refl _) (fun _ _ _=>rfl) (fun x hx=>by rw [ho] at hx;cases hx;exact ⟨by omega,fun _=>⟨rfl,rfl⟩⟩)
  (fun b j hI=>⟨hI,rfl⟩) (fun b j hI=>.inl hI)
  (fun hb=>.inr ⟨_,ho,hb,rfl⟩) (fun j hb hI=>hr.wf.imm o (.arr sz es fr) j ho hb hI)
  (fun o' m' left _ hi=>by
   rintro rfl
   obtain ⟨_,_,_,_,es0,_,_,h2,_⟩:=hr.wf.obj o' _ hi
   rw [ho] at h2;cases h2)
  (fun le=>by
   obtain ⟨h1,h2,h3,h4,h5⟩:=hor
   refine ⟨by omega,by omega,h3,?_,fun hc=>?_⟩
   · intro i x hx
     rw [← he',ce] at hx
     simp at hx
     obtain ⟨y,g1,rfl⟩:=hx
     rw [ej];simpa using h4 i y g1
   · obtain ⟨c,t,h6,h7,h8⟩:=h5 hc
     refine ⟨c,t,h6,h7,?_⟩
     intro i x j y v hx hy hv
     rw [← he',ce] at hx
     simp at hx
     obtain ⟨x0,g1,rfl⟩:=hx
     rw [ej] at hy
     simp at hy
     obtain ⟨y0,g2,rfl⟩:=hy
     refine VR.frz (ids:=[]) le zq (h8 i x0 j y0 v g1 g2 hv) ?_
     intro o1 ho1
     have:=cX g1 o1 (ls g2 o1 ho1)
     rw [hw] at this;exact this)
 exact hk E B _ a w hm (hr.step hst.1 hst.2.1 hst.2.2)
theorem BQ {P:Program} {ev:Operand→aa} {op:Op} {h:ac} {α:Type} {enc:α→aa} {l:List α} {xs:List aa} {t t' e:Nat} {o len:Nat} {a b a' b' a2 b2 sz fr:Nat} {z z' z2:aa} {ek k2:TyK} {e2:Nat} {x:aa} (hv:sc ev op=some (.append,[t,t'],[.own o 0 len,x])) (ht:ba P t=some ⟨.slice e,a,b,z⟩) (he:ba P e=some ⟨ek,a',b',z'⟩) (ht':ba P t'=some ⟨k2,a2,b2,z2⟩) (hk2:k2=.slice e2)
 (ho:h[o]?=some (.arr sz (l.map enc) fr)) (hsz:sz=a') (hl:len=l.length) (hx:gZ h x=some xs) (hz:0<a'∧z'.cells.length=a') (hok:gg a' xs=true) (hf:(l.length+xs.length) * b'≤140737488355328) (hf2:l.length+xs.length≤140737488355328) :
 aop P h ev op=some (.own o 0 (l.length+xs.length),h.set o (.arr sz (l.map enc++xs) fr)):=by
 have:=wo (h:=h) hv ht he ht' hk2 ho hsz (by rw [hl,List.length_map]) hx ⟨hz.1,hz.2,hok⟩ (by rw [hl];simp [jp];exact ⟨hf,hf2⟩)
 rw [this,hl]
end
end Go.Proofs.YtdikgijfekfaoaaGreatDoor.Abs
namespace Go.Proofs.YtdikgijfekfaoaaGreatDoor.Abs
open Go
section
variable {cx:Cx} {h:ac}
theorem Dh:r6 h [] []:=⟨rfl,List.nodup_nil,fun i o x hi=>by simp at hi,rfl,fun _ _ _ _ _=>by simp⟩
theorem od {f:FuncId} {args args':List aa} {Q:aa→ac→Prop} (hc:av cx f args' [] Q) (ha:bo h args=args') (hb:bP 0 args'=true) :
 av cx f args h (fun v h'=>∃ V G,Q V G∧v=V.ren (bc [] h.length)∧h'=cb h (aS args)++dB (bc [] h.length) G):=by
 refine i5 ?_
 rw [ha]
 have:=e9 (h:=cb h (aS args)) (L:=[]) (hs:=[]) (K:=fun v h'=>∃ V G,Q V G∧v=V.ren (bc [] h.length)∧h'=cb h (aS args)++dB (bc [] h.length) G) Dh hc hb ?_
 · rwa [cI _ _ hb] at this
 · intro v hs' _ hq
   exact ⟨v,hs',hq,by rw [dI],by simp [dv,cy,dI]⟩
theorem uK {f:FuncId} {args args':List aa} {V:aa} {G:ac} (hc:av cx f args' [] fun v' g'=>v'=V∧g'=G) (ha:bo h args=args') (hb:bP 0 args'=true) :
 av cx f args h (fun v h'=>v=V.ren (bc [] h.length)∧h'=cb h (aS args)++dB (bc [] h.length) G) :=
 (od hc ha hb).mono (by rintro v h' ⟨_,_,⟨rfl,rfl⟩,h2,h3⟩;exact ⟨h2,h3⟩)
variable {l:List BOp} {K:Tm→ac→Prop} {S:RSt}
theorem Ip {f:FuncId} {args args':List aa} {Q:aa→ac→Prop} (hc:bF l=true) (hg:bI S.1 (hdB l).g=some true) (ho:aop cx.P S.2 (aev cx.G S.1) (hdB l).op=none) (ha:aG (aev cx.G S.1) (hdB l).op=some (f,args)) (hq:av cx f args' [] Q) (hf:bo S.2 args=args') (hb:bP 0 args'=true)
 (hk:∀ V G,Q V G→bS cx l.tail (b4 S.1 (hdB l).dst (V.ren (bc [] S.2.length)),cb S.2 (aS args)++dB (bc [] S.2.length) G) K):bS cx l S K :=
 wn hc hg ho ha (od hq hf hb) (by rintro v h' ⟨V,G,h1,rfl,rfl⟩;exact hk V G h1)
variable {KD:List (List Nat×List Nat)→Tm→ac→Prop} {s:DSt}
def l9 (h:ac) (args:List aa) (G:ac):List Nat:=aS args++(List.range G.length).map (h.length + ·)
theorem ID {f:FuncId} {args args':List aa} {V:aa} {G:ac} (hc:bF l=true) (hg:bI s.2.1 (hdB l).g=some true) (hal:ey (hdB l).op=false) (ho:aop cx.P s.2.2.1 (aev cx.G s.2.1) (hdB l).op=none) (ha:aG (aev cx.G s.2.1) (hdB l).op=some (f,args))
 (hq:av cx f args' [] fun v' g'=>v'=V∧g'=G) (hf:bo s.2.2.1 args=args') (hb:bP 0 args'=true) (hG:0<G.length)
 (hk:bdr cx l.tail (s.1,b4 s.2.1 (hdB l).dst (V.ren (bc [] s.2.2.1.length)),cb s.2.2.1 (aS args)++dB (bc [] s.2.2.1.length) G,s.2.2.2++[(l9 s.2.2.1 args G,l9 s.2.2.1 args G)]) KD):bdr cx l s KD:=by
 refine z6 hc hg hal ho ha ⟨?_,uK hq hf hb,?_⟩ hk
 · intro o hn
   simp only [l9,List.mem_append,not_or] at hn
   rcases Nat.lt_or_ge o s.2.2.1.length with h1|h1
   · rw [List.getElem?_append_left (by rw [dI];exact h1),i4 _ _ _ hn.1]
   · rw [List.getElem?_append_right (by rw [dI];exact h1),List.getElem?_eq_none h1,dI]
     refine List.getElem?_eq_none ?_
     rw [fX,List.length_map]
     rcases Nat.lt_or_ge (o - s.2.2.1.length) G.length with h2|h2
     · exact (hn.2 (List.mem_map.2 ⟨o - s.2.2.1.length,List.mem_range.2 h2,by omega⟩)).elim
     · exact h2
 · intro he
   simp only [l9,List.append_eq_nil_iff,List.map_eq_nil_iff] at he
   have:=congrArg List.length he.2
   simp at this;rw [this] at hG;simp at hG
end
mutual
def aa.refs:aa→List Nat
 | .agg cs=>cY cs
 | .tup cs=>cY cs
 | .ptr o _=>[o]
 | .pimm cs _=>cY cs
 | .pown o _ _ _=>[o]
 | .imm l=>cY l
 | .full l=>cY l
 | .own o _ _=>[o]
 | .map o=>[o]
 | .fn _ xs ys=>cY xs++cY ys
 | .itr o=>[o]
 | .iface _ v=>v.refs
 | _=>[]
def cY:List aa→List Nat
 | []=>[]
 | x::xs=>x.refs++cY xs
end
theorem dO:∀ {l:List aa} {i:Nat} {x:aa},l[i]?=some x→∀ o∈x.refs,o∈cY l
 | y::l,0,x,h,o,ho=>by simp at h;subst h;simp [cY,ho]
 | y::l,i+1,x,h,o,ho=>by simp at h;simp [cY,dO h o ho]
theorem li {x y:aa} {j:Nat} (hy:x.cells[j]?=some y):∀ o∈y.refs,o∈x.refs:=by
 intro o ho
 cases x <;> simp only [aa.cells] at hy <;> first
  | (simp only [aa.refs];exact dO hy o ho)
  | (cases j with
   | zero=>simp at hy;subst hy;exact ho
   | succ j=>simp at hy)
def ai.refs:ai→List Nat
 | .box cs=>cY cs
 | .arr _ es _=>cY es
 | .map es=>es.flatMap fun e=>e.1.refs++e.2.refs
 | _=>[]
def ai.isIter:ai→Bool
 | .iter _ _=>true
 | _=>false
section
variable {ρ ρ':Ren} {g h:ac} {w:World} {r:Nat→Nat}
theorem yp {p:Prop} (h:p:=by simp only [aa.refs];exact dO h1 o hm):p:=h
theorem nD {p:Prop} (h:p:=by simpa using hl):p:=h
theorem qL {p:Prop} (h:p:=by simp [aa.refs]):p:=h
theorem VR.ren2 {x:aa} {v:Value} (hx:VR ρ g w x v) (hI:∀ b j,ρ.I b j→ρ'.I b j) (ho:∀ o∈x.refs,∀ y,g[o]?=some y→y.isIter=false∧h[r o]?=some (y.ren r)∧ρ'.loc (r o)=ρ.loc o):VR ρ' h w (x.ren r) v:=by
 induction hx with
 | any v=>exact .any v
 | bool b=>exact .bool b
 | int k n=>exact .int k n
 | str s=>exact .str s
 | agg cs vs hl _ ih =>
  simp only [aa.ren,aw]
  refine .agg _ vs nD fun i x v a b=>?_
  simp at a
  obtain ⟨y,h1,rfl⟩:=a
  exact ih i y v h1 b (fun o hm=>ho o yp)
 | tup cs vs hl _ ih =>
  simp only [aa.ren,aw]
  refine .tup _ vs nD fun i x v a b=>?_
  simp at a
  obtain ⟨y,h1,rfl⟩:=a
  exact ih i y v h1 b (fun o hm=>ho o yp)
 | nilp=>exact .nilp
 | ptr o off cs hq =>
  obtain ⟨_,h1,h2⟩:=ho o qL _ hq
  rw [← h2];exact .ptr _ off _ h1
 | pimm cs off b base val hc _ ih =>
  simp only [aa.ren,aw]
  refine .pimm _ off b base val ?_ ?_
  · intro j y hy
    simp at hy
    obtain ⟨y0,h1,rfl⟩:=hy
    exact ⟨hI _ _ (hc j y0 h1).1,(hc j y0 h1).2⟩
  · intro j y hy
    simp at hy
    obtain ⟨y0,h1,rfl⟩:=hy
    exact ih j y0 h1 (fun o hm=>ho o yp)
 | pown o idx off n a sz es fr hq hv =>
  obtain ⟨_,h1,h2⟩:=ho o qL _ hq
  refine .pown _ idx off n a sz _ fr h1 ?_
  rw [aw,List.length_map,h2];exact hv
 | imm l a cap sz b off val hcap ha hsz hc _ ih =>
  simp only [aa.ren,aw]
  have:VR ρ' h w (.imm (l.map (aa.ren r))) (.slice a (l.map (aa.ren r)).length cap):=by
   refine .imm _ a cap sz b off val (by simpa using hcap) (by simpa using ha) ?_ ?_ ?_
   · intro i x hx
     simp at hx
     obtain ⟨y,h1,rfl⟩:=hx
     rw [bG];simpa using hsz i y h1
   · intro i x j y hx hy
     simp at hx
     obtain ⟨x0,h1,rfl⟩:=hx
     rw [bG] at hy
     simp at hy
     obtain ⟨y0,h2,rfl⟩:=hy
     exact ⟨hI _ _ (hc i x0 j y0 h1 h2).1,(hc i x0 j y0 h1 h2).2⟩
   · intro i x j y hx hy
     simp at hx
     obtain ⟨x0,h1,rfl⟩:=hx
     rw [bG] at hy
     simp at hy
     obtain ⟨y0,h2,rfl⟩:=hy
     exact ih i x0 j y0 h1 h2 (fun o hm=>ho o (by simp only [aa.refs];exact dO h1 o (li h2 o hm)))
  simpa using this
 | full l a sz b off val ha hsz hc _ ih =>
  simp only [aa.ren,aw]
  have:VR ρ' h w (.full (l.map (aa.ren r))) (.slice a (l.map (aa.ren r)).length (l.map (aa.ren r)).length):=by
   refine .full _ a sz b off val (by simpa using ha) ?_ ?_ ?_
   · intro i x hx
     simp at hx
     obtain ⟨y,h1,rfl⟩:=hx
     rw [bG];simpa using hsz i y h1
   · intro i x j y hx hy
     simp at hx
     obtain ⟨x0,h1,rfl⟩:=hx
     rw [bG] at hy
     simp at hy
     obtain ⟨y0,h2,rfl⟩:=hy
     exact ⟨hI _ _ (hc i x0 j y0 h1 h2).1,(hc i x0 j y0 h1 h2).2⟩
   · intro i x j y hx hy
     simp at hx
     obtain ⟨x0,h1,rfl⟩:=hx
     rw [bG] at hy
     simp at hy
     obtain ⟨y0,h2,rfl⟩:=hy
     exact ih i x0 j y0 h1 h2 (fun o hm=>ho o (by simp only [aa.refs];exact dO h1 o (li h2 o hm)))
  simpa using this
 | own o off len a n cap sz es fr hq hv =>
  obtain ⟨_,h1,h2⟩:=ho o qL _ hq
  refine .own _ off len a n cap sz _ fr h1 ?_
  rw [aw,List.length_map,h2];exact hv
 | nilm=>exact .nilm
 | map o es hq =>
  obtain ⟨_,h1,h2⟩:=ho o qL _ hq
  rw [← h2];exact .map _ _ h1
 | fn f xs ys us vs hl hl' _ _ ih1 ih2 =>
  simp only [aa.ren,aw]
  refine .fn f _ _ us vs nD (by simpa using hl') ?_ ?_
  · intro i x v a b
    simp at a
    obtain ⟨y,h1,rfl⟩:=a
    exact ih1 i y v h1 b (fun o hm=>ho o (by simp only [aa.refs];simp [dO h1 o hm]))
  · intro i x v a b
    simp at a
    obtain ⟨y,h1,rfl⟩:=a
    exact ih2 i y v h1 b (fun o hm=>ho o (by simp only [aa.refs];simp [dO h1 o hm]))
 | nilfn=>exact .nilfn
 | itr o m left hq =>
  have:=(ho o qL _ hq).1
  cases this
 | iface t x v _ ih=>exact .iface t _ v (ih (fun o hm=>ho o (by simpa [aa.refs] using hm)))
 | nili=>exact .nili
theorem OR.ren2 {x:ai} {l:Loc} (hx:OR ρ g w l x) (hn:x.isIter=false) (hI:∀ b j,ρ.I b j→ρ'.I b j) (ho:∀ o∈x.refs,∀ y,g[o]?=some y→y.isIter=false∧h[r o]?=some (y.ren r)∧ρ'.loc (r o)=ρ.loc o):OR ρ' h w l (x.ren r):=by
 cases x with
 | hole=>trivial
 | iter m left=>cases hn
 | box cs =>
  obtain ⟨c,t,h1,h2,h3⟩:=hx
  refine ⟨c,t,h1,by rw [h2,aw,List.length_map],fun i x v a b=>?_⟩
  rw [aw] at a
  simp at a
  obtain ⟨y,g1,rfl⟩:=a
  exact (h3 i y v g1 b).ren2 hI (fun o hm=>ho o (dO g1 o hm))
 | arr sz es fr =>
  obtain ⟨h1,h2,h3,h4,h5⟩:=hx
  have el:(bV r es).length=es.length:=by rw [aw,List.length_map]
  refine ⟨by omega,by omega,h3,?_,fun hc=>?_⟩
  · intro i x hx
    rw [aw] at hx;simp at hx
    obtain ⟨y,g1,rfl⟩:=hx
    rw [bG];simpa using h4 i y g1
  · obtain ⟨c,t,h6,h7,h8⟩:=h5 hc
    refine ⟨c,t,h6,h7,fun i x j y v a b d=>?_⟩
    rw [aw] at a;simp at a
    obtain ⟨x0,g1,rfl⟩:=a
    rw [bG] at b;simp at b
    obtain ⟨y0,g2,rfl⟩:=b
    exact (h8 i x0 j y0 v g1 g2 d).ren2 hI (fun o hm=>ho o (dO g1 o (li g2 o hm)))
 | map es =>
  obtain ⟨ms,clock,h1,h2,h3,h4⟩:=hx
  refine ⟨ms,clock,h1,by rw [fY,List.length_map];exact h2,fun i kv e a b=>?_,h4⟩
  rw [fY] at a
  simp at a
  obtain ⟨x,y,g1,rfl⟩:=a
  have hm:∀ o∈x.refs++y.refs,o∈(ai.map es).refs:=fun o ho=>by
   simp only [ai.refs,List.mem_flatMap];exact ⟨_,List.mem_of_getElem? g1,ho⟩
  obtain ⟨q1,q2,q3⟩:=h3 i _ e g1 b
  exact ⟨q1.ren2 hI (fun o h=>ho o (hm o (List.mem_append_left _ h))),q2.ren2 hI (fun o h=>ho o (hm o (List.mem_append_right _ h))),q3⟩
end
end Go.Proofs.YtdikgijfekfaoaaGreatDoor.Abs
namespace Go.Proofs.YtdikgijfekfaoaaGreatDoor.Abs
open Go
def renT (r:Nat→Nat):Tm→Tm
 | []=>[]
 | p::T=>(p.1,p.2.ren r)::renT r T
theorem pR (r:Nat→Nat):∀ (T:Tm) (t:Nat),Tm.get (renT r T) t=(Tm.get T t).ren r
 | [],t=>rfl
 | p::T,t=>by
  simp only [renT,Tm.get]
  by_cases e:p.1=t
  · rw [if_pos e,if_pos e]
  · rw [if_neg e,if_neg e];exact pR r T t
def lh (r:Nat→Nat):Option ai→ai
 | some x=>x.ren r
 | none=>.hole
def ee (r:Nat→Nat) (h:ac):List Nat→ac
 | []=>[]
 | o::ks=>lh r h[o]?::ee r h ks
theorem fU (r:Nat→Nat) (h:ac):∀ ks,ee r h ks=ks.map fun o=>lh r h[o]?
 | []=>rfl
 | o::ks=>by rw [ee,fU r h ks];rfl
def kZ (ks:List Nat):Option ai→Prop
 | some x=>x.isIter=false∧∀ o∈x.refs,o∈ks
 | none=>False
theorem qI {ks:List Nat}:∀ (T:Tm) (t:Nat),(∀ p∈T,∀ o∈p.2.refs,o∈ks)→∀ o∈(Tm.get T t).refs,o∈ks
 | [],t,_,o,ho=>by simp [Tm.get,aa.refs] at ho
 | p::T,t,h,o,ho=>by
  simp only [Tm.get] at ho
  split at ho
  · exact h p zq o ho
  · exact qI T t (fun q hq=>h q (by simp [hq])) o ho
section
variable {cx:Cx} {n m:Nat} {T:Tm} {h:ac} {Q:di}
theorem iB (ks:List Nat) (T':Tm) (h':ac) (hnd:ks.Nodup) (hT:∀ p∈T,∀ o∈p.2.refs,o∈ks) (hO:∀ o∈ks,kZ ks h[o]?) (eT:renT (fun o=>ks.idxOf o) T=T') (eh:ee (fun o=>ks.idxOf o) h ks=h') {d:Code}
 (hk:wpA cx n 0 d Q T' h'):wpA cx n 0 d Q T h:=by
 intro E B ρ a w hm hr
 subst eT eh
 let r:Nat→Nat:=fun o=>ks.idxOf o
 let ρ':Ren:=⟨fun i=>ρ.loc (ks.getD i 0),ρ.I⟩
 have hin:∀ o∈ks,∀ y,h[o]?=some y→y.isIter=false∧(ee r h ks)[r o]?=some (y.ren r)∧ρ'.loc (r o)=ρ.loc o:=by
  intro o ho y hy
  have h1:=hO o ho
  rw [hy] at h1
  have hlt:ks.idxOf o<ks.length:=List.idxOf_lt_length_iff.2 ho
  have hge:ks[ks.idxOf o]=o:=List.getElem_idxOf hlt
  refine ⟨h1.1,?_,?_⟩
  · rw [fU,List.getElem?_map,List.getElem?_eq_getElem hlt,hge]
    simp [hy,lh]
  · show ρ.loc (ks.getD (ks.idxOf o) 0)=ρ.loc o
    rw [List.getD_eq_getElem?_getD,List.getElem?_eq_getElem hlt,hge];rfl
 have hout:∀ (i:Nat) x,(ee r h ks)[i]?=some x→∃ o y,o∈ks∧(∃ hi:i<ks.length,ks[i]=o)∧h[o]?=some y∧x=y.ren r∧ρ'.loc i=ρ.loc o:=by
  intro i x hx
  rw [fU,List.getElem?_map] at hx
  cases hq:ks[i]? with
  | none=>rw [hq] at hx;simp at hx
  | some o =>
   rw [hq] at hx
   obtain ⟨hi,he⟩:=List.getElem?_eq_some_iff.1 hq
   have hmem:o∈ks:=he▸List.getElem_mem hi
   have h1:=hO o hmem
   cases hy:h[o]? with
   | none=>rw [hy] at h1;exact h1.elim
   | some y =>
    simp [hy,lh] at hx
    refine ⟨o,y,hmem,⟨hi,he⟩,hy,hx.symm,?_⟩
    show ρ.loc (ks.getD i 0)=ρ.loc o
    rw [List.getD_eq_getElem?_getD,hq];rfl
 have hwf:WF ρ' (ee r h ks) w:=by
  refine ⟨?_,?_,?_,hr.wf.immlt,?_⟩
  · intro i x hx
    obtain ⟨o,y,h1,_,h3,rfl,h5⟩:=hout i x hx
    rw [h5]
    have h6:=hO o h1
    rw [h3] at h6
    exact (hr.wf.obj o y h3).ren2 h6.1 (fun _ _ h=>h) (fun o' ho' y' hy'=>hin o' (h6.2 o' ho') y' hy')
  · intro i x i' x' hx hx' hb hb' he
    obtain ⟨o,y,h1,⟨hi,e1⟩,h3,rfl,h5⟩:=hout i x hx
    obtain ⟨o',y',h1',⟨hi',e1'⟩,h3',rfl,h5'⟩:=hout i' x' hx'
    rw [br,h5] at hb
    rw [br,h5'] at hb'
    rw [h5,h5'] at he
    have:=hr.wf.inj o y o' y' h3 h3' hb hb' he
    exact kD hnd hi hi' (by rw [e1,e1',this])
  · intro i x hx hb
    obtain ⟨o,y,h1,_,h3,rfl,h5⟩:=hout i x hx
    rw [br,h5] at hb
    rw [h5];exact hr.wf.lt o y h3 hb
  · intro i x j hx hb hI
    obtain ⟨o,y,h1,_,h3,rfl,h5⟩:=hout i x hx
    rw [br,h5] at hb
    rw [h5] at hI ⊢
    rw [mF]
    exact hr.wf.imm o y j h3 hb hI
 refine hk E B ρ' a w hm ⟨?_,hr.size,hr.defers,?_,hwf,?_,?_⟩
 · intro t
   rw [pR]
   exact (hr.tm t).ren2 (fun _ _ h=>h) (fun o ho y hy=>hin o (qI T t hT o ho) y hy)
 · intro g cs hg
   have le0:Le ρ [] w ρ' [] w:=⟨fun o x hx=>by simp at hx,fun b j hI=>⟨hI,rfl⟩⟩
   exact (hr.glob g cs hg).nil_mono le0
 · refine ⟨hr.fr.os,hr.fr.tape,hr.fr.output,hr.fr.size,hr.fr.keep,hr.fr.imm,hr.fr.new,?_⟩
   intro i x hx hb hlt
   obtain ⟨o,y,h1,_,h3,rfl,h5⟩:=hout i x hx
   rw [br,h5] at hb
   rw [h5] at hlt ⊢
   exact hr.fr.own o y h3 hb hlt
 · refine ⟨fun o x hx=>?_,hr.le.imm⟩
   rw [List.length_eq_zero_iff.1 hm] at hx;simp at hx
theorem Rel.box {E:Ent} {B:oH} {ρ ρ1:Ren} {h1:ac} {a:Act} {w:World} {b i:Nat} {cs:List aa} {y y':aa} (hr:Rel cx E B n ρ T h a w) (hr1:Rel cx E B n ρ1 T h1 a w) (ho:h[b]?=some (.box cs)) (ho1:h1[b]?=some (.box cs)) (le:Le ρ h w ρ1 h1 w) (hy:cs[i]?=some y) (hsp:∀ v,VR ρ h w y v→VR ρ1 h1 w y' v) :
 ∃ ρ',Rel cx E B n ρ' T (h1.set b (.box (cs.set i y'))) a w:=by
 have hlt:=(List.getElem?_eq_some_iff.1 ho1).1
 have hst:=b6 (h':=h1.set b (.box (cs.set i y'))) (w':=w) hr1.wf hr1.fr b (.box (cs.set i y')) (ρ1.loc b) ρ1.I (by rw [List.getElem?_set_self hlt]) (fun o' ho'=>aP _ _ _ _ ho')
  rfl rfl rfl (Nat.le_refl _) (fun _ _ _=>rfl) (fun x hx=>by rw [ho1] at hx;cases hx;rfl)
  (fun b j hI=>⟨hI,rfl⟩) (fun b j hI=>.inl hI)
  (fun hb=>.inr ⟨_,ho1,hb,rfl⟩) (fun j hb hI=>hr1.wf.imm b (.box cs) j ho1 hb hI)
  (fun o' m' left _ hi=>by
   rintro rfl
   obtain ⟨_,_,_,_,es0,_,_,h2,_⟩:=hr1.wf.obj o' _ hi
   rw [ho1] at h2;cases h2)
  (fun le2=>by
   obtain ⟨c,t,g1,g2,g3⟩:=hr1.wf.obj b _ ho1
   obtain ⟨c',t',f1,f2,f3⟩:=hr.wf.obj b _ ho
   have hloc:ρ1.loc b=ρ.loc b:=by
    obtain ⟨x',q1,q2⟩:=le.obj b _ ho
    rw [ho1] at q1;cases q1;exact q2
   rw [← hloc,g1] at f1
   cases f1
   refine ⟨c,t,g1,by rw [g2,List.length_set],fun j x v hx hv=>?_⟩
   by_cases e:j=i
   · subst e
     rw [List.getElem?_set_self (List.getElem?_eq_some_iff.1 hy).1] at hx
     cases hx
     exact (hsp v (f3 j y v hy hv)).mono le2
   · rw [List.getElem?_set_ne (fun q=>e q.symm)] at hx
     exact (g3 j x v hx hv).mono le2)
 exact ⟨_,hr1.step hst.1 hst.2.1 hst.2.2⟩
theorem Rel.ghost {E:Ent} {B:oH} {ρ:Ren} {a:Act} {w:World} (sz:Nat) (hsz:0<sz) (hr:Rel cx E B n ρ T h a w) :
 ∃ ρ',Rel cx E B n ρ' T (h++[.arr sz [] 0]) a w∧Le ρ h w ρ' (h++[.arr sz [] 0]) w∧∀ ad,VR ρ' (h++[.arr sz [] 0]) w (.own h.length 0 0) (.slice ad 0 0):=by
 have hst:=b6 (h':=h++[.arr sz [] 0]) (w':=w) hr.wf hr.fr h.length (.arr sz [] 0) ⟨0,0,0⟩ ρ.I (getElem?_append_one _ _) (fun o' ho=>bH _ _ _ ho)
  rfl rfl rfl (Nat.le_refl _) (fun _ _ _=>rfl) zq (fun b j hI=>⟨hI,rfl⟩) (fun b j hI=>.inl hI)
  (fun hb=>by simp [ai.hasBlk] at hb) (fun j hb=>by simp [ai.hasBlk] at hb) (cf hr.wf)
  (fun _=>⟨Nat.le_refl _,Nat.le_refl _,hsz,by simp,fun hc=>by simp at hc⟩)
 refine ⟨_,hr.step hst.1 hst.2.1 hst.2.2,hst.2.1,fun ad=>?_⟩
 refine .own _ _ _ _ _ _ sz [] 0 (getElem?_append_one _ _) ⟨by simp,fun _=>⟨rfl,?_,fun h0=>by simp at h0⟩⟩
 rw [Ren.put_same]
theorem mo (b i sz:Nat) {cs:List aa} (cs':List aa) (hsz:0<sz) (hb:h[b]?=some (.box cs)) (hi:cs[i]?=some (.full [])) (he:cs.set i (.own h.length 0 0)=cs') {d:Code} (hk:wpA cx n m d Q T (h.set b (.box cs')++[.arr sz [] 0])):wpA cx n m d Q T h:=by
 intro E B ρ a w hm hr
 obtain ⟨ρ1,r1,r2,r3⟩:=hr.ghost sz hsz
 have hlt:=(List.getElem?_eq_some_iff.1 hb).1
 obtain ⟨ρ2,q1⟩:=Rel.box hr r1 hb (by rw [List.getElem?_append_left hlt];exact hb) r2 hi (y':=.own h.length 0 0) (fun v hv=>by cases hv;exact r3 _)
 rw [he,List.set_append_left _ _ hlt] at q1
 exact hk E B ρ2 a w hm q1
theorem sD (b i o:Nat) {cs es:List aa} {off len sz fr:Nat} (cs' es':List aa) (hbo:b≠o) (hb:h[b]?=some (.box cs)) (hi:cs[i]?=some (.own o off len)) (ho:h[o]?=some (.arr sz es fr)) (htip:off+len=es.length) (hes:es.drop off=es') (he:cs.set i (.imm es')=cs') {d:Code}
 (hk:wpA cx n m d Q T ((h.set o (.arr sz es es.length)).set b (.box cs'))):wpA cx n m d Q T h:=by
 intro E B ρ a w hm hr
 obtain ⟨ρ1,g1,g2,g3,g4⟩:=lg hr.wf hr.fr ho
 obtain ⟨ρ2,q1⟩:=Rel.box hr (hr.step g1 g2 g3) hb (by rw [aP _ _ _ _ hbo];exact hb) g2 hi (y':=.imm es') (fun v hv=>by rw [← hes];exact g4 off len v htip hv)
 rw [he] at q1
 exact hk E B ρ2 a w hm q1
end
end Go.Proofs.YtdikgijfekfaoaaGreatDoor.Abs
namespace Go.Proofs.YtdikgijfekfaoaaGreatDoor.Abs
open Go
section
variable {cx:Cx} {n m:Nat} {T:Tm} {h:ac} {Q:di}
theorem x9 {f:FuncId} {args:List aa} {Q Q':aa→ac→Prop} (hc:av cx f args [] Q) (hq:∀ v h',Q v h'→Q' v h'∨((v.frz h').bel 0=true∧Q' (v.frz h') [])):av cx f args [] Q':=by
 refine ⟨hc.1,fun ρ w cargs wf hg hv=>?_⟩
 refine (hc.2 ρ w cargs wf hg hv).mono ?_
 rintro e w' ⟨ρ',cv,v,h',rfl,hQ,r1,r2,r3,r4⟩
 rcases hq v h' hQ with h1|⟨h1,h2⟩
 · exact ⟨ρ',cv,v,h',rfl,h1,r1,r2,r3,r4⟩
 · obtain ⟨ρ2,q1,q2,q3,q4⟩:=dK v.owns r2 r4
   have g3:=(r1.frz q2 q4 (fun o ho=>ho)).take h1
   have g4:=q1.take 0 zq
   have g5:=(r3.trans q2).take 0 zq
   have g6:=q3.take 0
   simp only [List.take_zero] at g3 g4 g5 g6
   exact ⟨ρ2,cv,_,[],rfl,h2,g3,g4,g5,g6⟩
theorem jE {f:FuncId} {args:List aa} {Q:aa→ac→Prop} {V:aa} (hc:av cx f args [] Q) (hq:∀ v h',Q v h'→v.frz h'=V) (hb:V.bel 0=true):ay cx f args V :=
 x9 hc fun v h' h1=>.inr (by rw [hq v h' h1];exact ⟨hb,rfl,rfl⟩)
theorem dV {rs:List ResultVar} {e:Exit} {l:List aa} {q:aa→ac→Prop} (j:Nat) (g:ac) (he:e=.normal∨e=.ret) (hl:eD cx.P T h rs=some l) (hm:m≤j) (hg:h.take j=g) (hb:(aK l).bel j=true) (ho:g.all (ai.belO j)=true) (hq:q (aK l) g):zk cx rs m q e T h :=
 ⟨he,l,hl,j,hm,hb,by rw [hg];exact ho,by rw [hg];exact hq⟩
theorem Io (b i:Nat) {cs:List aa} {y:aa} (cs':List aa) (hb:h[b]?=some (.box cs)) (hi:cs[i]?=some y) (hw:y.owns=[]) (he:cs.set i (y.frz [])=cs') {d:Code} (hk:wpA cx n m d Q T (h.set b (.box cs'))):wpA cx n m d Q T h:=by
 intro E B ρ a w hm hr
 obtain ⟨ρ2,q1⟩:=Rel.box hr hr hb hb (Le.refl _ _ _) hi (y':=y.frz []) (fun v hv=>by
  rw [← nu h [] y hw]
  exact VR.frz (ids:=[]) (Le.refl _ _ _) zq hv (by rw [hw];simp))
 rw [he] at q1
 exact hk E B ρ2 a w hm q1
end
end Go.Proofs.YtdikgijfekfaoaaGreatDoor.Abs
namespace Go.Proofs.YtdikgijfekfaoaaGreatDoor.Abs
open Go
section
variable {cx:Cx} {l:List BOp} {K:Tm→ac→Prop} {S:RSt} {KD:List (List Nat×List Nat)→Tm→ac→Prop} {s:DSt}
theorem m0 {f:FuncId} {args args':List aa} {V V':aa} {G G' F:ac} (hc:bF l=true) (hg:bI S.1 (hdB l).g=some true) (ho:aop cx.P S.2 (aev cx.G S.1) (hdB l).op=none) (ha:aG (aev cx.G S.1) (hdB l).op=some (f,args)) (hq:av cx f args' [] fun v h=>v=V∧h=G) (H0:ac) (hH:S.2=H0) (hf:bo H0 args=args') (hb:bP 0 args'=true)
 (hF:cb H0 (aS args)=F) (hV:V.ren (bc [] H0.length)=V') (hG:dB (bc [] H0.length) G=G')
 (hk:bS cx l.tail (b4 S.1 (hdB l).dst V',F++G') K):bS cx l S K :=
 Ip hc hg ho ha hq (by rw [hH];exact hf) hb (by rintro _ _ ⟨rfl,rfl⟩;rw [hH,hV,hG,hF];exact hk)
theorem uy {f:FuncId} {args args':List aa} {V V':aa} {G G' F:ac} {L:List Nat} (hc:bF l=true) (hg:bI s.2.1 (hdB l).g=some true) (hal:ey (hdB l).op=false) (ho:aop cx.P s.2.2.1 (aev cx.G s.2.1) (hdB l).op=none) (ha:aG (aev cx.G s.2.1) (hdB l).op=some (f,args))
 (hq:av cx f args' [] fun v' g'=>v'=V∧g'=G) (H0:ac) (hH:s.2.2.1=H0) (hf:bo H0 args=args') (hb:bP 0 args'=true) (hG0:0<G.length)
 (hF:cb H0 (aS args)=F) (hV:V.ren (bc [] H0.length)=V') (hG:dB (bc [] H0.length) G=G') (hL:l9 H0 args G=L)
 (hk:bdr cx l.tail (s.1,b4 s.2.1 (hdB l).dst V',F++G',s.2.2.2++[(L,L)]) KD):bdr cx l s KD :=
 ID hc hg hal ho ha hq (by rw [hH];exact hf) hb hG0 (by rw [hH,hV,hG,hF,hL];exact hk)
end
end Go.Proofs.YtdikgijfekfaoaaGreatDoor.Abs
namespace Go.Proofs.YtdikgijfekfaoaaGreatDoor.Abs
open Go
section
variable {cx:Cx} {l:List BOp} {K:Tm→ac→Prop} {S:RSt}
end
theorem AF {P:Program} {ev:Operand→aa} {op:Op} {h:ac} {α:Type} {enc:α→aa} {l:List α} {X d:α} {t:Nat} {o idx k sz:Nat} {x:aa} {i:TyI} (hv:zu ev op=some (t,.pown o idx 0 k,x)) (hx:x=enc X) (ho:h[o]?=some (.arr sz (l.map enc) 0)) (hl:(l.map enc).length=k) (hi:idx<l.length) (ht:ba P t=some i)
 (hok:∀ q,(enc q).cells.length=i.size∧(enc q).cells.all aa.cellOk=true) (hw:∀ p q,(enc p).withCells (enc q).cells=some (enc q)):aop P h ev op=some (.any,h.set o (.arr sz ((l.set idx X).map enc) 0)):=by
 have hy:(l.map enc)[idx]?=some (enc (l.getD idx d)):=by
  rw [List.getElem?_map,List.getElem?_eq_getElem hi,List.getD_eq_getElem?_getD,List.getElem?_eq_getElem hi];rfl
 rw [FZ hv ho hl (Nat.zero_le _) hy ht (by rw [hx];exact hok X) rfl (hok _).1 (by rw [hx];exact hw _ _),hx,List.map_set]
end Go.Proofs.YtdikgijfekfaoaaGreatDoor.Abs
namespace Go.Proofs.YtdikgijfekfaoaaGreatDoor.Abs
open Go.RowKit
section
variable {cx:Cx}
theorem ji {f:FuncId} {args:List aa} {h:ac} {v:aa} {K:aa→ac→Prop} (hb:uO cx.P f) (hk:K v h)
 (hc:∀ (ρ:Ren) (w:World) (cargs:Array Value),WF ρ h w→wM cx ρ w→VRs ρ h w args cargs→Calls cx.P f cargs w fun e w'=>∃ cv I',e=.returned cv∧Below w.heap.size w w' ∧
  (∀ b j,ρ.I b j→I' b j)∧(∀ b j,I' b j→ρ.I b j∨(w.heap.size≤b∧b<w'.heap.size))∧(Le ρ h w ⟨ρ.loc,I'⟩ h w'→VR ⟨ρ.loc,I'⟩ h w' v cv)):av cx f args h K:=by
 refine ⟨hb,fun ρ w cargs wf hg hv=>(hc ρ w cargs wf hg hv).mono ?_⟩
 rintro e w' ⟨cv,I',rfl,hbel,h1,h2,h3⟩
 have hst:=ke (w':=w') wf (Fr.refl ρ h w) I' hbel.os hbel.tape hbel.output hbel.size hbel.block h1 h2
 exact ⟨⟨ρ.loc,I'⟩,cv,v,h,rfl,hk,h3 hst.2.1,hst.1,hst.2.1,hst.2.2⟩
theorem oD {f:FuncId} {args:List aa} {v:aa} {cv:Value} (hb:uO cx.P f) (hf:v.flat=some cv)
 (hc:∀ (ρ:Ren) (w:World) (cargs:Array Value),VRs ρ [] w args cargs→Calls cx.P f cargs w fun e w'=>e=.returned cv∧Below w.heap.size w w'):ay cx f args v:=by
 refine ji (v:=v) hb ⟨rfl,rfl⟩ fun ρ w cargs _ _ hv=>(hc ρ w cargs hv).mono ?_
 rintro e w' ⟨rfl,hbel⟩
 exact ⟨cv,ρ.I,rfl,hbel,fun _ _ h=>h,fun _ _ h=>.inl h,fun _=>o7 hf _ _ _⟩
theorem VRs.two {ρ:Ren} {h:ac} {w:World} {x y:aa} {vs:Array Value} (hv:VRs ρ h w [x,y] vs):∃ u v,vs=#[u,v]∧VR ρ h w x u∧VR ρ h w y v:=by
 obtain ⟨h1,h2⟩:=hv
 obtain ⟨l⟩:=vs
 match l,h1 with
 | [u,v],_=>exact ⟨u,v,rfl,h2 0 x u rfl rfl,h2 1 y v rfl rfl⟩
theorem VRs.one {ρ:Ren} {h:ac} {w:World} {x:aa} {vs:Array Value} (hv:VRs ρ h w [x] vs):∃ u,vs=#[u]∧VR ρ h w x u:=by
 obtain ⟨h1,h2⟩:=hv
 obtain ⟨l⟩:=vs
 match l,h1 with
 | [u],_=>exact ⟨u,rfl,h2 0 x u rfl rfl⟩
end
end Go.Proofs.YtdikgijfekfaoaaGreatDoor.Abs
namespace Go.Proofs.YtdikgijfekfaoaaGreatDoor.Abs
section
variable {cx:Cx} {n m:Nat} {Q Q':di} {T:Tm} {h:ac} {c d:Code} {p:List Nat} {l:List BOp} {S:RSt}
def sl:Tm→List Nat
 | []=>[]
 | x::r=>x.1::sl r
theorem wO (hk:(Nat.beq (cj (at_ c p)) 1 && xK n (at_ c (0::p)))=true) (hw:bS cx (bOf n (at_ c (0::p))) (T,h) (fun T' h'=>dy (wpA cx n m (at_ c (1::p)) Q) Q .normal T' h')):wpA cx n m (at_ c p) Q T h:=by
 simp only [Bool.and_eq_true] at hk
 exact IK (Nat.eq_of_beq_eq_true hk.1) (Ig hk.2 (D7 hw))
theorem wV (j:Nat) (hk:(Nat.beq (cj (at_ c p)) 1 && xK n (at_ c (0::p)) && (lq cx.P cx.G j (bOf n (at_ c (0::p))) (T,h)).isSome)=true)
 (hw:bS cx ((bOf n (at_ c (0::p))).drop j) (rS (lq cx.P cx.G j (bOf n (at_ c (0::p))) (T,h))) (fun T' h'=>dy (wpA cx n m (at_ c (1::p)) Q) Q .normal T' h')):wpA cx n m (at_ c p) Q T h:=by
 rw [Bool.and_eq_true] at hk
 exact wO hk.1 (FSa j hk.2 hw)
theorem vN (T':Tm) (h':ac) (hf:(bF l,j6 (sl T') S.1,S.2)=(false,T',h')) (hw:wpA cx n m d Q T' h'):bS cx l S (fun T h=>dy (wpA cx n m d Q) Q' .normal T h):=by
 simp only [Prod.mk.injEq] at hf
 exact Ht hf.1 (ab (wSt (sl T') T' h' hf.2.1 hf.2.2 hw))
theorem vR (j:Nat) (T':Tm) (h':ac) (hf:((lq cx.P cx.G j l S).isSome,bF (l.drop j),j6 (sl T') (rS (lq cx.P cx.G j l S)).1,(rS (lq cx.P cx.G j l S)).2)=(true,false,T',h')) (hw:wpA cx n m d Q T' h') :
 bS cx l S (fun T h=>dy (wpA cx n m d Q) Q' .normal T h):=by
 simp only [Prod.mk.injEq] at hf
 exact FSa j hf.1 (vN T' h' (by simp only [Prod.mk.injEq];exact hf.2) hw)
def wWf (cx:Cx) (n:Nat) (c:Code) (p:List Nat) (j:Nat) (T':Tm) (T:Tm) (h:ac):Bool×Bool×Tm×ac :=
 let r:=lq cx.P cx.G j (bOf n (at_ c (0::p))) (T,h)
 (Nat.beq (cj (at_ c p)) 1 && xK n (at_ c (0::p)) && r.isSome,bF ((bOf n (at_ c (0::p))).drop j),j6 (sl T') (rS r).1,(rS r).2)
theorem wW (j:Nat) (T':Tm) (h':ac) (hf:wWf cx n c p j T' T h=(true,false,T',h')) (hw:wpA cx n m (at_ c (1::p)) Q T' h'):wpA cx n m (at_ c p) Q T h:=by
 simp only [wWf,Prod.mk.injEq] at hf
 exact wV j hf.1 (vN T' h' (by simp only [Prod.mk.injEq];exact hf.2) hw)
theorem wU (j:Nat) (T':Tm) (hf:wWf cx n c p j T' T h=(true,false,T',h)) (hw:wpA cx n m (at_ c (1::p)) Q T' h):wpA cx n m (at_ c p) Q T h:=wW j T' h hf hw
theorem vT (hf:(Nat.beq (cj (at_ c p)) 8 && !(bF l))=true) (hw:Q .ret S.1 S.2):bS cx l S (fun T h=>dy (wpA cx n m (at_ c p) Q) Q' .normal T h):=by
 simp only [Bool.and_eq_true,Bool.not_eq_true'] at hf
 exact Ht hf.2 (ab (bb (Nat.eq_of_beq_eq_true hf.1) hw))
theorem vX (j:Nat) (hf:(Nat.beq (cj (at_ c p)) 8 && (lq cx.P cx.G j l S).isSome && !(bF (l.drop j)))=true) (hw:Q .ret (rS (lq cx.P cx.G j l S)).1 (rS (lq cx.P cx.G j l S)).2):bS cx l S (fun T h=>dy (wpA cx n m (at_ c p) Q) Q' .normal T h):=by
 simp only [Bool.and_eq_true] at hf
 exact FSa j hf.1.2 (vT (by simp only [Bool.and_eq_true];exact ⟨hf.1.1,hf.2⟩) hw)
theorem vs (e:Nat) {x y:Bool} (he:x=y) (hT:Tm.get S.1 e=.bool x) (hk:bS cx l (Hb S e (.bool y)) (fun T h=>dy (wpA cx n m d Q) Q' .normal T h)):bS cx l S (fun T h=>dy (wpA cx n m d Q) Q' .normal T h) :=
 gm e (.bool x) (.bool y) (gw aB) hT (congrArg aa.bool he) hk
theorem wT {x:Bool} (he:x=true) (hf:(cj (at_ c p),aev cx.G T (rt (at_ c p)))=(2,.bool x)) (hw:wpA cx n m (at_ c (0::p)) Q T h):wpA cx n m (at_ c p) Q T h:=by
 simp only [Prod.mk.injEq] at hf
 exact cp hf.1 (hf.2.trans (congrArg aa.bool he)) hw
theorem wF {x:Bool} (he:x=false) (hf:(cj (at_ c p),aev cx.G T (rt (at_ c p)))=(2,.bool x)) (hw:wpA cx n m (at_ c (1::p)) Q T h):wpA cx n m (at_ c p) Q T h:=by
 simp only [Prod.mk.injEq] at hf
 exact dY hf.1 (hf.2.trans (congrArg aa.bool he)) hw
theorem wK (hk:cj (at_ c p)=7) (hw:wpA cx n m d Q T h):wpA cx n m (at_ c p) (dy (wpA cx n m d Q) Q') T h:=GB hk (ab hw)
theorem wZ (T':Tm) (h':ac) (hf:(j6 (sl T') T,h)=(T',h')) (hw:wpA cx n m d Q T' h'):wpA cx n m d Q T h:=by
 simp only [Prod.mk.injEq] at hf
 exact wSt (sl T') T' h' hf.1 hf.2 hw
theorem wZs (T':Tm) (hf:j6 (sl T') T=T') (hw:wpA cx n m d Q T' h):wpA cx n m d Q T h:=wSt (sl T') T' h hf rfl hw
theorem vc (args:List aa) {f:FuncId} {args':List aa} {v:aa} {K:Tm→ac→Prop} (hq:ay cx f args' v)
 (hf:(bF l,bI S.1 (hdB l).g,(aop cx.P S.2 (aev cx.G S.1) (hdB l).op).isNone,aG (aev cx.G S.1) (hdB l).op,bo S.2 args,bP 0 args',(aS args).isEmpty)=(true,some true,true,some (f,args),args',true,true))
 (hk:bS cx l.tail (C3 S (hdB l).dst v) K):bS cx l S K:=by
 simp only [Prod.mk.injEq,Option.isNone_iff_eq_none,List.isEmpty_iff] at hf
 exact bp hf.1 hf.2.1 hf.2.2.1 hf.2.2.2.1 hq hf.2.2.2.2.1 hf.2.2.2.2.2.1 hf.2.2.2.2.2.2 hk
theorem aR {K:Tm→ac→Prop} (q:Q .ret T h):dy K Q .ret T h:=q
theorem iR {id:Nat} (q:Q .ret T h):AIn id Q .ret T h:=q
end
end Go.Proofs.YtdikgijfekfaoaaGreatDoor.Abs
namespace Go.Proofs.YtdikgijfekfaoaaGreatDoor.Abs
section
variable {cx:Cx} {n m:Nat} {Q Q':di} {T:Tm} {h:ac} {c d:Code} {p:List Nat} {l:List BOp} {S:RSt} {K:Tm→ac→Prop} {KD:List (List Nat×List Nat)→Tm→ac→Prop} {s:DSt}
def ar (hw:_) (hk:_):=IK (cx:=cx) (n:=n) (m:=m) (Q:=Q) (T:=T) (h:=h) (c:=c) (p:=p) hk hw
def qO (hw:_) (hk:_):=wO (cx:=cx) (n:=n) (m:=m) (Q:=Q) (T:=T) (h:=h) (c:=c) (p:=p) hk hw
def qV (j:Nat) (hw:_) (hk:_):=wV (cx:=cx) (n:=n) (m:=m) (Q:=Q) (T:=T) (h:=h) (c:=c) (p:=p) j hk hw
def qW (j:Nat) (T':Tm) (h':ac) (hw:_) (hk:_):=wW (cx:=cx) (n:=n) (m:=m) (Q:=Q) (T:=T) (h:=h) (c:=c) (p:=p) j T' h' hk hw
def qU (j:Nat) (T':Tm) (hw:_) (hk:_):=wU (cx:=cx) (n:=n) (m:=m) (Q:=Q) (T:=T) (h:=h) (c:=c) (p:=p) j T' hk hw
def qN (T':Tm) (h':ac) (hw:_) (hk:_):=vN (cx:=cx) (n:=n) (m:=m) (Q:=Q) (Q':=Q') (d:=d) (l:=l) (S:=S) T' h' hk hw
def qR (j:Nat) (T':Tm) (h':ac) (hw:_) (hk:_):=vR (cx:=cx) (n:=n) (m:=m) (Q:=Q) (Q':=Q') (d:=d) (l:=l) (S:=S) j T' h' hk hw
def qT (hw:_) (hk:_):=vT (cx:=cx) (n:=n) (m:=m) (Q:=Q) (Q':=Q') (c:=c) (p:=p) (l:=l) (S:=S) hk hw
def qX (j:Nat) (hw:_) (hk:_):=vX (cx:=cx) (n:=n) (m:=m) (Q:=Q) (Q':=Q') (c:=c) (p:=p) (l:=l) (S:=S) j hk hw
def qs (e:Nat) {x y:Bool} (he:x=y) (hw:_) (hk:_):=vs (cx:=cx) (n:=n) (m:=m) (Q:=Q) (Q':=Q') (d:=d) (l:=l) (S:=S) e he hk hw
def In (S:RSt) (v:aa):List Nat→RSt
 | []=>S
 | e::es=>In (Hb S e v) v es
theorem qm (es:List Nat) {x y:Bool} (he:x=y) (hw:bS cx l (In S (.bool y) es) (fun T h=>dy (wpA cx n m d Q) Q' .normal T h)) (hk:(es.map fun e=>Tm.get S.1 e)=es.map fun _=>.bool x):bS cx l S (fun T h=>dy (wpA cx n m d Q) Q' .normal T h):=by
 subst he
 induction es generalizing S with
 | nil=>exact hw
 | cons e es ih =>
  simp only [List.map_cons,List.cons.injEq] at hk
  refine vs e rfl hk.1 (ih ?_ hw)
  refine List.map_congr_left fun e' he'=>?_
  have h1:Tm.get S.1 e'=.bool x:=(List.map_inj_left.1 hk.2) e' he'
  show Tm.get ((e,.bool x)::S.1) e'=.bool x
  simp only [Tm.get]
  split
  · rfl
  · exact h1
def qt {x:Bool} (he:x=true) (hw:_) (hk:_):=wT (cx:=cx) (n:=n) (m:=m) (Q:=Q) (T:=T) (h:=h) (c:=c) (p:=p) he hk hw
def qf {x:Bool} (he:x=false) (hw:_) (hk:_):=wF (cx:=cx) (n:=n) (m:=m) (Q:=Q) (T:=T) (h:=h) (c:=c) (p:=p) he hk hw
def qK (hw:_) (hk:_):=wK (cx:=cx) (n:=n) (m:=m) (Q:=Q) (Q':=Q') (T:=T) (h:=h) (c:=c) (d:=d) (p:=p) hk hw
def qZ (T':Tm) (h':ac) (hw:_) (hk:_):=wZ (cx:=cx) (n:=n) (m:=m) (Q:=Q) (T:=T) (h:=h) (d:=d) T' h' hk hw
def qz (T':Tm) (hw:_) (hk:_):=wZs (cx:=cx) (n:=n) (m:=m) (Q:=Q) (T:=T) (h:=h) (d:=d) T' hk hw
def qc (args:List aa) {f:FuncId} {args':List aa} {v:aa} (hq:ay cx f args' v) (hw:_) (hk:_):=vc (cx:=cx) (l:=l) (S:=S) (K:=K) args hq hk hw
def qB (id:Nat) (hw:_) (hk:_) (hi:_):=GZ (cx:=cx) (n:=n) (m:=m) (Q:=Q) (T:=T) (h:=h) (c:=c) (p:=p) id hk hi hw
def qo (hw:_) (hk:_):=Ig (cx:=cx) (n:=n) (m:=m) (Q:=Q) (T:=T) (h:=h) (c:=c) (p:=p) hk (D7 hw)
def qr (j:Nat) (hw:_) (hk:_):=FSa (cx:=cx) (l:=l) (S:=S) (K:=K) j hk hw
def qe (hw:_) (hk:_):=Ht (cx:=cx) (l:=l) (S:=S) (K:=K) hk hw
def qk (hw:_) (hk:_):=GB (cx:=cx) (n:=n) (m:=m) (Q:=Q) (T:=T) (h:=h) (c:=c) (p:=p) hk hw
def qy {v:aa} (ho:aop cx.P S.2 (aev cx.G S.1) (hdB l).op=some (v,S.2)) (hw:_) (hc:_) (hg:_):=JH (cx:=cx) (l:=l) (S:=S) (K:=K) hc hg ho hw
def qY {v:aa} {o:Nat} {x:ai} (ho:aop cx.P S.2 (aev cx.G S.1) (hdB l).op=some (v,S.2.set o x)) (hw:_) (hc:_) (hg:_):=I7 (cx:=cx) (l:=l) (S:=S) (K:=K) hc hg ho hw
def qd {v:aa} (ho:aop cx.P s.2.2.1 (aev cx.G s.2.1) (hdB l).op=some (v,s.2.2.1)) (hw:_) (hc:_) (hg:_) (ha:_):=JV (cx:=cx) (l:=l) (s:=s) (KD:=KD) hc hg ha ho hw
def qD {v:aa} {ob:Nat} {x:ai} (ho:aop cx.P s.2.2.1 (aev cx.G s.2.1) (hdB l).op=some (v,s.2.2.1.set ob x)) (hw:_) (hc:_) (hg:_) (ha:_):=Jk (cx:=cx) (l:=l) (s:=s) (KD:=KD) hc hg ha ho hw
def qu (j:Nat) (hw:_) (hk:_):=JB (cx:=cx) (l:=l) (s:=s) (KD:=KD) j hk hw
end
abbrev nI (k:Nat):aa:=.int .i64 (k:Nat)
end Go.Proofs.YtdikgijfekfaoaaGreatDoor.Abs
namespace Go.Proofs.YtdikgijfekfaoaaGreatDoor.Abs
mutual
def dOf {H:Type}:DataW H→aa
 | .lit (.bool b)=>.bool b
 | .lit (.int k n)=>.int k n
 | .lit (.string s)=>.str s
 | .nil=>.imm []
 | .slice elems _=>.imm (rP elems)
 | .agg parts=>.agg (wb parts)
 | _=>.any
def rP {H:Type}:List (DataW H)→List aa
 | []=>[]
 | d::r=>dOf d::rP r
def wb {H:Type}:List (DataW H)→List aa
 | []=>[]
 | d::r=>(dOf d).cells++wb r
end
theorem mA {H:Type}:∀ l:List (DataW H),rP l=l.map dOf
 | []=>rfl
 | d::r=>by rw [rP,mA r];rfl
theorem iO {α β:Type} {f:α→Option β}:∀ {l:List α} {r:List β},l.mapM f=some r→r.length=l.length∧∀ (i:Nat) x,l[i]?=some x→∃ y,r[i]?=some y∧f x=some y
 | [],r,h=>by simp at h;subst h;simp
 | x::l,r,h=>by
  simp only [List.mapM_cons,Option.bind_eq_bind,Option.bind_eq_some_iff,Option.pure_def,Option.some.injEq] at h
  obtain ⟨y,hy,r',hr,rfl⟩:=h
  obtain ⟨h1,h2⟩:=iO hr
  refine ⟨by simp [h1],fun i z hz=>?_⟩
  cases i with
  | zero=>simp at hz;subst hz;exact ⟨y,rfl,hy⟩
  | succ i=>simp at hz;simpa using h2 i z hz
section
variable {H:Type} {enc:TypeId×Value→H} {P:Program} {w:World} {sp:Nat→Bool} {held:Bool}
theorem ly {fuel:Nat} {t e:TypeId} {cs:List Value} {d:DataW H} {ps:List MemPlace} (ht:P.underlying t=some (.slice e)) (h:DataW.trod enc P w 0 sp held (fuel+1) t cs=some (d,ps)) :
 (cs=[.slice none 0 0]∧d=.nil)∨∃ a len cap elems spare,cs=[.slice (some a) len cap]∧d=.slice elems spare∧elems.length=len∧len≤cap ∧
  ∀ (i:Nat) x,elems[i]?=some x→∃ cs' ps',w.cells? 0 (a.add (i * P.cellsOf e)) (P.cellsOf e)=some cs'∧DataW.trod enc P w 0 sp held fuel e cs'=some (x,ps'):=by
 unfold DataW.trod at h
 rw [ht] at h
 split at h <;> try (simp at h;done)
 all_goals (rename_i heq;cases heq)
 · simp at h;exact .inl ⟨rfl,h.1.symm⟩
 · rename_i a len cap
   right
   split at h
   · rename_i hc
     simp only [Option.bind_eq_some_iff,Option.map_eq_some_iff] at h
     obtain ⟨elems,he,aM,_,hd⟩:=h
     simp only [Prod.mk.injEq] at hd
     obtain ⟨h1,h2⟩:=iO he
     refine ⟨a,len,cap,_,_,rfl,hd.1.symm,by simpa using h1,hc.2.1,fun i x hx=>?_⟩
     simp only [List.getElem?_map,Option.map_eq_some_iff] at hx
     obtain ⟨y,hy,rfl⟩:=hx
     have hi:i<len:=by
      have:=(List.getElem?_eq_some_iff.1 hy).1
      simp at h1;omega
     obtain ⟨z,hz,hf⟩:=h2 i i (by simp [hi])
     rw [hy] at hz;cases hz
     simp only [Option.bind_eq_some_iff] at hf
     obtain ⟨cs',q1,q2⟩:=hf
     exact ⟨cs',_,q1,q2⟩
   · simp at h
theorem oi {fuel:Nat} {t:TypeId} {fs:Array Field} {cs:List Value} {d:DataW H} {ps:List MemPlace} (ht:P.underlying t=some (.struct fs)) (h:DataW.trod enc P w 0 sp held (fuel+1) t cs=some (d,ps)) :
 ∃ parts,d=.agg parts∧cs.length=P.cellsOf t∧parts.length=fs.toList.length∧∀ (i:Nat) f,fs.toList[i]?=some f→∃ x ps',parts[i]?=some x∧DataW.trod enc P w 0 sp held fuel f.type ((cs.drop f.offset).take (P.cellsOf f.type))=some (x,ps'):=by
 simp only [DataW.trod,ht] at h
 split at h
 · rename_i hc
   simp only [Option.map_eq_some_iff] at h
   obtain ⟨xs,hx,hd⟩:=h
   simp only [Prod.mk.injEq] at hd
   obtain ⟨h1,h2⟩:=iO hx
   refine ⟨_,hd.1.symm,hc,by simpa using h1,fun i f hf=>?_⟩
   obtain ⟨y,hy,q⟩:=h2 i f hf
   exact ⟨y.1,y.2,by simp [hy],q⟩
 · simp at h
theorem pz {fuel:Nat} {t e:TypeId} {n:Nat} {cs:List Value} {d:DataW H} {ps:List MemPlace} (ht:P.underlying t=some (.array n e)) (h:DataW.trod enc P w 0 sp held (fuel+1) t cs=some (d,ps)) :
 ∃ parts,d=.agg parts∧cs.length=P.cellsOf t∧parts.length=n∧∀ (i:Nat),i<n→∃ x ps',parts[i]?=some x∧DataW.trod enc P w 0 sp held fuel e ((cs.drop (i * P.cellsOf e)).take (P.cellsOf e))=some (x,ps'):=by
 simp only [DataW.trod,ht] at h
 split at h
 · rename_i hc
   simp only [Option.map_eq_some_iff] at h
   obtain ⟨xs,hx,hd⟩:=h
   simp only [Prod.mk.injEq] at hd
   obtain ⟨h1,h2⟩:=iO hx
   refine ⟨_,hd.1.symm,hc,by simpa using h1,fun i hi=>?_⟩
   obtain ⟨y,hy,q⟩:=h2 i i (by simp [hi])
   exact ⟨y.1,y.2,by simp [hy],q⟩
 · simp at h
theorem sL {fuel:Nat} {t:TypeId} {cs:List Value} {d:DataW H} {ps:List MemPlace} (ht:P.underlying t=some .bool) (h:DataW.trod enc P w 0 sp held (fuel+1) t cs=some (d,ps)):∃ b,cs=[.bool b]∧d=.lit (.bool b):=by
 unfold DataW.trod at h
 rw [ht] at h
 split at h <;> try (simp at h;done)
 all_goals (rename_i heq;cases heq)
 simp at h
 exact ⟨_,rfl,h.1.symm⟩
theorem pZ {fuel:Nat} {t:TypeId} {k:IntKind} {cs:List Value} {d:DataW H} {ps:List MemPlace} (ht:P.underlying t=some (.int k)) (h:DataW.trod enc P w 0 sp held (fuel+1) t cs=some (d,ps)):∃ n,cs=[.int k n]∧d=.lit (.int k n)∧(Lit.int k n).wf=true:=by
 unfold DataW.trod at h
 rw [ht] at h
 split at h <;> try (simp at h;done)
 all_goals (rename_i heq;cases heq)
 split at h
 · rename_i hc
   simp at h
   obtain ⟨rfl,hw⟩:=hc
   exact ⟨_,rfl,h.1.symm,hw⟩
 · simp at h
theorem nG {fuel:Nat} {t:TypeId} {cs:List Value} {d:DataW H} {ps:List MemPlace} (ht:P.underlying t=some .string) (h:DataW.trod enc P w 0 sp held (fuel+1) t cs=some (d,ps)):∃ s:ByteArray,cs=[.string s]∧d=.lit (.string s.data.toList):=by
 unfold DataW.trod at h
 rw [ht] at h
 split at h <;> try (simp at h;done)
 all_goals (rename_i heq;cases heq)
 split at h
 · simp at h
   exact ⟨_,rfl,h.1.symm⟩
 · simp at h
def EH (P:Program) (l:List TypeId) (total:Nat):Nat→List Field→Bool
 | off,[]=>Nat.beq off total
 | off,f::r=>Nat.beq f.offset off && l.contains f.type && EH P l total (off+P.cellsOf f.type) r
def y8 (P:Program) (l:List TypeId) (t:TypeId):Bool:=match P.underlying t with
 | some .bool=>Nat.beq (P.cellsOf t) 1
 | some (.int _)=>Nat.beq (P.cellsOf t) 1
 | some .string=>Nat.beq (P.cellsOf t) 1
 | some (.slice e)=>Nat.beq (P.cellsOf t) 1 && l.contains e && Nat.blt 0 (P.cellsOf e)
 | some (.struct fs)=>EH P l (P.cellsOf t) 0 fs.toList
 | some (.array n e)=>l.contains e && Nat.beq (P.cellsOf t) (n * P.cellsOf e)
 | _=>false
def uX (P:Program) (l:List TypeId):Bool:=l.all (y8 P l)
def d8 (ρ:Ren) (h:ac) (w:World) (xs:List aa) (cs:List Value):Prop:=xs.length=cs.length∧∀ (j:Nat) y v,xs[j]?=some y→cs[j]?=some v→VR ρ h w y v
theorem d8.append {ρ:Ren} {h:ac} {w:World} {xs ys:List aa} {cs ds:List Value} (h1:d8 ρ h w xs cs) (h2:d8 ρ h w ys ds):d8 ρ h w (xs++ys) (cs++ds):=by
 refine ⟨by simp [h1.1,h2.1],fun j y v hy hv=>?_⟩
 by_cases hj:j<xs.length
 · rw [List.getElem?_append_left hj] at hy
   rw [List.getElem?_append_left (by rw [← h1.1];exact hj)] at hv
   exact h1.2 j y v hy hv
 · rw [List.getElem?_append_right oq] at hy
   rw [List.getElem?_append_right (by rw [← h1.1];omega),← h1.1] at hv
   exact h2.2 _ y v hy hv
theorem d8.one {ρ:Ren} {h:ac} {w:World} {x:aa} {v:Value} (hx:VR ρ h w x v):d8 ρ h w [x] [v]:=by
 refine ⟨rfl,fun j y u hy hu=>?_⟩
 cases j with
 | zero=>simp at hy hu;subst hy hu;exact hx
 | succ j=>simp at hy
theorem sJ {a:Addr} {n:Nat} {cs:List Value} (h:w.cells? 0 a n=some cs):cs.length=n∧∀ j,j<n→∃ v,cs[j]?=some v∧w.cell? (a.add j)=some v:=by
 unfold World.cells? at h
 simp only [Nat.zero_le,if_true] at h
 obtain ⟨h1,h2⟩:=iO h
 refine ⟨by simpa using h1,fun j hj=>?_⟩
 exact h2 j j (by simp [hj])
theorem Ct {a:Addr} {v:Value} (h:w.cell? a=some v):a.spot=none∧a.block<w.heap.size:=by
 unfold World.cell? at h
 split at h
 · rename_i c t f hb
   split at h
   · simp at h
   · rename_i hs
     exact ⟨by cases hq:a.spot <;> simp_all,(Array.getElem?_eq_some_iff.1 hb).1⟩
 · simp at h
theorem qM {ρ:Ren} {hp:ac} {l:List TypeId} {total:Nat} {cs:List Value} (hc:cs.length=total):∀ (fs:List Field) (off:Nat) (parts:List (DataW H)),EH P l total off fs=true→off≤total→parts.length=fs.length →
 (∀ (i:Nat) f,fs[i]?=some f→∃ x,parts[i]?=some x∧(l.contains f.type=true→d8 ρ hp w (dOf x).cells ((cs.drop f.offset).take (P.cellsOf f.type))∧(dOf x).cells.length=P.cellsOf f.type)) →
 d8 ρ hp w (wb parts) (cs.drop off)
 | [],off,parts,h,ho,hl,_=>by
  have:parts=[]:=List.eq_nil_of_length_eq_zero nD
  subst this
  have e:off=total:=Nat.eq_of_beq_eq_true h
  rw [List.drop_of_length_le oq]
  exact ⟨rfl,by simp [wb]⟩
 | f::fs,off,parts,h,ho,hl,hp'=>by
  simp only [EH,Bool.and_eq_true] at h
  obtain ⟨⟨h1,h2⟩,h3⟩:=h
  obtain ⟨x,hx,hq⟩:=hp' 0 f rfl
  obtain ⟨q1,q2⟩:=hq h2
  cases parts with
  | nil=>simp at hl
  | cons p parts =>
   simp at hx;subst hx
   have e:f.offset=off:=Nat.eq_of_beq_eq_true h1
   rw [e] at q1
   have hle:off+P.cellsOf f.type≤total:=by
    have:=q1.1
    rw [q2] at this
    simp at this
    omega
   have ih:=qM hc fs (off+P.cellsOf f.type) parts h3 hle nD (fun i g hg=>by simpa using hp' (i+1) g (by simpa using hg))
   simp only [wb]
   have:=q1.append ih
   rwa [← List.drop_drop,List.take_append_drop] at this
theorem ou {ρ:Ren} {hp:ac} {sz:Nat} {cs:List Value}:∀ (n i:Nat) (parts:List (DataW H)),parts.length=n→cs.length=(i+n) * sz →
 (∀ (j:Nat),j<n→∃ x,parts[j]?=some x∧d8 ρ hp w (dOf x).cells ((cs.drop ((i+j) * sz)).take sz))→d8 ρ hp w (wb parts) (cs.drop (i * sz))
 | 0,i,parts,hl,hc,_=>by
  have:parts=[]:=List.eq_nil_of_length_eq_zero hl
  subst this
  rw [List.drop_of_length_le (by rw [hc,Nat.add_zero];exact Nat.le_refl _)]
  exact ⟨rfl,by simp [wb]⟩
 | n+1,i,parts,hl,hc,hq=>by
  cases parts with
  | nil=>simp at hl
  | cons p parts =>
   obtain ⟨x,hx,q⟩:=hq 0 oq
   simp at hx;subst hx
   have ih:=ou (ρ:=ρ) (hp:=hp) n (i+1) parts nD (by rw [hc];congr 1;omega) (fun j hj=>by
    obtain ⟨y,hy,q'⟩:=hq (j+1) oq
    exact ⟨y,by simpa using hy,by rw [show i+1+j=i+(j+1) by omega];exact q'⟩)
   have:=q.append ih
   rw [Nat.add_zero,Nat.add_mul,Nat.one_mul,← List.drop_drop,List.take_append_drop] at this
   simpa [wb] using this
theorem gD {ρ:Ren} {hp:ac} (hI:∀ b j,b<w.heap.size→ρ.I b j) {l:List TypeId} (hl:uX P l=true):∀ (fuel:Nat) (t:TypeId) (cs:List Value) (d:DataW H) (ps:List MemPlace),l.contains t=true→DataW.trod enc P w 0 sp held fuel t cs=some (d,ps) →
 d8 ρ hp w (dOf d).cells cs∧(dOf d).cells.length=P.cellsOf t
 | 0,t,cs,d,ps,_,h=>by simp [DataW.trod] at h
 | fuel+1,t,cs,d,ps,hm,h=>by
  have hpl:=List.all_eq_true.1 hl t (by simpa using hm)
  unfold y8 at hpl
  split at hpl <;> try (simp at hpl;done)
  · rename_i ht
    obtain ⟨b,rfl,rfl⟩:=sL ht h
    rw [Nat.eq_of_beq_eq_true hpl]
    exact ⟨.one (.bool b),rfl⟩
  · rename_i k ht
    obtain ⟨n,rfl,rfl,_⟩:=pZ ht h
    rw [Nat.eq_of_beq_eq_true hpl]
    exact ⟨.one (.int k n),rfl⟩
  · rename_i ht
    obtain ⟨s,rfl,rfl⟩:=nG ht h
    rw [Nat.eq_of_beq_eq_true hpl]
    exact ⟨.one (VR.str (ρ:=ρ) (h:=hp) (w:=w) s.data.toList),rfl⟩
  · rename_i e ht
    simp only [Bool.and_eq_true,Nat.blt_eq] at hpl
    obtain ⟨⟨h1,h2⟩,h3⟩:=hpl
    rw [Nat.eq_of_beq_eq_true h1]
    rcases ly ht h with ⟨rfl,rfl⟩|⟨a,len,cap,elems,spare,rfl,rfl,hlen,hcap,hel⟩
    · exact ⟨.one (.imm [] none 0 0 0 0 (fun _ _=>undef) (Nat.le_refl _) zq zq zq zq),rfl⟩
    · refine ⟨.one ?_,rfl⟩
      have ih:∀ (i:Nat) x,elems[i]?=some x→∃ cs',w.cells? 0 (a.add (i * P.cellsOf e)) (P.cellsOf e)=some cs'∧d8 ρ hp w (dOf x).cells cs'∧(dOf x).cells.length=P.cellsOf e:=fun i x hx=>by
       obtain ⟨cs',ps',q1,q2⟩:=hel i x hx
       exact ⟨cs',q1,gD hI hl fuel e cs' x ps' h2 q2⟩
      simp only [dOf]
      have hll:(rP elems).length=elems.length:=by rw [mA];simp
      have spot0:0<elems.length→a.spot=none∧a.block<w.heap.size:=fun hpos=>by
       obtain ⟨cs',q1,q2,q3⟩:=ih 0 elems[0] (List.getElem?_eq_getElem hpos)
       obtain ⟨g1,g2⟩:=sJ q1
       obtain ⟨v,_,hcell⟩:=g2 0 h3
       have:=Ct hcell
       simpa [Addr.add] using this
      have key:∀ (i:Nat) x (j:Nat) y,(rP elems)[i]?=some x→x.cells[j]?=some y→a.spot=none∧a.block<w.heap.size∧∃ v,w.cell? ⟨a.block,a.off+i * P.cellsOf e+j,none⟩=some v∧VR ρ hp w y v:=by
       intro i x j y hx hy
       rw [mA] at hx
       simp only [List.getElem?_map,Option.map_eq_some_iff] at hx
       obtain ⟨z,hz,rfl⟩:=hx
       obtain ⟨cs',q1,q2,q3⟩:=ih i z hz
       have hj:j<P.cellsOf e:=by rw [← q3];exact (List.getElem?_eq_some_iff.1 hy).1
       obtain ⟨g1,g2⟩:=sJ q1
       obtain ⟨v,hv,hcell⟩:=g2 j hj
       obtain ⟨hs,hb⟩:=spot0 (by have:=(List.getElem?_eq_some_iff.1 hz).1;omega)
       refine ⟨hs,hb,v,?_,q2.2 j y v hy hv⟩
       have e':(a.add (i * P.cellsOf e)).add j=⟨a.block,a.off+i * P.cellsOf e+j,none⟩:=by
        rw [show a=⟨a.block,a.off,none⟩ by cases a;simp_all,eY,eY]
       rw [← e'];exact hcell
      rw [show (Value.slice (some a) len cap)=Value.slice (some a) (rP elems).length cap by rw [hll,hlen]]
      refine .imm (rP elems) (some a) cap (P.cellsOf e) a.block a.off (fun i j=>(w.cell? ⟨a.block,a.off+i * P.cellsOf e+j,none⟩).getD undef) (by rw [hll,hlen];exact hcap) ?_ ?_ ?_ ?_
      · intro hpos
        obtain ⟨hs,_⟩:=spot0 (by rw [← hll];exact hpos)
        rw [show a=⟨a.block,a.off,none⟩ by cases a;simp_all]
      · intro i x hx
        rw [mA] at hx
        simp only [List.getElem?_map,Option.map_eq_some_iff] at hx
        obtain ⟨z,hz,rfl⟩:=hx
        obtain ⟨_,_,_,q3⟩:=ih i z hz
        exact q3
      · intro i x j y hx hy
        obtain ⟨_,hb,v,hv,_⟩:=key i x j y hx hy
        exact ⟨hI _ _ hb,by rw [hv];rfl⟩
      · intro i x j y hx hy
        obtain ⟨_,hb,v,hv,hvr⟩:=key i x j y hx hy
        simp only [hv,Option.getD_some]
        exact hvr
  · rename_i fs ht
    obtain ⟨parts,rfl,hc,hpl',hel⟩:=oi ht h
    have:=qM (P:=P) (w:=w) (ρ:=ρ) (hp:=hp) (l:=l) (total:=P.cellsOf t) hc fs.toList 0 parts hpl (Nat.zero_le _) hpl' (fun i f hf=>by
     obtain ⟨x,ps',q1,q2⟩:=hel i f hf
     exact ⟨x,q1,fun hin=>gD hI hl fuel f.type _ x ps' hin q2⟩)
    simp only [List.drop_zero] at this
    refine ⟨by simpa [dOf,aa.cells] using this,?_⟩
    rw [← hc];simpa [dOf,aa.cells] using this.1
  · rename_i n e ht
    simp only [Bool.and_eq_true] at hpl
    obtain ⟨parts,rfl,hc,hpl',hel⟩:=pz ht h
    have:=ou (w:=w) (ρ:=ρ) (hp:=hp) (sz:=P.cellsOf e) (cs:=cs) n 0 parts hpl' (by rw [hc,Nat.zero_add];exact Nat.eq_of_beq_eq_true hpl.2) (fun j hj=>by
     obtain ⟨x,ps',q1,q2⟩:=hel j hj
     exact ⟨x,q1,by rw [Nat.zero_add];exact (gD hI hl fuel e _ x ps' hpl.1 q2).1⟩)
    simp only [Nat.zero_mul,List.drop_zero] at this
    refine ⟨by simpa [dOf,aa.cells] using this,?_⟩
    rw [← hc];simpa [dOf,aa.cells] using this.1
end
end Go.Proofs.YtdikgijfekfaoaaGreatDoor.Abs
namespace Go.Proofs.YtdikgijfekfaoaaGreatDoor.Abs
open Go.RowKit Go.ChangeShapes
def m7 (W:World):Ren:=⟨fun _=>⟨0,0,0⟩,fun b _=>b<W.heap.size⟩
theorem EC (W:World):WF (m7 W) [] W:=⟨by simp,by simp,by simp,fun _ _ h=>h,by simp⟩
theorem yx {cx:Cx} {f:FuncId} {args:List aa} (hc:ay cx f args (.bool true)) {W:World} {cargs:Array Value} (hv:VRs (m7 W) [] W args cargs) (hg:wM cx (m7 W) W) :
 Calls cx.P f cargs W fun e W'=>e=.returned (.bool true)∧Below W.heap.size W W':=by
 refine (hc.2 (m7 W) W cargs (EC W) hg hv).mono ?_
 rintro e W' ⟨ρ',cv,v,h',rfl,⟨rfl,rfl⟩,r1,r2,r3,r4⟩
 refine ⟨by cases r1;rfl,r4.os,r4.tape,r4.output,r4.size,fun k hk=>r4.keep k hk ?_⟩
 rintro ⟨o,x,hx,_⟩
 simp at hx
section
variable {H:Type} {enc:TypeId×Value→H} {P:Program}
theorem kY (hl:laidOutB P=true) {W W':World} (hb:Below W.heap.size W W'):∀ (ts:List TypeId) (vs:List Value) (ds:List (DataW H)) (ps:List MemPlace),(∀ t∈ts,P.readableRec t=true∧t<P.types.size)→(∀ p∈ps,p.block<W.heap.size) →
 DataW.TrodAll enc P W 0 (fun _=>true) true ts vs ds ps→DataW.TrodAll enc P W' 0 (fun b=>decide (b<W.heap.size)) true ts vs ds ps
 | [],[],[],ps,_,_,h=>h
 | t::ts,v::vs,d::ds,ps,ht,hp,h=>by
  obtain ⟨p,q,h1,h2,rfl⟩:=h
  exact ⟨p,q,Below.trod hl (ht t zq).1 (ht t zq).2 h1 hb (fun x hx=>hp x (by simp [hx])),kY hl hb ts vs ds q (fun t' ht'=>ht t' (by simp [ht'])) (fun x hx=>hp x (by simp [hx])) h2,rfl⟩
 | [],_::_,_,_,_,_,h=>by simp [DataW.TrodAll] at h
 | [],[],_::_,_,_,_,h=>by simp [DataW.TrodAll] at h
 | _::_,[],_,_,_,_,h=>by simp [DataW.TrodAll] at h
 | _::_,_::_,[],_,_,_,h=>by simp [DataW.TrodAll] at h
theorem Ca {f:Func} {s:ChangeSpec} {t4:TypeId} {W W':World} {args:Array Value} {ds gs:List (DataW H)} {before:List MemPlace} (hl:laidOutB P=true) (hs:s.vars=[]) (hr:f.resultTypes=#[t4]) (h4:P.underlying t4=some .bool)
 (ht:∀ t∈f.params.toList,P.readableRec t=true∧t<P.types.size) (hW:DataW.Whole enc P f.params.toList s.vars false W args.toList ds gs before) (hfn:s.fn H (ds++gs)={ results:=[.lit (.bool true)],args:=ds }) (hb:Below W.heap.size W W') :
 s.post enc P f false true false false W args (.bool true) W':=by
 have hW':=hW
 obtain ⟨p,q,hA,hV,rfl,hfz,hnd⟩:=hW
 refine ⟨ds,gs,p++q,[],p,[],hW',?_,?_,?_,hb.frame _,fun h=>by cases h⟩
 · rw [hfn,hr]
   exact trodAll_cons_mk (shut_bool h4 _) trodAll_mk0
 · rw [hfn]
   exact kY hl hb _ _ _ _ ht (fun x hx=>hW'.lt x (by simp [hx])) hA
 · rw [hfn,hs]
   exact rfl
theorem mf {w:World} {n:String} {d:DataW Unit}:∀ {l:List (String×DataW Unit)} {ps:List MemPlace},DataW.LaidVars P w l ps→(n,d)∈l →
 ∃ g t cs fuel p,P.globalNamed n=some g∧(P.globals[g]?).map (·.type)=some t∧w.var? P n=some cs∧DataW.trod (fun _=>()) P w 0 (fun _=>true) false fuel t cs.toList=some (d,p)
 | [],ps,_,h=>by simp at h
 | (n',d')::l,ps,h,hm=>by
  obtain ⟨g,t,cs,fuel,p,q,h1,h2,h3,h4,h5,_⟩:=h
  simp only [List.mem_cons,Prod.mk.injEq] at hm
  rcases hm with ⟨rfl,rfl⟩|hm
  · exact ⟨g,t,cs,fuel,p,h1,h2,h3,h4⟩
  · exact mf h5 hm
theorem tb {w:World} {laid:List (String×DataW Unit)} (hh:laid.filter (fun x=>x.2.handleName?.isSome)=[]) (hL:laidMetH P laid w) {n:String} {d:DataW Unit} (hm:(n,d)∈laid) {g:Nat} {t:TypeId} (hg:P.globalNamed n=some g)
 (ht:(P.globals[g]?).map (·.type)=some t) {l:List TypeId} (hl:uX P l=true) (htl:l.contains t=true):VR (m7 w) [] w (.pimm (dOf d).cells 0) (.pointer (some ⟨g,0,none⟩)):=by
 unfold laidMetH at hL
 rw [hh] at hL
 obtain ⟨ps,hv,_⟩:=hL
 obtain ⟨g',t',cs,fuel,p,h1,h2,h3,h4⟩:=mf hv hm
 obtain rfl:=Option.some.inj (hg.symm.trans h1)
 obtain rfl:=Option.some.inj (ht.symm.trans h2)
 obtain ⟨hc,_⟩:=gD (w:=w) (ρ:=m7 w) (hp:=[]) (fun b _ hb=>hb) hl fuel t cs.toList d p htl h4
 have hblk:∃ t f,w.heap[g]?=some (.cells cs t f):=by
  unfold World.var? at h3
  rw [hg] at h3
  simp only [Option.bind_some] at h3
  split at h3
  · rename_i c t f hq
    simp only [Option.some.injEq] at h3
    subst h3
    exact ⟨t,f,hq⟩
  · simp at h3
 obtain ⟨ty,fr,hb⟩:=hblk
 have hcell:∀ (j:Nat) y,(dOf d).cells[j]?=some y→∃ v,cs[j]?=some v∧VR (m7 w) [] w y v:=fun j y hy=>by
  have hj:j<cs.size:=by
   have:=(List.getElem?_eq_some_iff.1 hy).1
   rw [hc.1] at this
   simpa using this
  exact ⟨cs[j],Array.getElem?_eq_getElem hj,hc.2 j y cs[j] hy (by simp [hj])⟩
 refine .pimm _ 0 g 0 (fun j=>(cs[j]?).getD undef) (fun j y hy=>⟨(Array.getElem?_eq_some_iff.1 hb).1,?_⟩) (fun j y hy=>?_)
 · obtain ⟨v,hv,_⟩:=hcell j y hy
   simp [World.cell?,hb,hv]
 · obtain ⟨v,hv,hvr⟩:=hcell j y hy
   simp only [hv,Option.getD_some]
   exact hvr
theorem yu {p:Prop} (h:p:=by rintro cs rfl;simp [Value.okWide,ht,Cell.okWide,Cell.ok] at hok):p:=h
theorem yK {w:World} {l:List TypeId} (hl:uX P l=true) {t:TypeId} (htl:l.contains t=true) {v:Value} {d:DataW H} {ps:List MemPlace} {base:Nat} (hok:Value.okWide P w .any base t v) (h:DataW.Trod enc P w 0 (fun _=>true) true t v d ps):VR (m7 w) [] w (dOf d) v:=by
 obtain ⟨fuel,h⟩:=h
 have hc:=(gD (w:=w) (ρ:=m7 w) (hp:=[]) (fun b _ hb=>hb) hl fuel t _ d ps htl h).1
 cases fuel with
 | zero=>simp [DataW.trod] at h
 | succ fuel =>
  have hpl:=List.all_eq_true.1 hl t (by simpa using htl)
  have aW:∀ x:aa,x.cells=[x]→dOf d=x→(∀ cs,v≠.agg cs)→VR (m7 w) [] w (dOf d) v:=by
   intro x hx hd hv
   have hvc:v.cells=#[v]:=by cases v <;> first|rfl|exact absurd rfl (hv _)
   rw [hd] at hc ⊢
   rw [hx,hvc] at hc
   exact hc.2 0 x v rfl rfl
  have aggc:∀ xs:List aa,dOf d=.agg xs→(∃ cs,v=.agg cs)→VR (m7 w) [] w (dOf d) v:=by
   rintro xs hd ⟨cs,rfl⟩
   rw [hd] at hc ⊢
   refine .agg xs cs ?_ fun i x u hx hu=>hc.2 i x u hx ?_
   · have:=hc.1;simp [aa.cells,Value.cells] at this;omega
   · simpa [Value.cells] using hu
  unfold y8 at hpl
  split at hpl <;> try (simp at hpl;done)
  · rename_i ht
    obtain ⟨b,hcs,rfl⟩:=sL ht h
    exact aW _ rfl rfl yu
  · rename_i k ht
    obtain ⟨n,hcs,rfl,_⟩:=pZ ht h
    exact aW _ rfl rfl yu
  · rename_i ht
    obtain ⟨s,hcs,rfl⟩:=nG ht h
    exact aW _ rfl rfl yu
  · rename_i e ht
    have hna:∀ cs,v≠.agg cs:=by rintro cs rfl;simp [Value.okWide,ht,Cell.okWide,Cell.ok] at hok
    rcases ly ht h with ⟨_,rfl⟩|⟨a,len,cap,elems,spare,_,rfl,_⟩
    · exact aW _ rfl rfl hna
    · exact aW _ rfl rfl hna
  · rename_i fs ht
    obtain ⟨parts,rfl,_⟩:=oi ht h
    simp only [Value.okWide,ht] at hok
    obtain ⟨cs,rfl,_⟩:=hok
    exact aggc _ rfl ⟨cs,rfl⟩
  · rename_i n e ht
    obtain ⟨parts,rfl,_⟩:=pz ht h
    simp only [Value.okWide,ht] at hok
    obtain ⟨cs,rfl,_⟩:=hok
    exact aggc _ rfl ⟨cs,rfl⟩
end
end Go.Proofs.YtdikgijfekfaoaaGreatDoor.Abs
namespace Go.Proofs.YtdikgijfekfaoaaGreatDoor
open Go.Proofs.YtdikgijfekfaoaaGreatDoor.Abs
theorem ty3:ba Tryz.prog 3=some ⟨.int .i64,1,8,.int .i64 0⟩:=by kernel_rfl
theorem ty4:ba Tryz.prog 4=some ⟨.bool,1,1,.bool false⟩:=by kernel_rfl
theorem ty9:ba Tryz.prog 9=some ⟨.str,1,16,.str []⟩:=by kernel_rfl
theorem bi:ba Tryz.prog 22=some ⟨.slice 9,1,24,.full []⟩:=by kernel_rfl
theorem bf:ba Tryz.prog 23=some ⟨.slice 25,1,24,.full []⟩:=by kernel_rfl
theorem bX:ba Tryz.prog 25=some ⟨.struct [(0,3),(1,9),(2,3),(3,22),(4,23)],5,80,.agg [.int .i64 0,.str [],.int .i64 0,.full [],.full []]⟩:=by kernel_rfl
theorem ff:ba Tryz.prog 26=some ⟨.slice 3,1,24,.full []⟩:=by kernel_rfl
theorem Fl:ba Tryz.prog 71=some ⟨.map 3 4,1,8,.nilm⟩:=by kernel_rfl
theorem pH:ba Tryz.prog 72=some ⟨.map 3 22,1,8,.nilm⟩:=by kernel_rfl
theorem ng:ba Tryz.prog 77=some ⟨.slice 80,1,24,.full []⟩:=by kernel_rfl
theorem zN:ba Tryz.prog 80=some ⟨.struct [(0,3),(1,4),(2,22)],3,40,.agg [.int .i64 0,.bool false,.full []]⟩:=by kernel_rfl
theorem Gx:ba Tryz.prog 83=some ⟨.map 3 25,1,8,.nilm⟩:=by kernel_rfl
theorem jo:ba Tryz.prog 88=some ⟨.map 3 93,1,8,.nilm⟩:=by kernel_rfl
theorem mB:ba Tryz.prog 93=some ⟨.struct [(0,4),(1,3),(2,4),(3,25),(8,22)],9,128,.agg [.bool false,.int .i64 0,.bool false,.int .i64 0,.str [],.int .i64 0,.full [],.full [],.full []]⟩:=by kernel_rfl
theorem sw:ba Tryz.prog 106=some ⟨.map 9 25,1,8,.nilm⟩:=by kernel_rfl
theorem x7:ba Tryz.prog 137=some ⟨.map 9 4,1,8,.nilm⟩:=by kernel_rfl
theorem GD:ba Tryz.prog 152=some ⟨.int .u64,1,8,.int .u64 0⟩:=by kernel_rfl
end Go.Proofs.YtdikgijfekfaoaaGreatDoor
namespace Go.Proofs.YtdikgijfekfaoaaGreatDoor
open Go.Proofs.YtdikgijfekfaoaaGreatDoor.Abs
def inB (c lo hi:UInt8):Bool:=decide (lo≤c) && decide (c≤hi)
def lA (c:UInt8):Bool:=c==9 || c==10 || c==13 || c==32
def lU (c:UInt8):Bool:=inB c 48 57
def uH (c:UInt8):Bool:=inB c 97 122
def zF (c:UInt8):Bool:=inB c 65 90
def gX (c:UInt8):Bool:=uH c || lU c || c==95
def tN (c:UInt8):Bool:=uH c || zF c || lU c
def mX (c:UInt8):Bool:=c != 10
theorem Ed (p:UInt8→Bool):∀ (s:List UInt8) (k:Nat),k≤s.length→(∀ i,i<k→p (s.getD i 0)=true)→(k=s.length∨p (s.getD k 0)=false)→(s.takeWhile p).length=k
 | [],k,h,_,_=>by simp at h;simp [h]
 | c::s,0,_,_,h=>by
  rcases h with h|h
  · simp at h
  · simp at h;simp [List.takeWhile,h]
 | c::s,k+1,h,ha,hz=>by
  have h0:p c=true:=by simpa using ha 0 oq
  have ih:=Ed p s k (by simpa using h) (fun i hi=>by simpa using ha (i+1) oq) (by simpa using hz)
  simp [List.takeWhile,h0,ih]
theorem jh (p:UInt8→Bool) (s:List UInt8):(s.takeWhile p).length≤s.length:=(List.takeWhile_sublist p).length_le
theorem gK:∀ (a b c:List UInt8),aY a b=true→aY b c=true→aY a c=true
 | _,_,[],_,h=>by simp [aY,Op.bytesLess] at h
 | _,[],_::_,h,_=>by simp [aY,Op.bytesLess] at h
 | [],_::_,_::_,_,_=>by simp [aY,Op.bytesLess]
 | x::a,y::b,z::c,h1,h2=>by
  simp only [aY,Op.bytesLess,Bool.or_eq_true,Bool.and_eq_true,decide_eq_true_eq,beq_iff_eq] at h1 h2 ⊢
  rcases h1 with h1|⟨rfl,h1⟩ <;> rcases h2 with h2|⟨rfl,h2⟩
  · exact .inl (UInt8.lt_trans h1 h2)
  · exact .inl h1
  · exact .inl h2
  · exact .inr ⟨rfl,gK a b c h1 h2⟩
theorem fM:∀ a:List UInt8,aY a a=false
 | []=>rfl
 | x::a=>by simp [aY,Op.bytesLess];exact fM a
theorem nV:∀ a b:List UInt8,aY a b=false→a=b∨aY b a=true
 | [],[],_=>.inl rfl
 | [],_::_,h=>by simp [aY,Op.bytesLess] at h
 | _::_,[],_=>.inr (by simp [aY,Op.bytesLess])
 | x::a,y::b,h=>by
  simp only [aY,Op.bytesLess,Bool.or_eq_false_iff,decide_eq_false_iff_not,Bool.and_eq_false_iff] at h
  simp only [aY,Op.bytesLess,Bool.or_eq_true,Bool.and_eq_true,decide_eq_true_eq,beq_iff_eq]
  by_cases e:x=y
  · subst e
    rcases h.2 with h2|h2
    · simp at h2
    · rcases nV a b h2 with rfl|h3
      · exact .inl rfl
      · exact .inr (.inr ⟨rfl,h3⟩)
  · right;left
    rcases UInt8.lt_or_lt_of_ne (Ne.symm e) with h3|h3
    · exact h3
    · exact absurd h3 h.1
def kws:List (List UInt8):=[[97,110,100],[97,115],[99,104,101,99,107],[100,101,108,101,116,101],[101,108,115,101],[102,97,108,115,101],[102,117,110],[105,102],[105,110],[105,110,115,101,114,116],[107,101,121],[108,101,116],[109,97,116,99,104],[110,111,116],[111,114],[112,114,111,99],[114,101,102],[115,101,116],[116,97,98,108,101],[116,104,101,110],[116,111],[116,114,117,101],[116,121,112,101],[117,112,100,97,116,101],[119,104,101,114,101],[119,105,116,104]]
def Iw:List (List UInt8):=[[61,61],[33,61],[60,61],[60,45],[45,62],[43,43],[60],[62],[61],[43],[45],[42],[40],[41],[123],[125],[91],[93],[44],[46],[58],[124],[59],[63]]
def FJ (s:List UInt8):Bool:=kws.contains s
def aZ (s p:List UInt8):Bool:=s.take p.length==p
def nE (s:List UInt8):Nat:=match Iw.find? (aZ s) with
 | some x=>x.length
 | none=>0
def isQ (c:UInt8):Bool:=c==34 || c==10
def fh (s:List UInt8):Int:=match s.findIdx? isQ with
 | some n=>(n:Nat)
 | none=>-1
theorem ET (s:List UInt8):-1≤fh s:=by unfold fh;split <;> omega
theorem zZ (s:List UInt8):fh s<(s.length:Nat):=by
 unfold fh
 split
 · rename_i n hn
   have:=(List.findIdx?_eq_some_iff_getElem.1 hn).1
   omega
 · omega
def kE (s:List UInt8):Nat:=if fh (s.drop 1)<0 then 0 else if s.getD (1+fh (s.drop 1)).toNat 0=10 then 0 else (fh (s.drop 1)+2).toNat
def fE (s:List UInt8):Int×Nat :=
 if lA (s.getD 0 0) then (0,(s.takeWhile lA).length)
 else if s.getD 0 0=35 then (1,(s.takeWhile mX).length)
 else if uH (s.getD 0 0) then (if FJ (s.take (s.takeWhile gX).length) then 7 else 2,(s.takeWhile gX).length)
 else if zF (s.getD 0 0) then (3,(s.takeWhile tN).length)
 else if lU (s.getD 0 0) then (4,(s.takeWhile lU).length)
 else if s.getD 0 0=34 then (5,kE s)
 else (6,nE s)
def j8 (s:List UInt8):Nat→Nat→Nat
 | 0,n=>n
 | f+1,n=>if n<s.length∧s.getD n 0≠34∧(fE (s.drop n)).2=0 then j8 s f (n+1) else n
def next (s:List UInt8):Int×Nat :=
 if 0<(fE s).2 then fE s
 else if s.getD 0 0=34 then (8,(s.takeWhile mX).length)
 else (8,j8 s (s.length - 1) 1)
theorem zg {s:List UInt8} {n:Nat} (h1:n<s.length) (h2:s.getD n 0≠34) (h3:(fE (s.drop n)).2=0):j8 s (s.length - n) n=j8 s (s.length - (n+1)) (n+1):=by
 have:s.length - n=(s.length - (n+1))+1:=by omega
 rw [this,j8,if_pos ⟨h1,h2,h3⟩]
theorem zm {s:List UInt8} {f n:Nat} (h:¬ (n<s.length∧s.getD n 0≠34∧(fE (s.drop n)).2=0)):j8 s f n=n:=by
 cases f with
 | zero=>rfl
 | succ f=>rw [j8,if_neg h]
def aW (s:List UInt8):Int×Bool:=if s=[] then (0,false) else ((next s).1,decide ((next s).2=s.length))
def cu (want:Int) (s:List UInt8):Bool:=decide ((aW s).2=true∧(aW s).1=want∧s.length≤16)
def cls (c:UInt8):Int:=if lA c then 0 else if uH c then 1 else if zF c then 2 else if lU c then 3 else if c=95 then 4 else 5
end Go.Proofs.YtdikgijfekfaoaaGreatDoor
namespace Go.Proofs.YtdikgijfekfaoaaGreatDoor
open Go.Proofs.YtdikgijfekfaoaaGreatDoor.Abs
end Go.Proofs.YtdikgijfekfaoaaGreatDoor
namespace Go.Proofs.YtdikgijfekfaoaaGreatDoor
open Go.Proofs.YtdikgijfekfaoaaGreatDoor.Abs
set_option maxRecDepth 20000
set_option maxHeartbeats 4000000
def aE (f:Func):Code:=match f.body with
 | some c=>c
 | none=>.skip
def oP:List aa:=[.str [97,110,100],.str [97,115],.str [99,104,101,99,107],.str [100,101,108,101,116,101],.str [101,108,115,101],.str [102,97,108,115,101],.str [102,117,110],.str [105,102],.str [105,110],.str [105,110,115,101,114,116],.str [107,101,121],.str [108,101,116],.str [109,97,116,99,104],.str [110,111,116],.str [111,114],.str [112,114,111,99],.str [114,101,102],.str [115,101,116],.str [116,97,98,108,101],.str [116,104,101,110],.str [116,111],.str [116,114,117,101],.str [116,121,112,101],.str [117,112,100,97,116,101],.str [119,104,101,114,101],.str [119,105,116,104]]
def aj:List aa:=[.str [61,61],.str [33,61],.str [60,61],.str [60,45],.str [45,62],.str [43,43],.str [60],.str [62],.str [61],.str [43],.str [45],.str [42],.str [40],.str [41],.str [123],.str [125],.str [91],.str [93],.str [44],.str [46],.str [58],.str [124],.str [59],.str [63]]
noncomputable def cx:Cx:=⟨Tryz.prog,fun g=>bif Nat.beq g 4 then some oP else bif Nat.beq g 5 then some aj else none⟩
theorem cxM:cx.P.follows .mixedOrders=true:=by kernel_rfl
noncomputable def JQ:Code:=aE Tryz.f196
theorem uo (c lo hi:UInt8) :ay cx 196 [.int .u8 (((c:UInt8).toNat:Nat):Int),.int .u8 (((lo:UInt8).toNat:Nat):Int),.int .u8 (((hi:UInt8).toNat:Nat):Int)] (.bool (inB c lo hi)):=by
 refine ap (cx:=cx) 15 0 [(ResultVar.tmp 6)] Tryz.func196 rfl rfl rfl rfl rfl zq ?_
 show wpA cx 15 0 (at_ JQ []) _ _ _
 refine qZ [(0,.int .u8 (((c:UInt8).toNat:Nat):Int)),(1,.int .u8 (((lo:UInt8).toNat:Nat):Int)),(2,.int .u8 (((hi:UInt8).toNat:Nat):Int))] [] ?_ ?_
 refine qU 1 [(0,.int .u8 (((c:UInt8).toNat:Nat):Int)),(1,.int .u8 (((lo:UInt8).toNat:Nat):Int)),(2,.int .u8 (((hi:UInt8).toNat:Nat):Int))] ?_ ?_
 refine qV 4 ?_ ?_
 by_cases hb1:lo≤c
 refine qm [9,10] (x:=(decide ((((c:UInt8).toNat:Nat):Int) ≥ (((lo:UInt8).toNat:Nat):Int)))) (Gn (a:=c) (b:=lo) kq kq hb1) ?_ ?_
 refine qX 5 ?_ ?_
 refine aH (b:=(decide ((((c:UInt8).toNat:Nat):Int)≤(((hi:UInt8).toNat:Nat):Int)))) (.inr rfl) kq ?_
 by_cases hb2:c≤hi
 refine Eq.trans (EJ (a:=c) (b:=hi) kq kq hb2) ?_
 · simp [inB, *]
 refine Eq.trans (Gs (a:=c) (b:=hi) kq kq hb2) ?_
 · simp [inB, *]
 iterate 2 kernel_rfl
 refine qm [9,10] (x:=(decide ((((c:UInt8).toNat:Nat):Int) ≥ (((lo:UInt8).toNat:Nat):Int)))) (EL (a:=c) (b:=lo) kq kq hb1) ?_ ?_
 refine qX 5 ?_ ?_
 refine aH (b:=false) (.inr rfl) kq ?_
 · simp [inB, *]
 iterate 5 kernel_rfl
noncomputable def J3:Code:=aE Tryz.f174
theorem i3 (c:UInt8) :ay cx 174 [.int .u8 (((c:UInt8).toNat:Nat):Int)] (.bool (lU c)):=by
 refine ap (cx:=cx) 5 0 [(ResultVar.tmp 2)] Tryz.func174 rfl rfl rfl rfl rfl zq ?_
 show wpA cx 5 0 (at_ J3 []) _ _ _
 refine qZ [(0,.int .u8 (((c:UInt8).toNat:Nat):Int))] [] ?_ ?_
 refine qU 1 [(0,.int .u8 (((c:UInt8).toNat:Nat):Int))] ?_ ?_
 refine qV 1 ?_ ?_
 refine qc [.int .u8 (((c:UInt8).toNat:Nat):Int),.int .u8 48,.int .u8 57] (uo c (48:UInt8) (57:UInt8)) ?_ ?_
 refine qX 1 ?_ ?_
 refine aH (b:=(inB c (48:UInt8) (57:UInt8))) (.inr rfl) kq ?_
 · rfl
 iterate 5 kernel_rfl
noncomputable def JT:Code:=aE Tryz.f169
theorem lu (c:UInt8) :ay cx 169 [.int .u8 (((c:UInt8).toNat:Nat):Int)] (.bool (uH c)):=by
 refine ap (cx:=cx) 5 0 [(ResultVar.tmp 2)] Tryz.func169 rfl rfl rfl rfl rfl zq ?_
 show wpA cx 5 0 (at_ JT []) _ _ _
 refine qZ [(0,.int .u8 (((c:UInt8).toNat:Nat):Int))] [] ?_ ?_
 refine qU 1 [(0,.int .u8 (((c:UInt8).toNat:Nat):Int))] ?_ ?_
 refine qV 1 ?_ ?_
 refine qc [.int .u8 (((c:UInt8).toNat:Nat):Int),.int .u8 97,.int .u8 122] (uo c (97:UInt8) (122:UInt8)) ?_ ?_
 refine qX 1 ?_ ?_
 refine aH (b:=(inB c (97:UInt8) (122:UInt8))) (.inr rfl) kq ?_
 · rfl
 iterate 5 kernel_rfl
noncomputable def JD:Code:=aE Tryz.f172
theorem pi (c:UInt8) :ay cx 172 [.int .u8 (((c:UInt8).toNat:Nat):Int)] (.bool (zF c)):=by
 refine ap (cx:=cx) 5 0 [(ResultVar.tmp 2)] Tryz.func172 rfl rfl rfl rfl rfl zq ?_
 show wpA cx 5 0 (at_ JD []) _ _ _
 refine qZ [(0,.int .u8 (((c:UInt8).toNat:Nat):Int))] [] ?_ ?_
 refine qU 1 [(0,.int .u8 (((c:UInt8).toNat:Nat):Int))] ?_ ?_
 refine qV 1 ?_ ?_
 refine qc [.int .u8 (((c:UInt8).toNat:Nat):Int),.int .u8 65,.int .u8 90] (uo c (65:UInt8) (90:UInt8)) ?_ ?_
 refine qX 1 ?_ ?_
 refine aH (b:=(inB c (65:UInt8) (90:UInt8))) (.inr rfl) kq ?_
 · rfl
 iterate 5 kernel_rfl
noncomputable def Ju:Code:=aE Tryz.f168
theorem p6 (c:UInt8) :ay cx 168 [.int .u8 (((c:UInt8).toNat:Nat):Int)] (.bool (lA c)):=by
 refine ap (cx:=cx) 17 0 [(ResultVar.tmp 2)] Tryz.func168 rfl rfl rfl rfl rfl zq ?_
 show wpA cx 17 0 (at_ Ju []) _ _ _
 refine qZ [(0,.int .u8 (((c:UInt8).toNat:Nat):Int))] [] ?_ ?_
 refine qU 1 [(0,.int .u8 (((c:UInt8).toNat:Nat):Int))] ?_ ?_
 refine qV 3 ?_ ?_
 by_cases hb1:c=(9:UInt8)
 refine qm [4,5] (x:=((((c:UInt8).toNat:Nat):Int)==9)) (fD (a:=c) (b:=(9:UInt8)) kq kq hb1) ?_ ?_
 refine qX 12 ?_ ?_
 refine aH (b:=true) (.inr rfl) kq ?_
 · simp [lA, *]
 iterate 2 kernel_rfl
 refine qm [4,5] (x:=((((c:UInt8).toNat:Nat):Int)==9)) (fH (a:=c) (b:=(9:UInt8)) kq kq hb1) ?_ ?_
 refine qr 4 ?_ ?_
 by_cases hb2:c=(10:UInt8)
 refine qm [7,8,9] (x:=((((c:UInt8).toNat:Nat):Int)==10)) (fD (a:=c) (b:=(10:UInt8)) kq kq hb2) ?_ ?_
 refine qX 8 ?_ ?_
 refine aH (b:=true) (.inr rfl) kq ?_
 · simp [lA, *]
 iterate 2 kernel_rfl
 refine qm [7,8,9] (x:=((((c:UInt8).toNat:Nat):Int)==10)) (fH (a:=c) (b:=(10:UInt8)) kq kq hb2) ?_ ?_
 refine qr 4 ?_ ?_
 by_cases hb3:c=(13:UInt8)
 refine qm [11,12,13] (x:=((((c:UInt8).toNat:Nat):Int)==13)) (fD (a:=c) (b:=(13:UInt8)) kq kq hb3) ?_ ?_
 refine qX 4 ?_ ?_
 refine aH (b:=true) (.inr rfl) kq ?_
 · simp [lA, *]
 iterate 2 kernel_rfl
 refine qm [11,12,13] (x:=((((c:UInt8).toNat:Nat):Int)==13)) (fH (a:=c) (b:=(13:UInt8)) kq kq hb3) ?_ ?_
 refine qX 4 ?_ ?_
 refine aH (b:=((((c:UInt8).toNat:Nat):Int)==32)) (.inr rfl) kq ?_
 by_cases hb4:c=(32:UInt8)
 refine Eq.trans (fD (a:=c) (b:=(32:UInt8)) kq kq hb4) ?_
 · simp [lA, *]
 refine Eq.trans (fH (a:=c) (b:=(32:UInt8)) kq kq hb4) ?_
 · simp [lA, *]
 iterate 9 kernel_rfl
noncomputable def Jz:Code:=aE Tryz.f170
theorem Be (c:UInt8) :ay cx 170 [.int .u8 (((c:UInt8).toNat:Nat):Int)] (.bool (gX c)):=by
 refine ap (cx:=cx) 13 0 [(ResultVar.tmp 2)] Tryz.func170 rfl rfl rfl rfl rfl zq ?_
 show wpA cx 13 0 (at_ Jz []) _ _ _
 refine qZ [(0,.int .u8 (((c:UInt8).toNat:Nat):Int))] [] ?_ ?_
 refine qU 1 [(0,.int .u8 (((c:UInt8).toNat:Nat):Int))] ?_ ?_
 refine qV 1 ?_ ?_
 refine qc [.int .u8 (((c:UInt8).toNat:Nat):Int)] (lu c) ?_ ?_
 refine qr 1 ?_ ?_
 by_cases hb1:(uH c)=true
 refine qm [4,5] (hb1) ?_ ?_
 refine qX 8 ?_ ?_
 refine aH (b:=true) (.inr rfl) kq ?_
 · simp [gX, *]
 iterate 2 kernel_rfl
 refine qm [4,5] (Bool.eq_false_iff.2 hb1) ?_ ?_
 refine qr 1 ?_ ?_
 refine qc [.int .u8 (((c:UInt8).toNat:Nat):Int)] (i3 c) ?_ ?_
 refine qr 2 ?_ ?_
 by_cases hb2:(lU c)=true
 refine qm [7,8,9] (hb2) ?_ ?_
 refine qX 4 ?_ ?_
 refine aH (b:=true) (.inr rfl) kq ?_
 · simp [gX, *]
 iterate 2 kernel_rfl
 refine qm [7,8,9] (Bool.eq_false_iff.2 hb2) ?_ ?_
 refine qX 4 ?_ ?_
 refine aH (b:=((((c:UInt8).toNat:Nat):Int)==95)) (.inr rfl) kq ?_
 by_cases hb3:c=(95:UInt8)
 refine Eq.trans (fD (a:=c) (b:=(95:UInt8)) kq kq hb3) ?_
 · simp [gX, *]
 refine Eq.trans (fH (a:=c) (b:=(95:UInt8)) kq kq hb3) ?_
 · simp [gX, *]
 iterate 11 kernel_rfl
noncomputable def JY:Code:=aE Tryz.f173
theorem Bh (c:UInt8) :ay cx 173 [.int .u8 (((c:UInt8).toNat:Nat):Int)] (.bool (tN c)):=by
 refine ap (cx:=cx) 13 0 [(ResultVar.tmp 2)] Tryz.func173 rfl rfl rfl rfl rfl zq ?_
 show wpA cx 13 0 (at_ JY []) _ _ _
 refine qZ [(0,.int .u8 (((c:UInt8).toNat:Nat):Int))] [] ?_ ?_
 refine qU 1 [(0,.int .u8 (((c:UInt8).toNat:Nat):Int))] ?_ ?_
 refine qV 1 ?_ ?_
 refine qc [.int .u8 (((c:UInt8).toNat:Nat):Int)] (lu c) ?_ ?_
 refine qr 1 ?_ ?_
 by_cases hb1:(uH c)=true
 refine qm [4,5] (hb1) ?_ ?_
 refine qX 8 ?_ ?_
 refine aH (b:=true) (.inr rfl) kq ?_
 · simp [tN, *]
 iterate 2 kernel_rfl
 refine qm [4,5] (Bool.eq_false_iff.2 hb1) ?_ ?_
 refine qr 1 ?_ ?_
 refine qc [.int .u8 (((c:UInt8).toNat:Nat):Int)] (pi c) ?_ ?_
 refine qr 2 ?_ ?_
 by_cases hb2:(zF c)=true
 refine qm [7,8,9] (hb2) ?_ ?_
 refine qX 4 ?_ ?_
 refine aH (b:=true) (.inr rfl) kq ?_
 · simp [tN, *]
 iterate 2 kernel_rfl
 refine qm [7,8,9] (Bool.eq_false_iff.2 hb2) ?_ ?_
 refine qr 1 ?_ ?_
 refine qc [.int .u8 (((c:UInt8).toNat:Nat):Int)] (i3 c) ?_ ?_
 refine qX 2 ?_ ?_
 refine aH (b:=(lU c)) (.inr rfl) kq ?_
 · simp [tN, *]
 iterate 13 kernel_rfl
noncomputable def JZ:Code:=aE Tryz.f146
theorem tG (c:UInt8) :ay cx 146 [.int .u8 (((c:UInt8).toNat:Nat):Int)] (.bool (mX c)):=by
 refine ap (cx:=cx) 5 0 [(ResultVar.tmp 2)] Tryz.func146 rfl rfl rfl rfl rfl zq ?_
 show wpA cx 5 0 (at_ JZ []) _ _ _
 refine qZ [(0,.int .u8 (((c:UInt8).toNat:Nat):Int))] [] ?_ ?_
 refine qU 1 [(0,.int .u8 (((c:UInt8).toNat:Nat):Int))] ?_ ?_
 refine qV 3 ?_ ?_
 refine qT ?_ ?_
 refine aH (b:=((((c:UInt8).toNat:Nat):Int) != 10)) (.inr rfl) kq ?_
 by_cases hb1:c=(10:UInt8)
 refine Eq.trans (AL (a:=c) (b:=(10:UInt8)) kq kq hb1) ?_
 · simp [mX, *]
 refine Eq.trans (AX (a:=c) (b:=(10:UInt8)) kq kq hb1) ?_
 · simp [mX, *]
 iterate 4 kernel_rfl
noncomputable def JL:Code:=aE Tryz.f145
theorem iI (s:List UInt8) (cls:Nat) (p:UInt8→Bool) (hc:∀ c:UInt8,ay cx cls [.int .u8 ((c.toNat:Nat):Int)] (.bool (p c))) (hs:s.length<1000000000):ay cx 145 [.str s,.fn (.func cls) [] []] (.int .i64 (((s.takeWhile p).length:Nat):Int)):=by
 refine ap (cx:=cx) 20 0 [(ResultVar.tmp 4)] Tryz.func145 rfl rfl rfl rfl rfl zq ?_
 show wpA cx 20 0 (at_ JL []) _ _ _
 refine qZ [(0,.str s),(1,.fn (.func cls) [] [])] [] ?_ ?_
 refine qU 1 [(0,.str s),(1,.fn (.func cls) [] [])] ?_ ?_
 refine qU 1 [(0,.str s),(1,.fn (.func cls) [] []),(5,.int .i64 0)] ?_ ?_
 refine ar ?_ ?_
 refine qB 0 ?_ ?_ ?_
 refine bR (σ:=Nat) (fun k=>[(0,.str s),(1,.fn (.func cls) [] []),(5,.int .i64 ((k:Nat):Int))]) (fun k=>[]) (fun k=>k≤s.length∧∀ i,i<k→p (s.getD i 0)=true) (fun k=>s.length - k) 0 kq zq ⟨⟨kq,kq,kq,trivial⟩,by simp [aV,aa.bel],by simp,kq,by simp⟩ ?_
 rintro k ⟨hk,ha⟩
 refine ar ?_ ?_
 refine qV 5 ?_ ?_
 by_cases hb1:((k:Nat):Int)<((s.length:Nat):Int)
 refine qm [9,10] (decide_eq_true hb1) ?_ ?_
 refine qr 3 ?_ ?_
 refine qy (lC (k:=.i64) (s:=s) (i:=((k:Nat):Int)) kq ty9 oq oq) ?_ ?_ ?_
 refine qc [.int .u8 ((((s.getD k 0):UInt8).toNat:Nat):Int)] (hc (s.getD k 0)) ?_ ?_
 refine qR 1 [(0,.str s),(1,.fn (.func cls) [] []),(5,nI k),(11,.fn (.func cls) [] []),(12,.str s),(13,nI k),(14,.int .u8 ((((s.getD k 0):UInt8).toNat:Nat):Int)),(15,.bool (p (s.getD k 0))),(16,.bool (p (s.getD k 0)))] [] ?_ ?_
 by_cases hb2:(p (s.getD k 0))=true
 refine qt (hb2) ?_ ?_
 refine qK ?_ ?_
 refine qz [(0,.str s),(1,.fn (.func cls) [] []),(5,nI k),(11,.fn (.func cls) [] []),(12,.str s),(13,nI k),(14,.int .u8 ((((s.getD k 0):UInt8).toNat:Nat):Int)),(15,.bool (p (s.getD k 0)))] ?_ ?_
 refine qB 1 ?_ ?_ ?_
 refine qo ?_ ?_
 refine qr 1 ?_ ?_
 refine qy (aN (a:=((k:Nat):Int)) (b:=1) kq oq oq) ?_ ?_ ?_
 refine qr 1 ?_ ?_
 refine qe ?_ ?_
 refine ak ?_
 refine ab ⟨k+1,?_,?_,⟨⟨kq,kq,kq,trivial⟩,by simp [aV,aa.bel],by simp,kq,by simp⟩⟩
 · omega
 · refine ⟨by omega,fun i hi=>?_⟩
   rcases Nat.lt_succ_iff_lt_or_eq.1 hi with h|h
   · exact ha i h
   · subst h;assumption
 iterate 11 kernel_rfl
 refine qf (Bool.eq_false_iff.2 hb2) ?_ ?_
 refine bC 0 kq kq ?_
 refine af ?_
 refine af ?_
 refine aA ?_
 refine ab ?_
 refine qz [(5,nI k)] ?_ ?_
 refine qV 2 ?_ ?_
 refine qT ?_ ?_
 refine b8 (n:=((k:Nat):Int)) (.inr rfl) kq ?_
 rotate_left
 iterate 10 kernel_rfl
 refine qm [9,10] (decide_eq_false hb1) ?_ ?_
 refine qR 6 [(0,.str s),(1,.fn (.func cls) [] []),(5,nI k),(11,.tup []),(12,.tup []),(13,.tup []),(14,.tup []),(15,.tup []),(16,.bool false)] [] ?_ ?_
 refine dY kq kq ?_
 refine bC 0 kq kq ?_
 refine af ?_
 refine af ?_
 refine aA ?_
 refine ab ?_
 refine qz [(5,nI k)] ?_ ?_
 refine qV 2 ?_ ?_
 refine qT ?_ ?_
 refine b8 (n:=((k:Nat):Int)) (.inr rfl) kq ?_
 rotate_left
 iterate 13 kernel_rfl
 all_goals
  refine congrArg _ (Ed p s k hk ha ?_).symm
  first|(right;simp_all;done)|(left;omega)
noncomputable def JS:Code:=aE Tryz.f190
theorem De (s:List UInt8) :ay cx 190 [.str s] (.bool false):=by
 refine ap (cx:=cx) 6 0 [(ResultVar.tmp 2)] Tryz.func190 rfl rfl rfl rfl rfl zq ?_
 show wpA cx 6 0 (at_ JS []) _ _ _
 refine qZ [(0,.str s)] [] ?_ ?_
 refine qU 1 [(0,.str s)] ?_ ?_
 refine qV 4 ?_ ?_
 refine qT ?_ ?_
 refine aH (b:=(!(s==s))) (.inr rfl) kq ?_
 by_cases hb1:s=s
 refine Eq.trans (congrArg not (beq_iff_eq.2 hb1)) ?_
 · simp_all
 refine Eq.trans (congrArg not (beq_eq_false_iff_ne.2 hb1)) ?_
 · simp_all
 iterate 4 kernel_rfl
noncomputable def JJ:Code:=aE Tryz.f210
theorem B8 (s:List UInt8) :ay cx 210 [.str s] (.bool false):=by
 refine ap (cx:=cx) 6 0 [(ResultVar.tmp 2)] Tryz.func210 rfl rfl rfl rfl rfl zq ?_
 show wpA cx 6 0 (at_ JJ []) _ _ _
 refine qZ [(0,.str s)] [] ?_ ?_
 refine qU 1 [(0,.str s)] ?_ ?_
 refine qV 4 ?_ ?_
 refine qT ?_ ?_
 refine aH (b:=(!(s==s))) (.inr rfl) kq ?_
 by_cases hb1:s=s
 refine Eq.trans (congrArg not (beq_iff_eq.2 hb1)) ?_
 · simp_all
 refine Eq.trans (congrArg not (beq_eq_false_iff_ne.2 hb1)) ?_
 · simp_all
 iterate 4 kernel_rfl
noncomputable def Jt:Code:=aE Tryz.f160
theorem Bu (a b:List UInt8) :ay cx 160 [.str a,.str b] (.bool (aY a b)):=by
 refine ap (cx:=cx) 17 0 [(ResultVar.tmp 4)] Tryz.func160 rfl rfl rfl rfl rfl zq ?_
 show wpA cx 17 0 (at_ Jt []) _ _ _
 refine qZ [(0,.str a),(1,.str b)] [] ?_ ?_
 refine qU 1 [(0,.str a),(1,.str b)] ?_ ?_
 refine qV 1 ?_ ?_
 refine qc [.str a] (De a) ?_ ?_
 refine qX 11 ?_ ?_
 refine aH (b:=(aY a b)) (.inr rfl) kq ?_
 · rfl
 iterate 5 kernel_rfl
noncomputable def Jw:Code:=aE Tryz.f211
theorem Ch (a b:List UInt8) :ay cx 211 [.str a,.str b] (.bool (aZ a b)):=by
 refine ap (cx:=cx) 18 0 [(ResultVar.tmp 4)] Tryz.func211 rfl rfl rfl rfl rfl zq ?_
 show wpA cx 18 0 (at_ Jw []) _ _ _
 refine qZ [(0,.str a),(1,.str b)] [] ?_ ?_
 refine qU 1 [(0,.str a),(1,.str b)] ?_ ?_
 refine qV 6 ?_ ?_
 by_cases hb1:((a.length:Nat):Int) ≥ ((b.length:Nat):Int)
 refine qm [9,10] (decide_eq_true hb1) ?_ ?_
 refine qr 3 ?_ ?_
 refine qy (Af (hi:=(some (.int .i64 ((b.length:Nat):Int)))) (s:=a) (y:=((b.length:Nat):Int)) kq ty9 kq oq oq) ?_ ?_ ?_
 refine qX 4 ?_ ?_
 refine aH (b:=((a.take b.length)==b)) (.inr rfl) kq ?_
 rotate_left
 iterate 5 kernel_rfl
 refine qm [9,10] (decide_eq_false hb1) ?_ ?_
 refine qX 8 ?_ ?_
 refine aH (b:=false) (.inr rfl) kq ?_
 rotate_left
 iterate 5 kernel_rfl
 all_goals
  first|(simp_all [aZ];done)|(simp only [aZ];symm;rw [beq_eq_false_iff_ne];intro e;have:=congrArg List.length e;simp at this;omega)
noncomputable def JC:Code:=aE Tryz.f198
theorem bL (a b:List UInt8) :ay cx 198 [.str a,.str b] (.bool (aZ a b)):=by
 refine ap (cx:=cx) 8 0 [(ResultVar.tmp 4)] Tryz.func198 rfl rfl rfl rfl rfl zq ?_
 show wpA cx 8 0 (at_ JC []) _ _ _
 refine qZ [(0,.str a),(1,.str b)] [] ?_ ?_
 refine qU 1 [(0,.str a),(1,.str b)] ?_ ?_
 refine qV 2 ?_ ?_
 refine qc [.str a,.str b] (Ch a b) ?_ ?_
 refine qX 1 ?_ ?_
 refine aH (b:=(aZ a b)) (.inr rfl) kq ?_
 · rfl
 iterate 5 kernel_rfl
noncomputable def JN:Code:=aE Tryz.f176
theorem xt (s:List UInt8) :ay cx 176 [.str s] (.int .i64 ((nE s:Nat):Int)):=by
 refine ap (cx:=cx) 15 0 [(ResultVar.tmp 2)] Tryz.func176 rfl rfl rfl rfl rfl zq ?_
 show wpA cx 15 0 (at_ JN []) _ _ _
 refine qZ [(0,.str s)] [] ?_ ?_
 refine qU 1 [(0,.str s)] ?_ ?_
 refine ar ?_ ?_
 refine qU 2 [(0,.str s),(5,.agg aj),(6,.int .i64 0)] ?_ ?_
 refine qB 0 ?_ ?_ ?_
 refine J0 25 kq ?_
 refine fz ?_
 refine qW 1 [(0,.str s),(5,.agg aj),(6,.int .i64 0),(7,.bool true)] [] ?_ ?_
 refine ar ?_ ?_
 refine cp kq kq ?_
 refine qK ?_ ?_
 refine qz [(0,.str s),(5,.agg aj),(6,.int .i64 0)] ?_ ?_
 refine ar ?_ ?_
 refine qB 1 ?_ ?_ ?_
 refine qU 2 [(0,.str s),(4,.str [61,61]),(5,.agg aj),(6,.int .i64 0)] ?_ ?_
 refine qV 2 ?_ ?_
 refine qc [.str s,.str [61,61]] (bL s [61,61]) ?_ ?_
 refine qN [(0,.str s),(4,.str [61,61]),(5,.agg aj),(6,.int .i64 0),(11,.bool (aZ s [61,61]))] [] ?_ ?_
 by_cases hb1:(aZ s [61,61])=true
 refine qt (hb1) ?_ ?_
 refine qV 3 ?_ ?_
 refine qT ?_ ?_
 apply iR
 apply aR
 apply aR
 apply iR
 apply aR
 refine b8 (n:=2) (.inr rfl) kq ?_
 rotate_left
 iterate 3 kernel_rfl
 refine qf (Bool.eq_false_iff.2 hb1) ?_ ?_
 refine qk ?_ ?_
 refine ak ?_
 refine ab ?_
 refine qz [(0,.str s),(5,.agg aj),(6,.int .i64 0)] ?_ ?_
 refine qo ?_ ?_
 refine qr 2 ?_ ?_
 refine qe ?_ ?_
 refine ab ?_
 refine rSt [0,5,6] [(0,.str s),(5,.agg aj),(6,.int .i64 1)] [] kq kq ?_
 refine fz ?_
 refine qW 1 [(0,.str s),(5,.agg aj),(6,.int .i64 1),(7,.bool true)] [] ?_ ?_
 refine ar ?_ ?_
 refine cp kq kq ?_
 refine qK ?_ ?_
 refine qz [(0,.str s),(5,.agg aj),(6,.int .i64 1)] ?_ ?_
 refine ar ?_ ?_
 refine qB 1 ?_ ?_ ?_
 refine qU 2 [(0,.str s),(4,.str [33,61]),(5,.agg aj),(6,.int .i64 1)] ?_ ?_
 refine qV 2 ?_ ?_
 refine qc [.str s,.str [33,61]] (bL s [33,61]) ?_ ?_
 refine qN [(0,.str s),(4,.str [33,61]),(5,.agg aj),(6,.int .i64 1),(11,.bool (aZ s [33,61]))] [] ?_ ?_
 by_cases hb2:(aZ s [33,61])=true
 refine qt (hb2) ?_ ?_
 refine qV 3 ?_ ?_
 refine qT ?_ ?_
 apply iR
 apply aR
 apply aR
 apply iR
 apply aR
 refine b8 (n:=2) (.inr rfl) kq ?_
 rotate_left
 iterate 3 kernel_rfl
 refine qf (Bool.eq_false_iff.2 hb2) ?_ ?_
 refine qk ?_ ?_
 refine ak ?_
 refine ab ?_
 refine qz [(0,.str s),(5,.agg aj),(6,.int .i64 1)] ?_ ?_
 refine qo ?_ ?_
 refine qr 2 ?_ ?_
 refine qe ?_ ?_
 refine ab ?_
 refine rSt [0,5,6] [(0,.str s),(5,.agg aj),(6,.int .i64 2)] [] kq kq ?_
 refine fz ?_
 refine qW 1 [(0,.str s),(5,.agg aj),(6,.int .i64 2),(7,.bool true)] [] ?_ ?_
 refine ar ?_ ?_
 refine cp kq kq ?_
 refine qK ?_ ?_
 refine qz [(0,.str s),(5,.agg aj),(6,.int .i64 2)] ?_ ?_
 refine ar ?_ ?_
 refine qB 1 ?_ ?_ ?_
 refine qU 2 [(0,.str s),(4,.str [60,61]),(5,.agg aj),(6,.int .i64 2)] ?_ ?_
 refine qV 2 ?_ ?_
 refine qc [.str s,.str [60,61]] (bL s [60,61]) ?_ ?_
 refine qN [(0,.str s),(4,.str [60,61]),(5,.agg aj),(6,.int .i64 2),(11,.bool (aZ s [60,61]))] [] ?_ ?_
 by_cases hb3:(aZ s [60,61])=true
 refine qt (hb3) ?_ ?_
 refine qV 3 ?_ ?_
 refine qT ?_ ?_
 apply iR
 apply aR
 apply aR
 apply iR
 apply aR
 refine b8 (n:=2) (.inr rfl) kq ?_
 rotate_left
 iterate 3 kernel_rfl
 refine qf (Bool.eq_false_iff.2 hb3) ?_ ?_
 refine qk ?_ ?_
 refine ak ?_
 refine ab ?_
 refine qz [(0,.str s),(5,.agg aj),(6,.int .i64 2)] ?_ ?_
 refine qo ?_ ?_
 refine qr 2 ?_ ?_
 refine qe ?_ ?_
 refine ab ?_
 refine rSt [0,5,6] [(0,.str s),(5,.agg aj),(6,.int .i64 3)] [] kq kq ?_
 refine fz ?_
 refine qW 1 [(0,.str s),(5,.agg aj),(6,.int .i64 3),(7,.bool true)] [] ?_ ?_
 refine ar ?_ ?_
 refine cp kq kq ?_
 refine qK ?_ ?_
 refine qz [(0,.str s),(5,.agg aj),(6,.int .i64 3)] ?_ ?_
 refine ar ?_ ?_
 refine qB 1 ?_ ?_ ?_
 refine qU 2 [(0,.str s),(4,.str [60,45]),(5,.agg aj),(6,.int .i64 3)] ?_ ?_
 refine qV 2 ?_ ?_
 refine qc [.str s,.str [60,45]] (bL s [60,45]) ?_ ?_
 refine qN [(0,.str s),(4,.str [60,45]),(5,.agg aj),(6,.int .i64 3),(11,.bool (aZ s [60,45]))] [] ?_ ?_
 by_cases hb4:(aZ s [60,45])=true
 refine qt (hb4) ?_ ?_
 refine qV 3 ?_ ?_
 refine qT ?_ ?_
 apply iR
 apply aR
 apply aR
 apply iR
 apply aR
 refine b8 (n:=2) (.inr rfl) kq ?_
 rotate_left
 iterate 3 kernel_rfl
 refine qf (Bool.eq_false_iff.2 hb4) ?_ ?_
 refine qk ?_ ?_
 refine ak ?_
 refine ab ?_
 refine qz [(0,.str s),(5,.agg aj),(6,.int .i64 3)] ?_ ?_
 refine qo ?_ ?_
 refine qr 2 ?_ ?_
 refine qe ?_ ?_
 refine ab ?_
 refine rSt [0,5,6] [(0,.str s),(5,.agg aj),(6,.int .i64 4)] [] kq kq ?_
 refine fz ?_
 refine qW 1 [(0,.str s),(5,.agg aj),(6,.int .i64 4),(7,.bool true)] [] ?_ ?_
 refine ar ?_ ?_
 refine cp kq kq ?_
 refine qK ?_ ?_
 refine qz [(0,.str s),(5,.agg aj),(6,.int .i64 4)] ?_ ?_
 refine ar ?_ ?_
 refine qB 1 ?_ ?_ ?_
 refine qU 2 [(0,.str s),(4,.str [45,62]),(5,.agg aj),(6,.int .i64 4)] ?_ ?_
 refine qV 2 ?_ ?_
 refine qc [.str s,.str [45,62]] (bL s [45,62]) ?_ ?_
 refine qN [(0,.str s),(4,.str [45,62]),(5,.agg aj),(6,.int .i64 4),(11,.bool (aZ s [45,62]))] [] ?_ ?_
 by_cases hb5:(aZ s [45,62])=true
 refine qt (hb5) ?_ ?_
 refine qV 3 ?_ ?_
 refine qT ?_ ?_
 apply iR
 apply aR
 apply aR
 apply iR
 apply aR
 refine b8 (n:=2) (.inr rfl) kq ?_
 rotate_left
 iterate 3 kernel_rfl
 refine qf (Bool.eq_false_iff.2 hb5) ?_ ?_
 refine qk ?_ ?_
 refine ak ?_
 refine ab ?_
 refine qz [(0,.str s),(5,.agg aj),(6,.int .i64 4)] ?_ ?_
 refine qo ?_ ?_
 refine qr 2 ?_ ?_
 refine qe ?_ ?_
 refine ab ?_
 refine rSt [0,5,6] [(0,.str s),(5,.agg aj),(6,.int .i64 5)] [] kq kq ?_
 refine fz ?_
 refine qW 1 [(0,.str s),(5,.agg aj),(6,.int .i64 5),(7,.bool true)] [] ?_ ?_
 refine ar ?_ ?_
 refine cp kq kq ?_
 refine qK ?_ ?_
 refine qz [(0,.str s),(5,.agg aj),(6,.int .i64 5)] ?_ ?_
 refine ar ?_ ?_
 refine qB 1 ?_ ?_ ?_
 refine qU 2 [(0,.str s),(4,.str [43,43]),(5,.agg aj),(6,.int .i64 5)] ?_ ?_
 refine qV 2 ?_ ?_
 refine qc [.str s,.str [43,43]] (bL s [43,43]) ?_ ?_
 refine qN [(0,.str s),(4,.str [43,43]),(5,.agg aj),(6,.int .i64 5),(11,.bool (aZ s [43,43]))] [] ?_ ?_
 by_cases hb6:(aZ s [43,43])=true
 refine qt (hb6) ?_ ?_
 refine qV 3 ?_ ?_
 refine qT ?_ ?_
 apply iR
 apply aR
 apply aR
 apply iR
 apply aR
 refine b8 (n:=2) (.inr rfl) kq ?_
 rotate_left
 iterate 3 kernel_rfl
 refine qf (Bool.eq_false_iff.2 hb6) ?_ ?_
 refine qk ?_ ?_
 refine ak ?_
 refine ab ?_
 refine qz [(0,.str s),(5,.agg aj),(6,.int .i64 5)] ?_ ?_
 refine qo ?_ ?_
 refine qr 2 ?_ ?_
 refine qe ?_ ?_
 refine ab ?_
 refine rSt [0,5,6] [(0,.str s),(5,.agg aj),(6,.int .i64 6)] [] kq kq ?_
 refine fz ?_
 refine qW 1 [(0,.str s),(5,.agg aj),(6,.int .i64 6),(7,.bool true)] [] ?_ ?_
 refine ar ?_ ?_
 refine cp kq kq ?_
 refine qK ?_ ?_
 refine qz [(0,.str s),(5,.agg aj),(6,.int .i64 6)] ?_ ?_
 refine ar ?_ ?_
 refine qB 1 ?_ ?_ ?_
 refine qU 2 [(0,.str s),(4,.str [60]),(5,.agg aj),(6,.int .i64 6)] ?_ ?_
 refine qV 2 ?_ ?_
 refine qc [.str s,.str [60]] (bL s [60]) ?_ ?_
 refine qN [(0,.str s),(4,.str [60]),(5,.agg aj),(6,.int .i64 6),(11,.bool (aZ s [60]))] [] ?_ ?_
 by_cases hb7:(aZ s [60])=true
 refine qt (hb7) ?_ ?_
 refine qV 3 ?_ ?_
 refine qT ?_ ?_
 apply iR
 apply aR
 apply aR
 apply iR
 apply aR
 refine b8 (n:=1) (.inr rfl) kq ?_
 rotate_left
 iterate 3 kernel_rfl
 refine qf (Bool.eq_false_iff.2 hb7) ?_ ?_
 refine qk ?_ ?_
 refine ak ?_
 refine ab ?_
 refine qz [(0,.str s),(5,.agg aj),(6,.int .i64 6)] ?_ ?_
 refine qo ?_ ?_
 refine qr 2 ?_ ?_
 refine qe ?_ ?_
 refine ab ?_
 refine rSt [0,5,6] [(0,.str s),(5,.agg aj),(6,.int .i64 7)] [] kq kq ?_
 refine fz ?_
 refine qW 1 [(0,.str s),(5,.agg aj),(6,.int .i64 7),(7,.bool true)] [] ?_ ?_
 refine ar ?_ ?_
 refine cp kq kq ?_
 refine qK ?_ ?_
 refine qz [(0,.str s),(5,.agg aj),(6,.int .i64 7)] ?_ ?_
 refine ar ?_ ?_
 refine qB 1 ?_ ?_ ?_
 refine qU 2 [(0,.str s),(4,.str [62]),(5,.agg aj),(6,.int .i64 7)] ?_ ?_
 refine qV 2 ?_ ?_
 refine qc [.str s,.str [62]] (bL s [62]) ?_ ?_
 refine qN [(0,.str s),(4,.str [62]),(5,.agg aj),(6,.int .i64 7),(11,.bool (aZ s [62]))] [] ?_ ?_
 by_cases hb8:(aZ s [62])=true
 refine qt (hb8) ?_ ?_
 refine qV 3 ?_ ?_
 refine qT ?_ ?_
 apply iR
 apply aR
 apply aR
 apply iR
 apply aR
 refine b8 (n:=1) (.inr rfl) kq ?_
 rotate_left
 iterate 3 kernel_rfl
 refine qf (Bool.eq_false_iff.2 hb8) ?_ ?_
 refine qk ?_ ?_
 refine ak ?_
 refine ab ?_
 refine qz [(0,.str s),(5,.agg aj),(6,.int .i64 7)] ?_ ?_
 refine qo ?_ ?_
 refine qr 2 ?_ ?_
 refine qe ?_ ?_
 refine ab ?_
 refine rSt [0,5,6] [(0,.str s),(5,.agg aj),(6,.int .i64 8)] [] kq kq ?_
 refine fz ?_
 refine qW 1 [(0,.str s),(5,.agg aj),(6,.int .i64 8),(7,.bool true)] [] ?_ ?_
 refine ar ?_ ?_
 refine cp kq kq ?_
 refine qK ?_ ?_
 refine qz [(0,.str s),(5,.agg aj),(6,.int .i64 8)] ?_ ?_
 refine ar ?_ ?_
 refine qB 1 ?_ ?_ ?_
 refine qU 2 [(0,.str s),(4,.str [61]),(5,.agg aj),(6,.int .i64 8)] ?_ ?_
 refine qV 2 ?_ ?_
 refine qc [.str s,.str [61]] (bL s [61]) ?_ ?_
 refine qN [(0,.str s),(4,.str [61]),(5,.agg aj),(6,.int .i64 8),(11,.bool (aZ s [61]))] [] ?_ ?_
 by_cases hb9:(aZ s [61])=true
 refine qt (hb9) ?_ ?_
 refine qV 3 ?_ ?_
 refine qT ?_ ?_
 apply iR
 apply aR
 apply aR
 apply iR
 apply aR
 refine b8 (n:=1) (.inr rfl) kq ?_
 rotate_left
 iterate 3 kernel_rfl
 refine qf (Bool.eq_false_iff.2 hb9) ?_ ?_
 refine qk ?_ ?_
 refine ak ?_
 refine ab ?_
 refine qz [(0,.str s),(5,.agg aj),(6,.int .i64 8)] ?_ ?_
 refine qo ?_ ?_
 refine qr 2 ?_ ?_
 refine qe ?_ ?_
 refine ab ?_
 refine rSt [0,5,6] [(0,.str s),(5,.agg aj),(6,.int .i64 9)] [] kq kq ?_
 refine fz ?_
 refine qW 1 [(0,.str s),(5,.agg aj),(6,.int .i64 9),(7,.bool true)] [] ?_ ?_
 refine ar ?_ ?_
 refine cp kq kq ?_
 refine qK ?_ ?_
 refine qz [(0,.str s),(5,.agg aj),(6,.int .i64 9)] ?_ ?_
 refine ar ?_ ?_
 refine qB 1 ?_ ?_ ?_
 refine qU 2 [(0,.str s),(4,.str [43]),(5,.agg aj),(6,.int .i64 9)] ?_ ?_
 refine qV 2 ?_ ?_
 refine qc [.str s,.str [43]] (bL s [43]) ?_ ?_
 refine qN [(0,.str s),(4,.str [43]),(5,.agg aj),(6,.int .i64 9),(11,.bool (aZ s [43]))] [] ?_ ?_
 by_cases hb10:(aZ s [43])=true
 refine qt (hb10) ?_ ?_
 refine qV 3 ?_ ?_
 refine qT ?_ ?_
 apply iR
 apply aR
 apply aR
 apply iR
 apply aR
 refine b8 (n:=1) (.inr rfl) kq ?_
 rotate_left
 iterate 3 kernel_rfl
 refine qf (Bool.eq_false_iff.2 hb10) ?_ ?_
 refine qk ?_ ?_
 refine ak ?_
 refine ab ?_
 refine qz [(0,.str s),(5,.agg aj),(6,.int .i64 9)] ?_ ?_
 refine qo ?_ ?_
 refine qr 2 ?_ ?_
 refine qe ?_ ?_
 refine ab ?_
 refine rSt [0,5,6] [(0,.str s),(5,.agg aj),(6,.int .i64 10)] [] kq kq ?_
 refine fz ?_
 refine qW 1 [(0,.str s),(5,.agg aj),(6,.int .i64 10),(7,.bool true)] [] ?_ ?_
 refine ar ?_ ?_
 refine cp kq kq ?_
 refine qK ?_ ?_
 refine qz [(0,.str s),(5,.agg aj),(6,.int .i64 10)] ?_ ?_
 refine ar ?_ ?_
 refine qB 1 ?_ ?_ ?_
 refine qU 2 [(0,.str s),(4,.str [45]),(5,.agg aj),(6,.int .i64 10)] ?_ ?_
 refine qV 2 ?_ ?_
 refine qc [.str s,.str [45]] (bL s [45]) ?_ ?_
 refine qN [(0,.str s),(4,.str [45]),(5,.agg aj),(6,.int .i64 10),(11,.bool (aZ s [45]))] [] ?_ ?_
 by_cases hb11:(aZ s [45])=true
 refine qt (hb11) ?_ ?_
 refine qV 3 ?_ ?_
 refine qT ?_ ?_
 apply iR
 apply aR
 apply aR
 apply iR
 apply aR
 refine b8 (n:=1) (.inr rfl) kq ?_
 rotate_left
 iterate 3 kernel_rfl
 refine qf (Bool.eq_false_iff.2 hb11) ?_ ?_
 refine qk ?_ ?_
 refine ak ?_
 refine ab ?_
 refine qz [(0,.str s),(5,.agg aj),(6,.int .i64 10)] ?_ ?_
 refine qo ?_ ?_
 refine qr 2 ?_ ?_
 refine qe ?_ ?_
 refine ab ?_
 refine rSt [0,5,6] [(0,.str s),(5,.agg aj),(6,.int .i64 11)] [] kq kq ?_
 refine fz ?_
 refine qW 1 [(0,.str s),(5,.agg aj),(6,.int .i64 11),(7,.bool true)] [] ?_ ?_
 refine ar ?_ ?_
 refine cp kq kq ?_
 refine qK ?_ ?_
 refine qz [(0,.str s),(5,.agg aj),(6,.int .i64 11)] ?_ ?_
 refine ar ?_ ?_
 refine qB 1 ?_ ?_ ?_
 refine qU 2 [(0,.str s),(4,.str [42]),(5,.agg aj),(6,.int .i64 11)] ?_ ?_
 refine qV 2 ?_ ?_
 refine qc [.str s,.str [42]] (bL s [42]) ?_ ?_
 refine qN [(0,.str s),(4,.str [42]),(5,.agg aj),(6,.int .i64 11),(11,.bool (aZ s [42]))] [] ?_ ?_
 by_cases hb12:(aZ s [42])=true
 refine qt (hb12) ?_ ?_
 refine qV 3 ?_ ?_
 refine qT ?_ ?_
 apply iR
 apply aR
 apply aR
 apply iR
 apply aR
 refine b8 (n:=1) (.inr rfl) kq ?_
 rotate_left
 iterate 3 kernel_rfl
 refine qf (Bool.eq_false_iff.2 hb12) ?_ ?_
 refine qk ?_ ?_
 refine ak ?_
 refine ab ?_
 refine qz [(0,.str s),(5,.agg aj),(6,.int .i64 11)] ?_ ?_
 refine qo ?_ ?_
 refine qr 2 ?_ ?_
 refine qe ?_ ?_
 refine ab ?_
 refine rSt [0,5,6] [(0,.str s),(5,.agg aj),(6,.int .i64 12)] [] kq kq ?_
 refine fz ?_
 refine qW 1 [(0,.str s),(5,.agg aj),(6,.int .i64 12),(7,.bool true)] [] ?_ ?_
 refine ar ?_ ?_
 refine cp kq kq ?_
 refine qK ?_ ?_
 refine qz [(0,.str s),(5,.agg aj),(6,.int .i64 12)] ?_ ?_
 refine ar ?_ ?_
 refine qB 1 ?_ ?_ ?_
 refine qU 2 [(0,.str s),(4,.str [40]),(5,.agg aj),(6,.int .i64 12)] ?_ ?_
 refine qV 2 ?_ ?_
 refine qc [.str s,.str [40]] (bL s [40]) ?_ ?_
 refine qN [(0,.str s),(4,.str [40]),(5,.agg aj),(6,.int .i64 12),(11,.bool (aZ s [40]))] [] ?_ ?_
 by_cases hb13:(aZ s [40])=true
 refine qt (hb13) ?_ ?_
 refine qV 3 ?_ ?_
 refine qT ?_ ?_
 apply iR
 apply aR
 apply aR
 apply iR
 apply aR
 refine b8 (n:=1) (.inr rfl) kq ?_
 rotate_left
 iterate 3 kernel_rfl
 refine qf (Bool.eq_false_iff.2 hb13) ?_ ?_
 refine qk ?_ ?_
 refine ak ?_
 refine ab ?_
 refine qz [(0,.str s),(5,.agg aj),(6,.int .i64 12)] ?_ ?_
 refine qo ?_ ?_
 refine qr 2 ?_ ?_
 refine qe ?_ ?_
 refine ab ?_
 refine rSt [0,5,6] [(0,.str s),(5,.agg aj),(6,.int .i64 13)] [] kq kq ?_
 refine fz ?_
 refine qW 1 [(0,.str s),(5,.agg aj),(6,.int .i64 13),(7,.bool true)] [] ?_ ?_
 refine ar ?_ ?_
 refine cp kq kq ?_
 refine qK ?_ ?_
 refine qz [(0,.str s),(5,.agg aj),(6,.int .i64 13)] ?_ ?_
 refine ar ?_ ?_
 refine qB 1 ?_ ?_ ?_
 refine qU 2 [(0,.str s),(4,.str [41]),(5,.agg aj),(6,.int .i64 13)] ?_ ?_
 refine qV 2 ?_ ?_
 refine qc [.str s,.str [41]] (bL s [41]) ?_ ?_
 refine qN [(0,.str s),(4,.str [41]),(5,.agg aj),(6,.int .i64 13),(11,.bool (aZ s [41]))] [] ?_ ?_
 by_cases hb14:(aZ s [41])=true
 refine qt (hb14) ?_ ?_
 refine qV 3 ?_ ?_
 refine qT ?_ ?_
 apply iR
 apply aR
 apply aR
 apply iR
 apply aR
 refine b8 (n:=1) (.inr rfl) kq ?_
 rotate_left
 iterate 3 kernel_rfl
 refine qf (Bool.eq_false_iff.2 hb14) ?_ ?_
 refine qk ?_ ?_
 refine ak ?_
 refine ab ?_
 refine qz [(0,.str s),(5,.agg aj),(6,.int .i64 13)] ?_ ?_
 refine qo ?_ ?_
 refine qr 2 ?_ ?_
 refine qe ?_ ?_
 refine ab ?_
 refine rSt [0,5,6] [(0,.str s),(5,.agg aj),(6,.int .i64 14)] [] kq kq ?_
 refine fz ?_
 refine qW 1 [(0,.str s),(5,.agg aj),(6,.int .i64 14),(7,.bool true)] [] ?_ ?_
 refine ar ?_ ?_
 refine cp kq kq ?_
 refine qK ?_ ?_
 refine qz [(0,.str s),(5,.agg aj),(6,.int .i64 14)] ?_ ?_
 refine ar ?_ ?_
 refine qB 1 ?_ ?_ ?_
 refine qU 2 [(0,.str s),(4,.str [123]),(5,.agg aj),(6,.int .i64 14)] ?_ ?_
 refine qV 2 ?_ ?_
 refine qc [.str s,.str [123]] (bL s [123]) ?_ ?_
 refine qN [(0,.str s),(4,.str [123]),(5,.agg aj),(6,.int .i64 14),(11,.bool (aZ s [123]))] [] ?_ ?_
 by_cases hb15:(aZ s [123])=true
 refine qt (hb15) ?_ ?_
 refine qV 3 ?_ ?_
 refine qT ?_ ?_
 apply iR
 apply aR
 apply aR
 apply iR
 apply aR
 refine b8 (n:=1) (.inr rfl) kq ?_
 rotate_left
 iterate 3 kernel_rfl
 refine qf (Bool.eq_false_iff.2 hb15) ?_ ?_
 refine qk ?_ ?_
 refine ak ?_
 refine ab ?_
 refine qz [(0,.str s),(5,.agg aj),(6,.int .i64 14)] ?_ ?_
 refine qo ?_ ?_
 refine qr 2 ?_ ?_
 refine qe ?_ ?_
 refine ab ?_
 refine rSt [0,5,6] [(0,.str s),(5,.agg aj),(6,.int .i64 15)] [] kq kq ?_
 refine fz ?_
 refine qW 1 [(0,.str s),(5,.agg aj),(6,.int .i64 15),(7,.bool true)] [] ?_ ?_
 refine ar ?_ ?_
 refine cp kq kq ?_
 refine qK ?_ ?_
 refine qz [(0,.str s),(5,.agg aj),(6,.int .i64 15)] ?_ ?_
 refine ar ?_ ?_
 refine qB 1 ?_ ?_ ?_
 refine qU 2 [(0,.str s),(4,.str [125]),(5,.agg aj),(6,.int .i64 15)] ?_ ?_
 refine qV 2 ?_ ?_
 refine qc [.str s,.str [125]] (bL s [125]) ?_ ?_
 refine qN [(0,.str s),(4,.str [125]),(5,.agg aj),(6,.int .i64 15),(11,.bool (aZ s [125]))] [] ?_ ?_
 by_cases hb16:(aZ s [125])=true
 refine qt (hb16) ?_ ?_
 refine qV 3 ?_ ?_
 refine qT ?_ ?_
 apply iR
 apply aR
 apply aR
 apply iR
 apply aR
 refine b8 (n:=1) (.inr rfl) kq ?_
 rotate_left
 iterate 3 kernel_rfl
 refine qf (Bool.eq_false_iff.2 hb16) ?_ ?_
 refine qk ?_ ?_
 refine ak ?_
 refine ab ?_
 refine qz [(0,.str s),(5,.agg aj),(6,.int .i64 15)] ?_ ?_
 refine qo ?_ ?_
 refine qr 2 ?_ ?_
 refine qe ?_ ?_
 refine ab ?_
 refine rSt [0,5,6] [(0,.str s),(5,.agg aj),(6,.int .i64 16)] [] kq kq ?_
 refine fz ?_
 refine qW 1 [(0,.str s),(5,.agg aj),(6,.int .i64 16),(7,.bool true)] [] ?_ ?_
 refine ar ?_ ?_
 refine cp kq kq ?_
 refine qK ?_ ?_
 refine qz [(0,.str s),(5,.agg aj),(6,.int .i64 16)] ?_ ?_
 refine ar ?_ ?_
 refine qB 1 ?_ ?_ ?_
 refine qU 2 [(0,.str s),(4,.str [91]),(5,.agg aj),(6,.int .i64 16)] ?_ ?_
 refine qV 2 ?_ ?_
 refine qc [.str s,.str [91]] (bL s [91]) ?_ ?_
 refine qN [(0,.str s),(4,.str [91]),(5,.agg aj),(6,.int .i64 16),(11,.bool (aZ s [91]))] [] ?_ ?_
 by_cases hb17:(aZ s [91])=true
 refine qt (hb17) ?_ ?_
 refine qV 3 ?_ ?_
 refine qT ?_ ?_
 apply iR
 apply aR
 apply aR
 apply iR
 apply aR
 refine b8 (n:=1) (.inr rfl) kq ?_
 rotate_left
 iterate 3 kernel_rfl
 refine qf (Bool.eq_false_iff.2 hb17) ?_ ?_
 refine qk ?_ ?_
 refine ak ?_
 refine ab ?_
 refine qz [(0,.str s),(5,.agg aj),(6,.int .i64 16)] ?_ ?_
 refine qo ?_ ?_
 refine qr 2 ?_ ?_
 refine qe ?_ ?_
 refine ab ?_
 refine rSt [0,5,6] [(0,.str s),(5,.agg aj),(6,.int .i64 17)] [] kq kq ?_
 refine fz ?_
 refine qW 1 [(0,.str s),(5,.agg aj),(6,.int .i64 17),(7,.bool true)] [] ?_ ?_
 refine ar ?_ ?_
 refine cp kq kq ?_
 refine qK ?_ ?_
 refine qz [(0,.str s),(5,.agg aj),(6,.int .i64 17)] ?_ ?_
 refine ar ?_ ?_
 refine qB 1 ?_ ?_ ?_
 refine qU 2 [(0,.str s),(4,.str [93]),(5,.agg aj),(6,.int .i64 17)] ?_ ?_
 refine qV 2 ?_ ?_
 refine qc [.str s,.str [93]] (bL s [93]) ?_ ?_
 refine qN [(0,.str s),(4,.str [93]),(5,.agg aj),(6,.int .i64 17),(11,.bool (aZ s [93]))] [] ?_ ?_
 by_cases hb18:(aZ s [93])=true
 refine qt (hb18) ?_ ?_
 refine qV 3 ?_ ?_
 refine qT ?_ ?_
 apply iR
 apply aR
 apply aR
 apply iR
 apply aR
 refine b8 (n:=1) (.inr rfl) kq ?_
 rotate_left
 iterate 3 kernel_rfl
 refine qf (Bool.eq_false_iff.2 hb18) ?_ ?_
 refine qk ?_ ?_
 refine ak ?_
 refine ab ?_
 refine qz [(0,.str s),(5,.agg aj),(6,.int .i64 17)] ?_ ?_
 refine qo ?_ ?_
 refine qr 2 ?_ ?_
 refine qe ?_ ?_
 refine ab ?_
 refine rSt [0,5,6] [(0,.str s),(5,.agg aj),(6,.int .i64 18)] [] kq kq ?_
 refine fz ?_
 refine qW 1 [(0,.str s),(5,.agg aj),(6,.int .i64 18),(7,.bool true)] [] ?_ ?_
 refine ar ?_ ?_
 refine cp kq kq ?_
 refine qK ?_ ?_
 refine qz [(0,.str s),(5,.agg aj),(6,.int .i64 18)] ?_ ?_
 refine ar ?_ ?_
 refine qB 1 ?_ ?_ ?_
 refine qU 2 [(0,.str s),(4,.str [44]),(5,.agg aj),(6,.int .i64 18)] ?_ ?_
 refine qV 2 ?_ ?_
 refine qc [.str s,.str [44]] (bL s [44]) ?_ ?_
 refine qN [(0,.str s),(4,.str [44]),(5,.agg aj),(6,.int .i64 18),(11,.bool (aZ s [44]))] [] ?_ ?_
 by_cases hb19:(aZ s [44])=true
 refine qt (hb19) ?_ ?_
 refine qV 3 ?_ ?_
 refine qT ?_ ?_
 apply iR
 apply aR
 apply aR
 apply iR
 apply aR
 refine b8 (n:=1) (.inr rfl) kq ?_
 rotate_left
 iterate 3 kernel_rfl
 refine qf (Bool.eq_false_iff.2 hb19) ?_ ?_
 refine qk ?_ ?_
 refine ak ?_
 refine ab ?_
 refine qz [(0,.str s),(5,.agg aj),(6,.int .i64 18)] ?_ ?_
 refine qo ?_ ?_
 refine qr 2 ?_ ?_
 refine qe ?_ ?_
 refine ab ?_
 refine rSt [0,5,6] [(0,.str s),(5,.agg aj),(6,.int .i64 19)] [] kq kq ?_
 refine fz ?_
 refine qW 1 [(0,.str s),(5,.agg aj),(6,.int .i64 19),(7,.bool true)] [] ?_ ?_
 refine ar ?_ ?_
 refine cp kq kq ?_
 refine qK ?_ ?_
 refine qz [(0,.str s),(5,.agg aj),(6,.int .i64 19)] ?_ ?_
 refine ar ?_ ?_
 refine qB 1 ?_ ?_ ?_
 refine qU 2 [(0,.str s),(4,.str [46]),(5,.agg aj),(6,.int .i64 19)] ?_ ?_
 refine qV 2 ?_ ?_
 refine qc [.str s,.str [46]] (bL s [46]) ?_ ?_
 refine qN [(0,.str s),(4,.str [46]),(5,.agg aj),(6,.int .i64 19),(11,.bool (aZ s [46]))] [] ?_ ?_
 by_cases hb20:(aZ s [46])=true
 refine qt (hb20) ?_ ?_
 refine qV 3 ?_ ?_
 refine qT ?_ ?_
 apply iR
 apply aR
 apply aR
 apply iR
 apply aR
 refine b8 (n:=1) (.inr rfl) kq ?_
 rotate_left
 iterate 3 kernel_rfl
 refine qf (Bool.eq_false_iff.2 hb20) ?_ ?_
 refine qk ?_ ?_
 refine ak ?_
 refine ab ?_
 refine qz [(0,.str s),(5,.agg aj),(6,.int .i64 19)] ?_ ?_
 refine qo ?_ ?_
 refine qr 2 ?_ ?_
 refine qe ?_ ?_
 refine ab ?_
 refine rSt [0,5,6] [(0,.str s),(5,.agg aj),(6,.int .i64 20)] [] kq kq ?_
 refine fz ?_
 refine qW 1 [(0,.str s),(5,.agg aj),(6,.int .i64 20),(7,.bool true)] [] ?_ ?_
 refine ar ?_ ?_
 refine cp kq kq ?_
 refine qK ?_ ?_
 refine qz [(0,.str s),(5,.agg aj),(6,.int .i64 20)] ?_ ?_
 refine ar ?_ ?_
 refine qB 1 ?_ ?_ ?_
 refine qU 2 [(0,.str s),(4,.str [58]),(5,.agg aj),(6,.int .i64 20)] ?_ ?_
 refine qV 2 ?_ ?_
 refine qc [.str s,.str [58]] (bL s [58]) ?_ ?_
 refine qN [(0,.str s),(4,.str [58]),(5,.agg aj),(6,.int .i64 20),(11,.bool (aZ s [58]))] [] ?_ ?_
 by_cases hb21:(aZ s [58])=true
 refine qt (hb21) ?_ ?_
 refine qV 3 ?_ ?_
 refine qT ?_ ?_
 apply iR
 apply aR
 apply aR
 apply iR
 apply aR
 refine b8 (n:=1) (.inr rfl) kq ?_
 rotate_left
 iterate 3 kernel_rfl
 refine qf (Bool.eq_false_iff.2 hb21) ?_ ?_
 refine qk ?_ ?_
 refine ak ?_
 refine ab ?_
 refine qz [(0,.str s),(5,.agg aj),(6,.int .i64 20)] ?_ ?_
 refine qo ?_ ?_
 refine qr 2 ?_ ?_
 refine qe ?_ ?_
 refine ab ?_
 refine rSt [0,5,6] [(0,.str s),(5,.agg aj),(6,.int .i64 21)] [] kq kq ?_
 refine fz ?_
 refine qW 1 [(0,.str s),(5,.agg aj),(6,.int .i64 21),(7,.bool true)] [] ?_ ?_
 refine ar ?_ ?_
 refine cp kq kq ?_
 refine qK ?_ ?_
 refine qz [(0,.str s),(5,.agg aj),(6,.int .i64 21)] ?_ ?_
 refine ar ?_ ?_
 refine qB 1 ?_ ?_ ?_
 refine qU 2 [(0,.str s),(4,.str [124]),(5,.agg aj),(6,.int .i64 21)] ?_ ?_
 refine qV 2 ?_ ?_
 refine qc [.str s,.str [124]] (bL s [124]) ?_ ?_
 refine qN [(0,.str s),(4,.str [124]),(5,.agg aj),(6,.int .i64 21),(11,.bool (aZ s [124]))] [] ?_ ?_
 by_cases hb22:(aZ s [124])=true
 refine qt (hb22) ?_ ?_
 refine qV 3 ?_ ?_
 refine qT ?_ ?_
 apply iR
 apply aR
 apply aR
 apply iR
 apply aR
 refine b8 (n:=1) (.inr rfl) kq ?_
 rotate_left
 iterate 3 kernel_rfl
 refine qf (Bool.eq_false_iff.2 hb22) ?_ ?_
 refine qk ?_ ?_
 refine ak ?_
 refine ab ?_
 refine qz [(0,.str s),(5,.agg aj),(6,.int .i64 21)] ?_ ?_
 refine qo ?_ ?_
 refine qr 2 ?_ ?_
 refine qe ?_ ?_
 refine ab ?_
 refine rSt [0,5,6] [(0,.str s),(5,.agg aj),(6,.int .i64 22)] [] kq kq ?_
 refine fz ?_
 refine qW 1 [(0,.str s),(5,.agg aj),(6,.int .i64 22),(7,.bool true)] [] ?_ ?_
 refine ar ?_ ?_
 refine cp kq kq ?_
 refine qK ?_ ?_
 refine qz [(0,.str s),(5,.agg aj),(6,.int .i64 22)] ?_ ?_
 refine ar ?_ ?_
 refine qB 1 ?_ ?_ ?_
 refine qU 2 [(0,.str s),(4,.str [59]),(5,.agg aj),(6,.int .i64 22)] ?_ ?_
 refine qV 2 ?_ ?_
 refine qc [.str s,.str [59]] (bL s [59]) ?_ ?_
 refine qN [(0,.str s),(4,.str [59]),(5,.agg aj),(6,.int .i64 22),(11,.bool (aZ s [59]))] [] ?_ ?_
 by_cases hb23:(aZ s [59])=true
 refine qt (hb23) ?_ ?_
 refine qV 3 ?_ ?_
 refine qT ?_ ?_
 apply iR
 apply aR
 apply aR
 apply iR
 apply aR
 refine b8 (n:=1) (.inr rfl) kq ?_
 rotate_left
 iterate 3 kernel_rfl
 refine qf (Bool.eq_false_iff.2 hb23) ?_ ?_
 refine qk ?_ ?_
 refine ak ?_
 refine ab ?_
 refine qz [(0,.str s),(5,.agg aj),(6,.int .i64 22)] ?_ ?_
 refine qo ?_ ?_
 refine qr 2 ?_ ?_
 refine qe ?_ ?_
 refine ab ?_
 refine rSt [0,5,6] [(0,.str s),(5,.agg aj),(6,.int .i64 23)] [] kq kq ?_
 refine fz ?_
 refine qW 1 [(0,.str s),(5,.agg aj),(6,.int .i64 23),(7,.bool true)] [] ?_ ?_
 refine ar ?_ ?_
 refine cp kq kq ?_
 refine qK ?_ ?_
 refine qz [(0,.str s),(5,.agg aj),(6,.int .i64 23)] ?_ ?_
 refine ar ?_ ?_
 refine qB 1 ?_ ?_ ?_
 refine qU 2 [(0,.str s),(4,.str [63]),(5,.agg aj),(6,.int .i64 23)] ?_ ?_
 refine qV 2 ?_ ?_
 refine qc [.str s,.str [63]] (bL s [63]) ?_ ?_
 refine qN [(0,.str s),(4,.str [63]),(5,.agg aj),(6,.int .i64 23),(11,.bool (aZ s [63]))] [] ?_ ?_
 by_cases hb24:(aZ s [63])=true
 refine qt (hb24) ?_ ?_
 refine qV 3 ?_ ?_
 refine qT ?_ ?_
 apply iR
 apply aR
 apply aR
 apply iR
 apply aR
 refine b8 (n:=1) (.inr rfl) kq ?_
 rotate_left
 iterate 3 kernel_rfl
 refine qf (Bool.eq_false_iff.2 hb24) ?_ ?_
 refine qk ?_ ?_
 refine ak ?_
 refine ab ?_
 refine qz [(0,.str s),(5,.agg aj),(6,.int .i64 23)] ?_ ?_
 refine qo ?_ ?_
 refine qr 2 ?_ ?_
 refine qe ?_ ?_
 refine ab ?_
 refine rSt [0,5,6] [(0,.str s),(5,.agg aj),(6,.int .i64 24)] [] kq kq ?_
 refine fz ?_
 refine qW 1 [(0,.str s),(5,.agg aj),(6,.int .i64 24),(7,.bool false)] [] ?_ ?_
 refine ar ?_ ?_
 refine dY kq kq ?_
 refine bC 0 kq kq ?_
 refine af ?_
 refine af ?_
 refine aA ?_
 refine ab ?_
 refine qz [] ?_ ?_
 refine qV 1 ?_ ?_
 refine qT ?_ ?_
 refine b8 (n:=0) (.inr rfl) kq ?_
 rotate_left
 iterate 419 kernel_rfl
 all_goals
  simp [nE,Iw, *]
end Go.Proofs.YtdikgijfekfaoaaGreatDoor
namespace Go.Proofs
open Go.Shelf
def Tryz.keys114_ren:Go.Shelf.Ren:=⟨fun|7=>114|10=>127|n=>n,fun|23=>106|26=>9|3=>25|28=>127|0=>0|27=>126|33=>107|4=>4|n=>n,fun|n=>n⟩
theorem Tryz.keys114:Go.Proofs.SlLaysZ.n7 Tryz.prog Tryz.keys114_ren:={
 mixed:=by kernel_rfl
 f7:=⟨Tryz.f114.name,by decide,Tryz.func114.trans (congrArg some (by kernel_rfl))⟩
 f10:=⟨Tryz.f127.name,by decide,Tryz.func127.trans (congrArg some (by kernel_rfl))⟩
 t0:=Tryz.underlying0
 a0:=Tryz.isAgg0
 z0:=Tryz.sizeOf0
 v0:=Tryz.zeroValue0
 t4:=Tryz.underlying4
 a4:=Tryz.isAgg4
 z4:=Tryz.sizeOf4
 v4:=Tryz.zeroValue4
 t23:=Tryz.underlying106
 a23:=Tryz.isAgg106
 z23:=Tryz.sizeOf106
 v23:=Tryz.zeroValue106
 t26:=Tryz.underlying9
 a26:=Tryz.isAgg9
 z26:=Tryz.sizeOf9
 v26:=Tryz.zeroValue9
 t27:=Tryz.underlying126
 a27:=Tryz.isAgg126
 z27:=Tryz.sizeOf126
 v27:=Tryz.zeroValue126
 t28:=Tryz.underlying127
 a28:=Tryz.isAgg127
 z28:=Tryz.sizeOf127
 v28:=Tryz.zeroValue127
 t33:=Tryz.underlying107
 a33:=Tryz.isAgg107
 z33:=Tryz.sizeOf107
 v33:=Tryz.zeroValue107 }
def Tryz.keys123_ren:Go.Shelf.Ren:=⟨fun|7=>123|10=>138|n=>n,fun|23=>137|26=>9|3=>4|28=>127|0=>0|27=>126|33=>107|4=>4|n=>n,fun|n=>n⟩
theorem Tryz.keys123:Go.Proofs.SlLaysZ.n7 Tryz.prog Tryz.keys123_ren:={
 mixed:=by kernel_rfl
 f7:=⟨Tryz.f123.name,by decide,Tryz.func123.trans (congrArg some (by kernel_rfl))⟩
 f10:=⟨Tryz.f138.name,by decide,Tryz.func138.trans (congrArg some (by kernel_rfl))⟩
 t0:=Tryz.underlying0
 a0:=Tryz.isAgg0
 z0:=Tryz.sizeOf0
 v0:=Tryz.zeroValue0
 t4:=Tryz.underlying4
 a4:=Tryz.isAgg4
 z4:=Tryz.sizeOf4
 v4:=Tryz.zeroValue4
 t23:=Tryz.underlying137
 a23:=Tryz.isAgg137
 z23:=Tryz.sizeOf137
 v23:=Tryz.zeroValue137
 t26:=Tryz.underlying9
 a26:=Tryz.isAgg9
 z26:=Tryz.sizeOf9
 v26:=Tryz.zeroValue9
 t27:=Tryz.underlying126
 a27:=Tryz.isAgg126
 z27:=Tryz.sizeOf126
 v27:=Tryz.zeroValue126
 t28:=Tryz.underlying127
 a28:=Tryz.isAgg127
 z28:=Tryz.sizeOf127
 v28:=Tryz.zeroValue127
 t33:=Tryz.underlying107
 a33:=Tryz.isAgg107
 z33:=Tryz.sizeOf107
 v33:=Tryz.zeroValue107 }
def Tryz.sorted113_ren:Go.Shelf.Ren:=⟨fun|6=>113|8=>125|9=>126|11=>139|13=>141|12=>140|23=>163|24=>164|14=>154|15=>155|16=>156|17=>157|18=>158|19=>159|20=>160|21=>161|22=>162|25=>185|26=>186|27=>187|28=>188|29=>189|30=>190|31=>206|n=>n,fun|26=>9|28=>127|24=>22|0=>0|3=>3|37=>152|48=>177|50=>179|4=>4|40=>171|39=>170|45=>113|5=>5|9=>9|51=>194|55=>198|57=>216|58=>145|33=>107|n=>n,fun|n=>n⟩
theorem Tryz.sorted113:Go.Proofs.SlLaysZ.n6 Tryz.prog Tryz.sorted113_ren:={
 mixed:=by kernel_rfl
 f6:=⟨Tryz.f113.name,by decide,Tryz.func113.trans (congrArg some (by kernel_rfl))⟩
 f8:=⟨Tryz.f125.name,by decide,Tryz.func125.trans (congrArg some (by kernel_rfl))⟩
 f11:=⟨Tryz.f139.name,by decide,Tryz.func139.trans (congrArg some (by kernel_rfl))⟩
 t0:=Tryz.underlying0
 a0:=Tryz.isAgg0
 z0:=Tryz.sizeOf0
 v0:=Tryz.zeroValue0
 t24:=Tryz.underlying22
 a24:=Tryz.isAgg22
 z24:=Tryz.sizeOf22
 v24:=Tryz.zeroValue22
 t26:=Tryz.underlying9
 a26:=Tryz.isAgg9
 z26:=Tryz.sizeOf9
 v26:=Tryz.zeroValue9
 t28:=Tryz.underlying127
 a28:=Tryz.isAgg127
 z28:=Tryz.sizeOf127
 v28:=Tryz.zeroValue127
 i26:=by kernel_rfl }
def Tryz.sort126_ren:Go.Shelf.Ren:=⟨fun|6=>126|8=>141|9=>140|19=>163|20=>164|21=>154|22=>155|23=>156|24=>157|25=>158|26=>159|27=>160|28=>161|29=>162|36=>185|31=>186|32=>187|37=>188|38=>189|39=>190|41=>206|n=>n,fun|27=>22|29=>9|3=>3|32=>152|26=>22|0=>0|44=>177|46=>179|4=>4|36=>171|35=>170|41=>113|5=>5|9=>9|53=>194|57=>198|63=>216|64=>145|n=>n,fun|n=>n⟩
theorem Tryz.sort126:Go.Proofs.SlLaysM.n6 Tryz.prog Tryz.sort126_ren:={
 mixed:=by kernel_rfl
 f6:=⟨Tryz.f126.name,by decide,Tryz.func126.trans (congrArg some (by kernel_rfl))⟩
 f8:=Tryz.func141.trans (congrArg some (by kernel_rfl))
 f9:=⟨Tryz.f140.name,by decide,Tryz.func140.trans (congrArg some (by kernel_rfl))⟩
 f19:=Tryz.func163.trans (congrArg some (by kernel_rfl))
 f20:=Tryz.func164.trans (congrArg some (by kernel_rfl))
 f21:=⟨Tryz.f154.name,by decide,Tryz.func154.trans (congrArg some (by kernel_rfl))⟩
 f22:=⟨Tryz.f155.name,by decide,Tryz.func155.trans (congrArg some (by kernel_rfl))⟩
 f23:=⟨Tryz.f156.name,by decide,Tryz.func156.trans (congrArg some (by kernel_rfl))⟩
 f24:=⟨Tryz.f157.name,by decide,Tryz.func157.trans (congrArg some (by kernel_rfl))⟩
 f25:=⟨Tryz.f158.name,by decide,Tryz.func158.trans (congrArg some (by kernel_rfl))⟩
 f26:=⟨Tryz.f159.name,by decide,Tryz.func159.trans (congrArg some (by kernel_rfl))⟩
 f27:=⟨Tryz.f160.name,by decide,Tryz.func160.trans (congrArg some (by kernel_rfl))⟩
 f28:=⟨Tryz.f161.name,by decide,Tryz.func161.trans (congrArg some (by kernel_rfl))⟩
 f29:=⟨Tryz.f162.name,by decide,Tryz.func162.trans (congrArg some (by kernel_rfl))⟩
 f31:=Tryz.func186.trans (congrArg some (by kernel_rfl))
 f32:=Tryz.func187.trans (congrArg some (by kernel_rfl))
 f36:=⟨Tryz.f185.name,by decide,Tryz.func185.trans (congrArg some (by kernel_rfl))⟩
 f37:=⟨Tryz.f188.name,by decide,Tryz.func188.trans (congrArg some (by kernel_rfl))⟩
 f38:=⟨Tryz.f189.name,by decide,Tryz.func189.trans (congrArg some (by kernel_rfl))⟩
 f39:=⟨Tryz.f190.name,by decide,Tryz.func190.trans (congrArg some (by kernel_rfl))⟩
 f41:=⟨Tryz.f206.name,by decide,Tryz.func206.trans (congrArg some (by kernel_rfl))⟩
 t0:=Tryz.underlying0
 a0:=Tryz.isAgg0
 z0:=Tryz.sizeOf0
 v0:=Tryz.zeroValue0
 t3:=Tryz.underlying3
 a3:=Tryz.isAgg3
 z3:=Tryz.sizeOf3
 v3:=Tryz.zeroValue3
 t4:=Tryz.underlying4
 a4:=Tryz.isAgg4
 z4:=Tryz.sizeOf4
 v4:=Tryz.zeroValue4
 t5:=Tryz.underlying5
 a5:=Tryz.isAgg5
 z5:=Tryz.sizeOf5
 v5:=Tryz.zeroValue5
 t9:=Tryz.underlying9
 a9:=Tryz.isAgg9
 z9:=Tryz.sizeOf9
 v9:=Tryz.zeroValue9
 t26:=Tryz.underlying22
 a26:=Tryz.isAgg22
 z26:=Tryz.sizeOf22
 v26:=Tryz.zeroValue22
 t27:=Tryz.underlying22
 a27:=Tryz.isAgg22
 z27:=Tryz.sizeOf22
 v27:=Tryz.zeroValue22
 t29:=Tryz.underlying9
 a29:=Tryz.isAgg9
 z29:=Tryz.sizeOf9
 v29:=Tryz.zeroValue9
 t32:=Tryz.underlying152
 a32:=Tryz.isAgg152
 z32:=Tryz.sizeOf152
 v32:=Tryz.zeroValue152
 t35:=Tryz.underlying170
 a35:=Tryz.isAgg170
 z35:=Tryz.sizeOf170
 v35:=Tryz.zeroValue170
 t36:=Tryz.underlying171
 a36:=Tryz.isAgg171
 z36:=Tryz.sizeOf171
 v36:=Tryz.zeroValue171
 t41:=Tryz.underlying113
 a41:=Tryz.isAgg113
 z41:=Tryz.sizeOf113
 v41:=Tryz.zeroValue113
 t44:=Tryz.underlying177
 a44:=Tryz.isAgg177
 z44:=Tryz.sizeOf177
 v44:=Tryz.zeroValue177
 t46:=Tryz.underlying179
 a46:=Tryz.isAgg179
 z46:=Tryz.sizeOf179
 v46:=Tryz.zeroValue179
 t53:=Tryz.underlying194
 a53:=Tryz.isAgg194
 z53:=Tryz.sizeOf194
 v53:=Tryz.zeroValue194
 t57:=Tryz.underlying198
 a57:=Tryz.isAgg198
 z57:=Tryz.sizeOf198
 v57:=Tryz.zeroValue198
 t63:=Tryz.underlying216
 a63:=Tryz.isAgg216
 z63:=Tryz.sizeOf216
 v63:=Tryz.zeroValue216
 t64:=Tryz.underlying145
 a64:=Tryz.isAgg145
 z64:=Tryz.sizeOf145
 v64:=Tryz.zeroValue145 }
def Tryz.mclone65_ren:Go.Shelf.Ren:=⟨fun|5=>65|7=>105|n=>n,fun|23=>88|25=>3|3=>93|4=>4|20=>20|n=>n,fun|n=>n⟩
theorem Tryz.mclone65:Go.Proofs.SlLaysW.n5 Tryz.prog Tryz.mclone65_ren:={
 mixed:=by kernel_rfl
 f5:=⟨Tryz.f65.name,by decide,Tryz.func65.trans (congrArg some (by kernel_rfl))⟩
 f7:=Tryz.func105.trans (congrArg some (by kernel_rfl))
 t4:=Tryz.underlying4
 a4:=Tryz.isAgg4
 z4:=Tryz.sizeOf4
 v4:=Tryz.zeroValue4
 t20:=Tryz.underlying20
 a20:=Tryz.isAgg20
 z20:=Tryz.sizeOf20
 v20:=Tryz.zeroValue20
 t23:=Tryz.underlying88
 a23:=Tryz.isAgg88
 z23:=Tryz.sizeOf88
 v23:=Tryz.zeroValue88 }
def Tryz.lays153_ren:Go.Shelf.Ren:=⟨fun|153=>152|152=>181|226=>182|227=>183|228=>184|137=>202|119=>203|224=>204|225=>205|217=>213|266=>218|n=>n,fun|9=>9|3=>3|4=>4|5=>5|21=>21|117=>192|116=>191|0=>0|46=>152|124=>215|n=>n,fun|n=>n⟩
theorem Tryz.lays153:Go.Proofs.Lays.n153 Tryz.prog Tryz.lays153_ren:={
 mixed:=by kernel_rfl
 f119:=Tryz.func203.trans (congrArg some (by kernel_rfl))
 f137:=Tryz.func202.trans (congrArg some (by kernel_rfl))
 f152:=Tryz.func181.trans (congrArg some (by kernel_rfl))
 f153:=Tryz.func152.trans (congrArg some (by kernel_rfl))
 f217:=Tryz.func213.trans (congrArg some (by kernel_rfl))
 f224:=Tryz.func204.trans (congrArg some (by kernel_rfl))
 f225:=Tryz.func205.trans (congrArg some (by kernel_rfl))
 f226:=Tryz.func182.trans (congrArg some (by kernel_rfl))
 f227:=Tryz.func183.trans (congrArg some (by kernel_rfl))
 f228:=Tryz.func184.trans (congrArg some (by kernel_rfl))
 f266:=Tryz.func218.trans (congrArg some (by kernel_rfl))
 t0:=Tryz.underlying0
 a0:=Tryz.isAgg0
 z0:=Tryz.sizeOf0
 v0:=Tryz.zeroValue0
 t3:=Tryz.underlying3
 a3:=Tryz.isAgg3
 z3:=Tryz.sizeOf3
 v3:=Tryz.zeroValue3
 t4:=Tryz.underlying4
 a4:=Tryz.isAgg4
 z4:=Tryz.sizeOf4
 v4:=Tryz.zeroValue4
 t5:=Tryz.underlying5
 a5:=Tryz.isAgg5
 z5:=Tryz.sizeOf5
 v5:=Tryz.zeroValue5
 t9:=Tryz.underlying9
 a9:=Tryz.isAgg9
 z9:=Tryz.sizeOf9
 v9:=Tryz.zeroValue9
 t21:=Tryz.underlying21
 a21:=Tryz.isAgg21
 z21:=Tryz.sizeOf21
 v21:=Tryz.zeroValue21
 t46:=Tryz.underlying152
 a46:=Tryz.isAgg152
 z46:=Tryz.sizeOf152
 v46:=Tryz.zeroValue152
 t116:=Tryz.underlying191
 a116:=Tryz.isAgg191
 z116:=Tryz.sizeOf191
 t117:=Tryz.underlying192
 a117:=Tryz.isAgg192
 z117:=Tryz.sizeOf192
 v117:=Tryz.zeroValue192
 t124:=Tryz.underlying215
 a124:=Tryz.isAgg215
 z124:=Tryz.sizeOf215
 v124:=Tryz.zeroValue215 }
end Go.Proofs
namespace Go.Proofs.YtdikgijfekfaoaaGreatDoor
open Go
theorem nT (s:ByteArray) (pos:Nat) (h:pos<s.size) (ha:128≤(s[pos]'h).toNat) :
 pos+(Utf8.decode s pos).2≤s.size∧(∀ k,k<(Utf8.decode s pos).2→128≤(s.get! (pos+k)).toNat)∧Utf8.valid (Utf8.decode s pos).1=true:=by
 have e0:=get_at s pos h
 have h0:128≤(s.get! (pos+0)).toNat:=by rw [e0];exact ha
 have hb:∀ k,(s.get! (pos+k)).toNat<256:=fun k=>(s.get! (pos+k)).toNat_lt
 have hb0:=hb 0;have hb1:=hb 1;have hb2:=hb 2;have hb3:=hb 3
 have one:(∀ k,k<1→128≤(s.get! (pos+k)).toNat):=by intro k hk;have e:k=0:=(by omega);rw [e];exact h0
 have er:Utf8.valid ((Utf8.runeError:Nat):Int)=true:=by decide
 have c2:∀ {x:Nat},x / 64=2→128≤x:=by intro x hx;omega
 simp only [Utf8.decode]
 rw [if_neg (by omega)]
 split
 · rename_i h1
   simp only [Bool.and_eq_true,beq_iff_eq,decide_eq_true_eq] at h1
   split
   · refine ⟨by simp only;omega,?_,?_⟩
     · intro k hk
       simp only at hk
       rcases (by omega:k=0∨k=1) with rfl|rfl
       · exact h0
       · exact c2 h1.2.2
     · simp only [Utf8.valid,Bool.or_eq_true,Bool.and_eq_true,decide_eq_true_eq];left;omega
   · exact ⟨by simp only;omega,one,er⟩
 · split
   · rename_i h1
     simp only [Bool.and_eq_true,beq_iff_eq,decide_eq_true_eq] at h1
     split
     · rename_i h2
       simp only [Bool.and_eq_true,decide_eq_true_eq] at h2
       refine ⟨by simp only;omega,?_,by simpa using h2.2⟩
       intro k hk
       simp only at hk
       rcases (by omega:k=0∨k=1∨k=2) with rfl|rfl|rfl
       · exact h0
       · exact c2 h1.1.2.2
       · exact c2 h1.2.2
     · exact ⟨by simp only;omega,one,er⟩
   · split
     · rename_i h1
       simp only [Bool.and_eq_true,beq_iff_eq,decide_eq_true_eq] at h1
       split
       · rename_i h2
         simp only [Bool.and_eq_true,decide_eq_true_eq] at h2
         refine ⟨by simp only;omega,?_,by simpa using h2.2⟩
         intro k hk
         simp only at hk
         rcases (by omega:k=0∨k=1∨k=2∨k=3) with rfl|rfl|rfl|rfl
         · exact h0
         · exact c2 h1.1.1.2.2
         · exact c2 h1.1.2.2
         · exact c2 h1.2.2
       · exact ⟨by simp only;omega,one,er⟩
     · exact ⟨by simp only;omega,one,er⟩
end Go.Proofs.YtdikgijfekfaoaaGreatDoor
namespace Go.Proofs.YtdikgijfekfaoaaGreatDoor
open Go Go.Proofs Go.Shelf Go.RowKit Go.Lib
variable {P:Program} {ρ:Ren}
def qnl:ByteArray:=⟨#[34,10]⟩
theorem Fg (i:Nat) (hi:i<qnl.size):(qnl[i]'hi).toNat<128:=by
 have h2:qnl.size=2:=rfl
 rcases (by omega:i=0∨i=1) with rfl|rfl
 · show (34:UInt8).toNat<128;decide
 · show (10:UInt8).toNat<128;decide
set_option maxHeartbeats 4000000 in
set_option maxRecDepth 1000000 in
theorem oF (L:Lays.n152 P ρ) (w:World) :
 Calls P (ρ.f 152) #[.string qnl,.int .i32 65533] w fun e w'=>e=.returned (.int .i64 (-1))∧∃ pos,w'=w.iter qnl pos:=by
 have t3:=L.t3;have a3:=L.a3;have z3:=L.z3;have v3:=L.v3
 have t4:=L.t4;have a4:=L.a4;have z4:=L.z4;have v4:=L.v4
 have t5:=L.t5;have a5:=L.a5;have z5:=L.z5;have v5:=L.v5
 have t9:=L.t9;have a9:=L.a9;have z9:=L.z9;have v9:=L.v9
 have t21:=L.t21;have a21:=L.a21;have z21:=L.z21;have v21:=L.v21
 have hq0:qnl.size=2:=rfl
 go_enter L.f152,Body.n152_ntmps ρ
 go_wp2
 go_loopg [5,6] 2 (fun g _ _ wx=>∃ i:Nat,i+g=2∧wx=w.iter qnl i)
 case atStart=>exact ⟨0,by omega,rfl⟩
 case round =>
  obtain ⟨i,hig,rfl⟩:=hrel
  cases gk with
  | zero =>
   obtain rfl:i=2:=by omega
   have hnx:=run_next_end (P:=P) w qnl 2
   go_wp2
   go_ret
   exact ⟨rfl,_,rfl⟩
  | succ g =>
   have hi:i<qnl.size:=by omega
   obtain ⟨x,hx⟩:∃ x:UInt8,qnl[i]'hi=x:=⟨_,rfl⟩
   have hx128:x.toNat<128:=by
    rw [← hx]
    exact Fg i hi
   have hnx:=fun ty=>run_next_ascii (P:=P) w qnl i ty hi (by rw [hx];exact hx128)
   rw [hx] at hnx
   clear hx
   have hne:((x.toNat:Int)==65533)=false:=beq_eq_false_iff_ne.2 (by omega)
   go_wp2
   go_roundg g
   case measure=>omega
   case rel=>exact ⟨i+1,by omega,rfl⟩
theorem tR {r:Int} (hv:Utf8.valid r=true):Lib.validRune r=true:=by
 simp only [Utf8.valid,Lib.validRune] at *
 simp at *
 omega
set_option maxHeartbeats 4000000 in
set_option maxRecDepth 1000000 in
theorem rE (L:Lays.n152 P ρ) (r:Int) (w:World) (h0:128≤r) (hv:Utf8.valid r=true) (hne:r≠65533) :
 Calls P (ρ.f 152) #[.string qnl,.int .i32 r] w fun e w'=>e=.returned (.int .i64 (-1))∧Below w.heap.size w w':=by
 have t3:=L.t3;have a3:=L.a3;have z3:=L.z3;have v3:=L.v3
 have t4:=L.t4;have a4:=L.a4;have z4:=L.z4;have v4:=L.v4
 have t5:=L.t5;have a5:=L.a5;have z5:=L.z5;have v5:=L.v5
 have t9:=L.t9;have a9:=L.a9;have z9:=L.z9;have v9:=L.v9
 have t21:=L.t21;have a21:=L.a21;have z21:=L.z21;have v21:=L.v21
 have hq0:qnl.size=2:=rfl
 have hr1:(r==65533)=false:=beq_eq_false_iff_ne.2 hne
 have hr2:¬ (r<128):=by omega
 have hvr:=tR hv
 have e119:∀ args w,(callFunc (ρ.f 119) args).run P w=.ok (.enter (ρ.f 119) args) w:=enters_of L.f119 (by kernel_rfl) rfl
 have e137:∀ args w,(callFunc (ρ.f 137) args).run P w=.ok (.enter (ρ.f 137) args) w:=enters_of L.f137 (by kernel_rfl) rfl
 go_enter L.f152,Body.n152_ntmps ρ
 have mixed:=L.mixed
 have hcv:=fun w=>run_convert_int_string (P:=P) w (ρ.t 21) (ρ.t 9) .i32 r (by rw [t21];rfl) t9
 obtain ⟨g1,g2,g3⟩:=encode_facts r hv h0
 generalize Utf8.encode r=rs at hcv g1 g2 g3
 obtain ⟨c,hc⟩:∃ c:UInt8,rs[rs.size - 1]'(by omega)=c:=⟨_,rfl⟩
 have g3:=g3 (by omega)
 rw [hc] at g3
 obtain ⟨k,hk⟩:∃ k,rs.size=k+1:=⟨rs.size - 1,by omega⟩
 go_wp2_with (go_at_fn (ρ.f 119);refine (Any.utf8_ValidRune { L with } _ _).mono ?_;rintro e w' ⟨rfl,hw⟩;rw [hw,hvr])
 go_step3
 go_wp2
 go_loopg [9,10] 0 (fun _ s9 s10 wx=>s9=.int .i64 k∧s10=.int .i64 0∧wx=w)
 case atStart=>exact ⟨rfl,rfl,rfl⟩
 case round =>
  obtain ⟨rfl,rfl,rfl⟩:=hrel
  by_cases hk1:k=1
  · subst hk1
    have hlt:(1:Int)<(qnl.size:Int):=by rw [hq0];omega
    have hlr:(1:Int)<(rs.size:Int):=by omega
    have hcr:rs[1]'(by omega)=c:=by rw [← hc];congr 1;omega
    have hq1:qnl[1]'(by rw [hq0];omega)=10:=rfl
    have hcn:((10:Int)==(c.toNat:Int))=false:=beq_eq_false_iff_ne.2 (by omega)
    have hIB:∀ w,Calls P (ρ.f 137) #[.string ByteArray.empty,.int .u8 c.toNat] w fun e w'=>e=.returned (.int .i64 (-1))∧w'=w:=fun w=>Any.strings_IndexByte { L with } ByteArray.empty c.toNat w
    go_wp2
    go_step3
    go_wp2
    go_region_o
    go_wp2
    have hw2:IntKind.i64.wrap 2=2:=by decide
    have h2q:(2:Int)≤(qnl.size:Int):=by rw [hq0];omega
    go_quiet_o (first|(refine (hIB _).mono ?_;rintro e w' ⟨rfl,rfl⟩;exact ⟨rfl,_,rfl⟩))
    go_wp2
    go_wp2
    rw [Exit.noGoto_ret]
    go_wp2
    (try rw [Exit.noGoto_ret])
    go_ret
    exact ⟨rfl,rfl,rfl,rfl,Nat.le_refl _,fun _ _=>rfl⟩
  · have hlt:¬ ((k:Int)<(qnl.size:Int)):=by rw [hq0];omega
    go_wp2
    go_ret
    exact ⟨rfl,Below.refl _ _⟩
end Go.Proofs.YtdikgijfekfaoaaGreatDoor
namespace Go.Proofs.YtdikgijfekfaoaaGreatDoor
open Go Go.Proofs Go.Shelf Go.RowKit Go.Lib
variable {P:Program} {ρ:Ren}
theorem ul (W:World) (b:Nat) (s:ByteArray) (pos:Nat) (hb:W.heap[b]?=some (.stringIter s pos)) (h:pos<s.size) :
 ∃ W2,(∀ ty,(Instr.next (.pointer (some ⟨b,0,none⟩)) true ty).run P W=.ok (.tuple #[.bool true,.int .i64 pos,.int .i32 (Utf8.decode s pos).1]) W2) ∧
  W2.heap[b]?=some (.stringIter s (pos+(Utf8.decode s pos).2))∧Below b W W2∧W2.heap.size=W.heap.size:=by
 refine ⟨{ W with heap:=W.heap.setIfInBounds b (.stringIter s (pos+(Utf8.decode s pos).2)) },?_,?_,?_,?_⟩
 · intro ty
   simp only [Instr.next,getObj,setObj,Sem.run_bind,Sem.run,hb,Result.andThen,h,if_true]
   simp [goInt]
 · have hlt:b<W.heap.size:=(Array.getElem?_eq_some_iff.1 hb).1
   simp [hlt]
 · refine ⟨rfl,rfl,rfl,by simp,fun k hk=>?_⟩
   simp only [Array.getElem?_setIfInBounds]
   rw [if_neg (by omega)]
 · simp
theorem se (W:World) (b:Nat) (s:ByteArray) (pos:Nat) (hb:W.heap[b]?=some (.stringIter s pos)) (h:¬ pos<s.size) (ty:TypeId) :
 (Instr.next (.pointer (some ⟨b,0,none⟩)) true ty).run P W=.ok (.tuple #[.bool false]) W:=by
 simp [Instr.next,getObj,Sem.run,hb,h]
theorem xF (x:UInt8) (h:128≤x.toNat):qnl.data.toList.contains x=false:=by
 simp only [qnl,List.contains_cons,List.contains_nil,Bool.or_false,Bool.or_eq_false_iff,beq_eq_false_iff_ne]
 refine ⟨?_,?_⟩ <;> (rintro rfl;simp at h)
theorem rK (L:Lays.n152 P ρ) (s:ByteArray) (pos:Nat) (h:pos<s.size) (w:World) :
 ∃ a:Int,(Calls P (ρ.f 152) #[.string qnl,.int .i32 (Utf8.decode s pos).1] w fun e w'=>e=.returned (.int .i64 a)∧Below w.heap.size w w') ∧
  decide (0≤a)=qnl.data.toList.contains (s[pos]'h):=by
 by_cases hx:(s[pos]'h).toNat<128
 · refine ⟨_,?_,(Lib.contains_iff_indexByte qnl.data.toList (s[pos]'h)).symm⟩
   rw [decode_ascii s pos h hx]
   have hback:((((s[pos]'h).toNat:Nat):Int)).toNat.toUInt8=s[pos]'h:=by simp
   have:=Any.strings_IndexRune_ascii L qnl (s[pos]'h).toNat w (by omega) (by omega)
   rw [hback] at this
   exact this.mono fun e w' ⟨h1,h2⟩=>⟨h1,by rw [h2];exact Below.refl _ _⟩
 · have hd:=decode_high s pos h (by omega)
   have hs:=nT s pos h (by omega)
   refine ⟨-1,?_,by rw [xF _ (by omega)];rfl⟩
   by_cases he:(Utf8.decode s pos).1=65533
   · rw [he]
     refine (oF L w).mono ?_
     rintro e w' ⟨h1,pos,rfl⟩
     exact ⟨h1,(Below.refl _ _).alloc (Nat.le_refl _) _⟩
   · exact rE L _ w (by omega) hs.2.2 (by omega)
theorem zf {s:ByteArray} {pos:Nat} (h:pos<s.size) (hn:Lib.NoAny s.data.toList qnl.data.toList pos) (hc:qnl.data.toList.contains (s[pos]'h)=false) :
 pos+(Utf8.decode s pos).2≤s.size∧1≤(Utf8.decode s pos).2∧Lib.NoAny s.data.toList qnl.data.toList (pos+(Utf8.decode s pos).2):=by
 have hsz:=Lib.size_eq s
 by_cases hx:(s[pos]'h).toNat<128
 · rw [decode_ascii s pos h hx]
   exact ⟨by show pos+1≤_;omega,Nat.le_refl _,hn.succ (Lib.data_getElem? s pos h) hc⟩
 · have hd:=decode_high s pos h (by omega)
   have hs:=nT s pos h (by omega)
   refine ⟨hs.1,hd.2,fun j b hj hb=>?_⟩
   by_cases hjp:j<pos
   · exact hn j b hjp hb
   · have:=hs.2.1 (j - pos) (by omega)
     rw [show pos+(j - pos)=j by omega] at this
     have hjs:j<s.size:=by
      rw [hsz]
      exact (List.getElem?_eq_some_iff.1 hb).1
     have e1:=Lib.data_getElem? s j hjs
     rw [hb] at e1
     cases e1
     have e2:=get_at s j hjs
     rw [Nat.add_zero] at e2
     rw [e2] at this
     exact xF _ this
set_option maxHeartbeats 8000000 in
set_option maxRecDepth 1000000 in
theorem rH (L:Lays.n153 P ρ) (s:ByteArray) (w:World) (h8:s.size≤8) :
 Calls P (ρ.f 153) #[.string s,.string qnl] w fun e w'=>e=.returned (.int .i64 (Lib.indexAny s.data.toList qnl.data.toList))∧Below w.heap.size w w':=by
 have hemp:qnl.toList.isEmpty=false:=by rw [Lib.toList_data];rfl
 have hn1:((qnl.size:Int)==1)=false:=rfl
 have h8z:decide ((8:Int)<(s.size:Int))=false:=decide_eq_false (by omega)
 have t3:=L.t3;have a3:=L.a3;have z3:=L.z3;have v3:=L.v3
 have t4:=L.t4;have a4:=L.a4;have z4:=L.z4;have v4:=L.v4
 have t5:=L.t5;have a5:=L.a5;have z5:=L.z5;have v5:=L.v5
 have t9:=L.t9;have a9:=L.a9;have z9:=L.z9;have v9:=L.v9
 have t21:=L.t21;have a21:=L.a21;have z21:=L.z21;have v21:=L.v21
 have e152:∀ args w,(callFunc (ρ.f 152) args).run P w=.ok (.enter (ρ.f 152) args) w:=enters_of L.f152 (by kernel_rfl) rfl
 have e226:∀ args w,(callFunc (ρ.f 226) args).run P w=.ok (.enter (ρ.f 226) args) w:=enters_of L.f226 (by kernel_rfl) rfl
 go_enter L.f153,Body.n153_ntmps ρ
 go_wp2_with (go_at_fn (ρ.f 226);refine (Any.strings_shouldUseASCIISet { L with } _ _).mono ?_;rintro e w' ⟨rfl,hw⟩;rw [hw,h8z])
 go_loopg [9,10] s.size (fun g _ _ wx=>∃ i:Nat,i+g=s.size∧wx.heap[w.heap.size]?=some (.stringIter s i)∧Below w.heap.size w wx∧Lib.NoAny s.data.toList qnl.data.toList i)
 case atStart=>exact ⟨0,by omega,World.iter_heap _ _ _,(Below.refl _ _).alloc (Nat.le_refl _) _,Lib.NoAny.zero _ _⟩
 case round =>
  obtain ⟨i,hig,hit,hbel,hno⟩:=hrel
  have HN:Aside (Lib.NoAny s.data.toList qnl.data.toList i):=hno
  have HB:Aside (Below w.heap.size w wr):=hbel
  clear hno hbel
  cases gk with
  | zero =>
   obtain rfl:i=s.size:=by omega
   have hnx:=se (P:=P) wr w.heap.size s s.size hit (by omega)
   clear hit
   go_wp2
   go_ret
   exact ⟨by rw [Lib.indexAny_none (by rw [← Lib.size_eq];exact HN.out)];rfl,HB.out⟩
  | succ g =>
   have hi:i<s.size:=by omega
   obtain ⟨W2,hnx,hit2,hb2,hs2⟩:=ul (P:=P) wr w.heap.size s i hit hi
   obtain ⟨a,hcall,hdec⟩:=rK (P:=P) (ρ:=ρ) { L with } s i hi W2
   have HI:Aside (W2.heap[w.heap.size]?=some (.stringIter s (i+(Utf8.decode s i).2))):=hit2
   have HB2:Aside (Below w.heap.size wr W2):=hb2
   have HD:Aside (decide (0≤a)=qnl.data.toList.contains (s[i]'hi)):=hdec
   have HL:Aside (w.heap.size<W2.heap.size):=(Array.getElem?_eq_some_iff.1 hit2).1
   clear hit hit2 hb2 hs2 hdec
   by_cases ha:(0:Int)≤a
   · go_wp2_with (go_at_fn (ρ.f 152);refine hcall.mono ?_;rintro e w' ⟨rfl,hw⟩)
     go_ret
     have hc:qnl.data.toList.contains (s[i]'hi)=true:=by rw [← HD.out];exact decide_eq_true ha
     refine ⟨by rw [Lib.indexAny_hit HN.out (Lib.data_getElem? s i hi) hc];rfl,(HB.out.trans HB2.out).trans (hw.mono (Nat.le_of_lt HL.out))⟩
   · go_wp2_with (go_at_fn (ρ.f 152);refine hcall.mono ?_;rintro e w' ⟨rfl,hw⟩)
     have hc:qnl.data.toList.contains (s[i]'hi)=false:=by rw [← HD.out];exact decide_eq_false (by omega)
     obtain ⟨q1,q2,q3⟩:=zf hi HN.out hc
     go_roundg (s.size - (i+(Utf8.decode s i).2))
     case measure=>omega
     case rel=>exact ⟨i+(Utf8.decode s i).2,by omega,(hw.block _ HL.out).trans HI.out,(HB.out.trans HB2.out).trans (hw.mono (Nat.le_of_lt HL.out)),q3⟩
end Go.Proofs.YtdikgijfekfaoaaGreatDoor
namespace Go.Proofs.YtdikgijfekfaoaaGreatDoor
open Go.Proofs.YtdikgijfekfaoaaGreatDoor.Abs Go.RowKit
theorem xr:∀ s:List UInt8,Lib.indexAny s [34,10]=fh s
 | []=>rfl
 | c::s=>by
  have ih:=xr s
  have hq:([34,10]:List UInt8).contains c=isQ c:=by simp only [isQ,List.contains_cons,List.contains_nil,Bool.or_false]
  rw [Lib.indexAny,hq,ih]
  unfold fh
  rw [List.findIdx?_cons]
  cases hc:isQ c with
  | true=>simp
  | false =>
   simp only [Bool.false_eq_true,if_false]
   cases s.findIdx? isQ with
   | none=>rfl
   | some n=>simp
theorem Ei:(Tryz.prog.info? (Tryz.lays153_ren.t 116)).map (fun i=>(i.zero,i.size))=some (some (.agg (Array.replicate 256 (.bool false))),256):=by kernel_rfl
theorem ur (s:ByteArray) (w:World) (hs:s.size<1000000000) :
 Calls Tryz.prog 152 #[.string s,.string qnl] w fun e w'=>e=.returned (.int .i64 (Lib.indexAny s.data.toList qnl.data.toList))∧Below w.heap.size w w':=by
 by_cases h8:s.size≤8
 · exact rH Tryz.lays153 s w h8
 · refine (Any.strings_IndexAny_long Tryz.lays153 (zero_of_info Ei).1 (zero_of_info Ei).2 s qnl w (by decide) (by omega) (by omega) (by decide) ?_).mono fun e w' ⟨h1,h2⟩=>⟨h1,?_⟩
   · intro j b hb
     match j with
     | 0=>simp [qnl] at hb;subst hb;decide
     | 1=>simp [qnl] at hb;subst hb;decide
     | j+2=>simp [qnl] at hb
   · rw [h2]
     exact ((Below.refl _ _).alloc (Nat.le_refl _) _).alloc (by simp) _
theorem r8 (s:List UInt8) (hs:s.length<1000000000):ay cx 152 [.str s,.str [34,10]] (.int .i64 (fh s)):=by
 refine oD (cv:=.int .i64 (fh s)) ⟨_,Tryz.func152,rfl,rfl⟩ rfl ?_
 intro ρ w cargs hv
 obtain ⟨u,v,rfl,h1,h2⟩:=hv.two
 cases h1
 cases h2
 refine (ur ⟨s.toArray⟩ w (by simpa [ByteArray.size] using hs)).mono ?_
 rintro e w' ⟨rfl,hb⟩
 refine ⟨?_,hb⟩
 rw [← xr]
 rfl
end Go.Proofs.YtdikgijfekfaoaaGreatDoor
namespace Go.Proofs.YtdikgijfekfaoaaGreatDoor
open Go.Proofs.YtdikgijfekfaoaaGreatDoor.Abs
set_option maxRecDepth 20000
set_option maxHeartbeats 4000000
def Sorted (l:List (List UInt8)):Prop:=∀ i j,i<j→j<l.length→aY (l.getD i []) (l.getD j [])=true
theorem zd:Sorted kws:=by
 have h:∀ j,j<26→∀ i,i<j→aY (kws.getD i []) (kws.getD j [])=true:=by decide
 exact fun i j h1 h2=>h j h2 i h1
theorem Df (l:List (List UInt8)) (s:List UInt8) (i:Nat) (hl:Sorted l) (hlo:∀ j,j<i→aY (l.getD j []) s=true) (hhi:∀ j,i≤j→j<l.length→aY (l.getD j []) s=false) :
 l.contains s=(decide (i<l.length) && (l.getD i []==s)):=by
 rw [Bool.eq_iff_iff]
 simp only [List.contains_iff_mem,Bool.and_eq_true,decide_eq_true_eq,beq_iff_eq]
 constructor
 · intro hm
   obtain ⟨k,hk,rfl⟩:=List.getElem_of_mem hm
   have e:∀ d,l.getD k d=l[k]:=fun d=>by rw [List.getD_eq_getElem?_getD,List.getElem?_eq_getElem hk];rfl
   rcases Nat.lt_trichotomy k i with h|h|h
   · have:=hlo k h;rw [e,fM] at this;cases this
   · subst h;exact ⟨hk,e _⟩
   · have h1:=hl i k h hk
     rw [e] at h1
     have h2:=hhi i (Nat.le_refl _) oq
     rw [h1] at h2;cases h2
 · rintro ⟨h,rfl⟩
   rw [List.getD_eq_getElem?_getD,List.getElem?_eq_getElem h];exact List.getElem_mem h
theorem Ih {l:List (List UInt8)} {s:List UInt8} (hl:Sorted l) {m:Nat} (hm:m<l.length) (hc:aY (l.getD m []) s=true):∀ j,j<m+1→aY (l.getD j []) s=true:=by
 intro j hj
 rcases Nat.lt_or_ge j m with h|h
 · exact gK _ _ _ (hl j m h hm) hc
 · have:j=m:=by omega
   rw [this];exact hc
theorem HV {l:List (List UInt8)} {s:List UInt8} (hl:Sorted l) {m:Nat} (hc:¬ aY (l.getD m []) s=true):∀ j,m≤j→j<l.length→aY (l.getD j []) s=false:=by
 intro j h1 h2
 cases hq:aY (l.getD j []) s with
 | false=>rfl
 | true =>
  rcases Nat.lt_or_ge m j with h|h
  · exact absurd (gK _ _ _ (hl m j h h2) hq) hc
  · have:j=m:=by omega
    rw [this] at hq;exact absurd hq hc
theorem Av {α:Type} (d:α) (p:α→Bool):∀ (s:List α) (k:Nat),k≤s.length→(∀ i,i<k→p (s.getD i d)=true)→(k<s.length→p (s.getD k d)=false)→(s.takeWhile p).length=k
 | [],k,h,_,_=>by simp at h;simp [h]
 | c::s,0,_,_,h=>by
  have:=h zq
  simp at this;simp [List.takeWhile,this]
 | c::s,k+1,h,ha,hz=>by
  have h0:p c=true:=by simpa using ha 0 oq
  have ih:=Av d p s k (by simpa using h) (fun i hi=>by simpa using ha (i+1) oq) (fun hk=>by simpa using hz (by simpa using hk))
  simp [List.takeWhile,h0,ih]
theorem vl {l:List (List UInt8)} {s:List UInt8} {i j:Nat} {b:Bool} (hl:Sorted l) (hij:i≤j) (hj:j≤l.length) (hx:¬ ((i:Nat):Int)<((j:Nat):Int)) (hlo:∀ x,x<i→aY (l.getD x []) s=true) (hhi:∀ x,j≤x→x<l.length→aY (l.getD x []) s=false)
 (hb:b=(decide (i<l.length) && (l.getD i []==s))):((i:Nat):Int)=(((l.takeWhile (aY · s)).length:Nat):Int)∧b=l.contains s:=by
 have e:i=j:=by omega
 subst e
 refine ⟨?_,?_⟩
 · rw [Av [] (aY · s) l i hj hlo (fun h=>hhi i (Nat.le_refl _) h)]
 · rw [Df l s i hl hlo hhi,hb]
def Ij (l:List (List UInt8)) (s:List UInt8):Nat:=(l.takeWhile (aY · s)).length
noncomputable def JW:Code:=aE Tryz.f197
theorem tL (l:List (List UInt8)) (s:List UInt8) (hl:Sorted l) (hn:l.length<1000000):ay cx 197 [.imm (l.map aa.str),.str s] (.tup [.int .i64 ((Ij l s:Nat):Int),.bool (l.contains s)]):=by
 refine ap (cx:=cx) 54 0 [(ResultVar.tmp 4),(ResultVar.tmp 5)] Tryz.func197 rfl rfl rfl rfl rfl zq ?_
 show wpA cx 54 0 (at_ JW []) _ _ _
 refine qZ [(0,.imm (l.map aa.str)),(1,.str s)] [] ?_ ?_
 refine qU 2 [(0,.imm (l.map aa.str)),(1,.str s)] ?_ ?_
 refine qV 1 ?_ ?_
 refine qy (au (l:=l) (enc:=aa.str) kq bi) ?_ ?_ ?_
 refine qR 1 [(0,.imm (l.map aa.str)),(1,.str s),(6,nI l.length)] [] ?_ ?_
 refine qU 3 [(0,.imm (l.map aa.str)),(1,.str s),(6,nI l.length),(7,.int .i64 0),(8,nI l.length)] ?_ ?_
 refine ar ?_ ?_
 refine qB 0 ?_ ?_ ?_
 refine bR (σ:=(Nat×Nat)) (fun ⟨i,j⟩=>[(0,.imm (l.map aa.str)),(1,.str s),(6,.int .i64 ((l.length:Nat):Int)),(7,.int .i64 ((i:Nat):Int)),(8,.int .i64 ((j:Nat):Int))]) (fun ⟨i,j⟩=>[]) (fun ⟨i,j⟩=>(i≤j∧j≤l.length)∧(∀ x,x<i→aY (l.getD x []) s=true)∧(∀ x,j≤x→x<l.length→aY (l.getD x []) s=false)) (fun ⟨i,j⟩=>j - i) (0,l.length) kq (by exact ⟨⟨Nat.zero_le _,Nat.le_refl _⟩,fun x h=>absurd h (Nat.not_lt_zero _),fun x h1 h2=>absurd h2 (Nat.not_lt.2 h1)⟩) ⟨⟨kq,kq,kq,kq,kq,trivial⟩,by simp [aV,aa.bel],by simp,kq,by simp⟩ ?_
 rintro ⟨i,j⟩ ⟨⟨hij,hj⟩,hlo,hhi⟩
 refine qZ [(0,.imm (l.map aa.str)),(1,.str s),(6,nI l.length),(7,nI i),(8,nI j)] [] ?_ ?_
 refine ar ?_ ?_
 refine qU 3 [(0,.imm (l.map aa.str)),(1,.str s),(6,nI l.length),(7,nI i),(8,nI j),(15,.bool (decide (((i:Nat):Int)<((j:Nat):Int))))] ?_ ?_
 by_cases hb1:((i:Nat):Int)<((j:Nat):Int)
 refine qt (decide_eq_true hb1) ?_ ?_
 refine qK ?_ ?_
 refine qz [(0,.imm (l.map aa.str)),(1,.str s),(6,nI l.length),(7,nI i),(8,nI j)] ?_ ?_
 refine qB 1 ?_ ?_ ?_
 refine qV 2 ?_ ?_
 refine qy (aN (a:=((i:Nat):Int)) (b:=((j:Nat):Int)) kq oq oq) ?_ ?_ ?_
 refine qy (Ew (k:=.i64) (n:=(((i+j):Nat):Int)) kq ty3 GD (by simp [IntKind.wrap,IntKind.bits,IntKind.signed];omega)) ?_ ?_ ?_
 refine qy (IA (k:=.u64) (k':=.u64) (z:=1) (a:=(i+j)) (j:=1) kq rfl dq) ?_ ?_ ?_
 refine qy (Ew (k:=.u64) (n:=((((i+j) / 2 ^ 1):Nat):Int)) kq GD ty3 (by simp [IntKind.wrap,IntKind.bits,IntKind.signed];omega)) ?_ ?_ ?_
 refine qR 1 [(0,.imm (l.map aa.str)),(1,.str s),(6,nI l.length),(7,nI i),(8,nI j),(9,nI (((i+j) / 2 ^ 1)))] [] ?_ ?_
 refine qV 2 ?_ ?_
 refine qy (ax (k:=.i64) (l:=l) (enc:=aa.str) (i:=((((i+j) / 2 ^ 1):Nat):Int)) [] kq bi ty9 (fun _=>rfl) oq oq) ?_ ?_ ?_
 refine qr 2 ?_ ?_
 refine qc [.str (l.getD ((i+j) / 2 ^ 1) []),.str s] (Bu (l.getD ((i+j) / 2 ^ 1) []) s) ?_ ?_
 refine qN [(0,.imm (l.map aa.str)),(1,.str s),(6,nI l.length),(7,nI i),(8,nI j),(9,nI (((i+j) / 2 ^ 1))),(27,.bool (aY (l.getD ((i+j) / 2 ^ 1) []) s))] [] ?_ ?_
 by_cases hb2:(aY (l.getD ((i+j) / 2 ^ 1) []) s)=true
 refine qt (hb2) ?_ ?_
 refine qo ?_ ?_
 refine qr 1 ?_ ?_
 refine qy (aN (a:=((((i+j) / 2 ^ 1):Nat):Int)) (b:=1) kq oq oq) ?_ ?_ ?_
 refine qr 1 ?_ ?_
 refine qe ?_ ?_
 refine ak ?_
 refine ab ⟨((((i+j) / 2 ^ 1)+1),j),?_,?_,⟨⟨kq,kq,kq,kq,kq,trivial⟩,by simp [aV,aa.bel],by simp,kq,by simp⟩⟩
 · try dsimp only
   omega
 rotate_left
 iterate 7 kernel_rfl
 refine qf (Bool.eq_false_iff.2 hb2) ?_ ?_
 refine qo ?_ ?_
 refine qr 2 ?_ ?_
 refine qe ?_ ?_
 refine ak ?_
 refine ab ⟨(i,((i+j) / 2 ^ 1)),?_,?_,⟨⟨kq,kq,kq,kq,kq,trivial⟩,by simp [aV,aa.bel],by simp,kq,by simp⟩⟩
 · try dsimp only
   omega
 rotate_left
 iterate 25 kernel_rfl
 refine qf (decide_eq_false hb1) ?_ ?_
 refine bC 0 kq kq ?_
 refine af ?_
 refine af ?_
 refine aA ?_
 refine ab ?_
 refine qz [(0,.imm (l.map aa.str)),(1,.str s),(6,nI l.length),(7,nI i)] ?_ ?_
 refine qV 5 ?_ ?_
 by_cases hb3:((i:Nat):Int)<((l.length:Nat):Int)
 refine qm [34,35] (decide_eq_true hb3) ?_ ?_
 refine qr 2 ?_ ?_
 refine qy (ax (k:=.i64) (l:=l) (enc:=aa.str) (i:=((i:Nat):Int)) [] kq bi ty9 (fun _=>rfl) oq oq) ?_ ?_ ?_
 refine qr 4 ?_ ?_
 by_cases hb4:(l.getD i [])=s
 refine qm [41,42] (beq_iff_eq.2 hb4) ?_ ?_
 refine qX 13 ?_ ?_
 refine pK (n:=((i:Nat):Int)) (b:=true) (.inr rfl) kq ?_
 · refine vl hl hij hj aq hlo hhi ?_
   simp_all
   try omega
 iterate 2 kernel_rfl
 refine qm [41,42] (beq_eq_false_iff_ne.2 hb4) ?_ ?_
 refine qr 2 ?_ ?_
 refine qy (ax (k:=.i64) (l:=l) (enc:=aa.str) (i:=((i:Nat):Int)) [] kq bi ty9 (fun _=>rfl) oq oq) ?_ ?_ ?_
 refine qr 1 ?_ ?_
 refine qc [.str (l.getD i [])] (B8 (l.getD i [])) ?_ ?_
 refine qX 8 ?_ ?_
 refine pK (n:=((i:Nat):Int)) (b:=false) (.inr rfl) kq ?_
 · refine vl hl hij hj aq hlo hhi ?_
   simp_all
   try omega
 iterate 12 kernel_rfl
 refine qm [34,35] (decide_eq_false hb3) ?_ ?_
 refine qX 20 ?_ ?_
 refine pK (n:=((i:Nat):Int)) (b:=false) (.inr rfl) kq ?_
 · refine vl hl hij hj aq hlo hhi ?_
   simp_all
   try omega
 iterate 18 kernel_rfl
 all_goals
  try dsimp only
  first|exact ⟨⟨by omega,by omega⟩,Ih hl oq aq,hhi⟩|exact ⟨⟨by omega,by omega⟩,hlo,HV hl aq⟩
noncomputable def JM:Code:=aE Tryz.f171
theorem CC (s:List UInt8) :ay cx 171 [.str s] (.bool (FJ s)):=by
 refine ap (cx:=cx) 12 0 [(ResultVar.tmp 2)] Tryz.func171 rfl rfl rfl rfl rfl zq ?_
 show wpA cx 12 0 (at_ JM []) _ _ _
 refine qZ [(0,.str s)] [] ?_ ?_
 refine qU 1 [(0,.str s)] ?_ ?_
 refine qV 2 ?_ ?_
 refine qc [.full oP,.str s] (tL [[97,110,100],[97,115],[99,104,101,99,107],[100,101,108,101,116,101],[101,108,115,101],[102,97,108,115,101],[102,117,110],[105,102],[105,110],[105,110,115,101,114,116],[107,101,121],[108,101,116],[109,97,116,99,104],[110,111,116],[111,114],[112,114,111,99],[114,101,102],[115,101,116],[116,97,98,108,101],[116,104,101,110],[116,111],[116,114,117,101],[116,121,112,101],[117,112,100,97,116,101],[119,104,101,114,101],[119,105,116,104]] s (zd) (dq)) ?_ ?_
 refine qR 5 [(4,.bool ([[97,110,100],[97,115],[99,104,101,99,107],[100,101,108,101,116,101],[101,108,115,101],[102,97,108,115,101],[102,117,110],[105,102],[105,110],[105,110,115,101,114,116],[107,101,121],[108,101,116],[109,97,116,99,104],[110,111,116],[111,114],[112,114,111,99],[114,101,102],[115,101,116],[116,97,98,108,101],[116,104,101,110],[116,111],[116,114,117,101],[116,121,112,101],[117,112,100,97,116,101],[119,104,101,114,101],[119,105,116,104]].contains s))] [] ?_ ?_
 refine qV 2 ?_ ?_
 refine qT ?_ ?_
 refine aH (b:=([[97,110,100],[97,115],[99,104,101,99,107],[100,101,108,101,116,101],[101,108,115,101],[102,97,108,115,101],[102,117,110],[105,102],[105,110],[105,110,115,101,114,116],[107,101,121],[108,101,116],[109,97,116,99,104],[110,111,116],[111,114],[112,114,111,99],[114,101,102],[115,101,116],[116,97,98,108,101],[116,104,101,110],[116,111],[116,114,117,101],[116,121,112,101],[117,112,100,97,116,101],[119,104,101,114,101],[119,105,116,104]].contains s)) (.inr rfl) kq ?_
 · rfl
 iterate 7 kernel_rfl
noncomputable def J1:Code:=aE Tryz.f175
theorem BJ {p:Prop} (h:p:=by simp only [List.length_drop,List.length_take] at *;omega):p:=h
theorem wq (s:List UInt8) (hs0:0<s.length) (hs:s.length<1000000000):ay cx 175 [.str s] (.int .i64 ((kE s:Nat):Int)):=by
 refine ap (cx:=cx) 18 0 [(ResultVar.tmp 2)] Tryz.func175 rfl rfl rfl rfl rfl zq ?_
 show wpA cx 18 0 (at_ J1 []) _ _ _
 refine qZ [(0,.str s)] [] ?_ ?_
 refine qU 1 [(0,.str s)] ?_ ?_
 refine qV 1 ?_ ?_
 refine qy (tc (lo:=(some (.int .i64 1))) (s:=s) (x:=1) kq ty9 kq oq oq) ?_ ?_ ?_
 refine qc [.str (s.drop 1),.str [34,10]] (r8 (s.drop 1) BJ) ?_ ?_
 have hv1:=ET (s.drop 1)
 have hv2:=zZ (s.drop 1)
 refine qR 1 [(0,.str s),(3,.int .i64 (fh (s.drop 1)))] [] ?_ ?_
 refine ar ?_ ?_
 refine qV 3 ?_ ?_
 by_cases hb3:(fh (s.drop 1))<0
 refine qm [8,9] (decide_eq_true hb3) ?_ ?_
 refine qR 6 [(3,.int .i64 (fh (s.drop 1))),(15,.bool true)] [] ?_ ?_
 refine cp kq kq ?_
 refine qV 1 ?_ ?_
 refine qT ?_ ?_
 apply aR
 refine b8 (n:=0) (.inr rfl) kq ?_
 rotate_left
 iterate 4 kernel_rfl
 refine qm [8,9] (decide_eq_false hb3) ?_ ?_
 refine qr 2 ?_ ?_
 refine qy (aN (a:=1) (b:=(fh (s.drop 1))) kq oq BJ) ?_ ?_ ?_
 refine qy (lC (k:=.i64) (s:=s) (i:=(1+(fh (s.drop 1)))) kq ty9 oq BJ) ?_ ?_ ?_
 refine qR 2 [(3,.int .i64 (fh (s.drop 1))),(15,.bool (((((s.getD (((1+(fh (s.drop 1)))).toNat) 0):UInt8).toNat:Nat):Int)==10))] [] ?_ ?_
 by_cases hb4:(s.getD (((1+(fh (s.drop 1)))).toNat) 0)=(10:UInt8)
 refine qt (x:=(((((s.getD (((1+(fh (s.drop 1)))).toNat) 0):UInt8).toNat:Nat):Int)==10)) (fD (a:=(s.getD (((1+(fh (s.drop 1)))).toNat) 0)) (b:=(10:UInt8)) kq kq hb4) ?_ ?_
 refine qV 1 ?_ ?_
 refine qT ?_ ?_
 apply aR
 refine b8 (n:=0) (.inr rfl) kq ?_
 rotate_left
 iterate 3 kernel_rfl
 refine qf (x:=(((((s.getD (((1+(fh (s.drop 1)))).toNat) 0):UInt8).toNat:Nat):Int)==10)) (fH (a:=(s.getD (((1+(fh (s.drop 1)))).toNat) 0)) (b:=(10:UInt8)) kq kq hb4) ?_ ?_
 refine qK ?_ ?_
 refine qz [(3,.int .i64 (fh (s.drop 1)))] ?_ ?_
 refine qV 1 ?_ ?_
 refine qy (aN (a:=(fh (s.drop 1))) (b:=2) kq oq BJ) ?_ ?_ ?_
 refine qX 1 ?_ ?_
 refine b8 (n:=((fh (s.drop 1))+2)) (.inr rfl) kq ?_
 rotate_left
 iterate 23 kernel_rfl
 all_goals
  simp only [kE, *,reduceIte]
  try omega
theorem zh (s:List UInt8) (hs:0<s.length):kE s≤s.length:=by
 have h1:=zZ (s.drop 1)
 simp only [List.length_drop] at h1
 unfold kE
 split
 · omega
 · split <;> omega
theorem Cv (s:List UInt8):nE s≤s.length:=by
 unfold nE
 split
 · rename_i x hx
   have h1:=List.find?_some hx
   simp only [aZ,beq_iff_eq] at h1
   have:=congrArg List.length h1
   simp at this;omega
 · omega
theorem ug (s:List UInt8) (hs:0<s.length):(fE s).2≤s.length:=by
 unfold fE
 have:=zh s hs
 have:=Cv s
 have:=jh lA s
 have:=jh mX s
 have:=jh gX s
 have:=jh tN s
 have:=jh lU s
 repeat' split
 all_goals assumption
theorem DI (s:List UInt8) (n:Int) (k:Nat) (h:fE s=(n,k)):n=(fE s).1∧((k:Nat):Int)=(((fE s).2:Nat):Int):=by rw [h];exact ⟨rfl,rfl⟩
noncomputable def Jx:Code:=aE Tryz.f144
theorem sV (s:List UInt8) (hs0:0<s.length) (hs:s.length<1000000000):ay cx 144 [.str s] (.tup [.int .i64 ((fE s).1),.int .i64 (((fE s).2:Nat):Int)]):=by
 refine ap (cx:=cx) 46 0 [(ResultVar.tmp 2),(ResultVar.tmp 3)] Tryz.func144 rfl rfl rfl rfl rfl zq ?_
 show wpA cx 46 0 (at_ Jx []) _ _ _
 refine qZ [(0,.str s)] [] ?_ ?_
 refine qU 2 [(0,.str s)] ?_ ?_
 refine qV 1 ?_ ?_
 refine qy (lC (k:=.i64) (s:=s) (i:=0) kq ty9 oq oq) ?_ ?_ ?_
 refine qR 1 [(0,.str s),(4,.int .u8 ((((s.getD 0 0):UInt8).toNat:Nat):Int))] [] ?_ ?_
 refine ar ?_ ?_
 refine qB 0 ?_ ?_ ?_
 refine qV 1 ?_ ?_
 refine qc [.int .u8 ((((s.getD 0 0):UInt8).toNat:Nat):Int)] (p6 (s.getD 0 0)) ?_ ?_
 refine qR 1 [(0,.str s),(4,.int .u8 ((((s.getD 0 0):UInt8).toNat:Nat):Int)),(8,.bool (lA (s.getD 0 0)))] [] ?_ ?_
 by_cases hb1:(lA (s.getD 0 0))=true
 refine qt (hb1) ?_ ?_
 refine qV 1 ?_ ?_
 refine qc [.str s,.fn (.func 168) [] []] (iI s 168 lA (p6) oq) ?_ ?_
 have hv2:=jh lA s
 refine qX 2 ?_ ?_
 apply iR
 apply aR
 refine e6 (n:=0) (m:=(((s.takeWhile lA).length:Nat):Int)) (.inr rfl) kq ?_
 rotate_left
 iterate 4 kernel_rfl
 refine qf (Bool.eq_false_iff.2 hb1) ?_ ?_
 refine qU 3 [(0,.str s),(4,.int .u8 ((((s.getD 0 0):UInt8).toNat:Nat):Int)),(13,.bool (((((s.getD 0 0):UInt8).toNat:Nat):Int)==35))] ?_ ?_
 by_cases hb3:(s.getD 0 0)=(35:UInt8)
 refine qt (x:=(((((s.getD 0 0):UInt8).toNat:Nat):Int)==35)) (fD (a:=(s.getD 0 0)) (b:=(35:UInt8)) kq kq hb3) ?_ ?_
 refine qV 1 ?_ ?_
 refine qc [.str s,.fn (.func 146) [] []] (iI s 146 mX (tG) oq) ?_ ?_
 have hv4:=jh mX s
 refine qX 2 ?_ ?_
 apply iR
 apply aR
 refine e6 (n:=1) (m:=(((s.takeWhile mX).length:Nat):Int)) (.inr rfl) kq ?_
 rotate_left
 iterate 4 kernel_rfl
 refine qf (x:=(((((s.getD 0 0):UInt8).toNat:Nat):Int)==35)) (fH (a:=(s.getD 0 0)) (b:=(35:UInt8)) kq kq hb3) ?_ ?_
 refine qV 1 ?_ ?_
 refine qc [.int .u8 ((((s.getD 0 0):UInt8).toNat:Nat):Int)] (lu (s.getD 0 0)) ?_ ?_
 refine qR 1 [(0,.str s),(4,.int .u8 ((((s.getD 0 0):UInt8).toNat:Nat):Int)),(18,.bool (uH (s.getD 0 0)))] [] ?_ ?_
 by_cases hb5:(uH (s.getD 0 0))=true
 refine qt (hb5) ?_ ?_
 refine qV 1 ?_ ?_
 refine qc [.str s,.fn (.func 170) [] []] (iI s 170 gX (Be) oq) ?_ ?_
 have hv6:=jh gX s
 refine qR 1 [(0,.str s),(5,nI ((s.takeWhile gX).length))] [] ?_ ?_
 refine ar ?_ ?_
 refine qV 2 ?_ ?_
 refine qy (Af (hi:=(some (.int .i64 (((s.takeWhile gX).length:Nat):Int)))) (s:=s) (y:=(((s.takeWhile gX).length:Nat):Int)) kq ty9 kq oq oq) ?_ ?_ ?_
 refine qc [.str (s.take (s.takeWhile gX).length)] (CC (s.take (s.takeWhile gX).length)) ?_ ?_
 refine qN [(5,nI ((s.takeWhile gX).length)),(26,.bool (FJ (s.take (s.takeWhile gX).length)))] [] ?_ ?_
 by_cases hb7:(FJ (s.take (s.takeWhile gX).length))=true
 refine qt (hb7) ?_ ?_
 refine qV 3 ?_ ?_
 refine qT ?_ ?_
 apply aR
 apply iR
 apply aR
 refine e6 (n:=7) (m:=(((s.takeWhile gX).length:Nat):Int)) (.inr rfl) kq ?_
 rotate_left
 iterate 3 kernel_rfl
 refine qf (Bool.eq_false_iff.2 hb7) ?_ ?_
 refine qK ?_ ?_
 refine qz [(5,nI ((s.takeWhile gX).length))] ?_ ?_
 refine qV 3 ?_ ?_
 refine qT ?_ ?_
 apply iR
 apply aR
 refine e6 (n:=2) (m:=(((s.takeWhile gX).length:Nat):Int)) (.inr rfl) kq ?_
 rotate_left
 iterate 15 kernel_rfl
 refine qf (Bool.eq_false_iff.2 hb5) ?_ ?_
 refine qV 1 ?_ ?_
 refine qc [.int .u8 ((((s.getD 0 0):UInt8).toNat:Nat):Int)] (pi (s.getD 0 0)) ?_ ?_
 refine qR 1 [(0,.str s),(4,.int .u8 ((((s.getD 0 0):UInt8).toNat:Nat):Int)),(29,.bool (zF (s.getD 0 0)))] [] ?_ ?_
 by_cases hb8:(zF (s.getD 0 0))=true
 refine qt (hb8) ?_ ?_
 refine qV 1 ?_ ?_
 refine qc [.str s,.fn (.func 173) [] []] (iI s 173 tN (Bh) oq) ?_ ?_
 have hv9:=jh tN s
 refine qX 2 ?_ ?_
 apply iR
 apply aR
 refine e6 (n:=3) (m:=(((s.takeWhile tN).length:Nat):Int)) (.inr rfl) kq ?_
 rotate_left
 iterate 4 kernel_rfl
 refine qf (Bool.eq_false_iff.2 hb8) ?_ ?_
 refine qV 1 ?_ ?_
 refine qc [.int .u8 ((((s.getD 0 0):UInt8).toNat:Nat):Int)] (i3 (s.getD 0 0)) ?_ ?_
 refine qR 1 [(0,.str s),(4,.int .u8 ((((s.getD 0 0):UInt8).toNat:Nat):Int)),(34,.bool (lU (s.getD 0 0)))] [] ?_ ?_
 by_cases hb10:(lU (s.getD 0 0))=true
 refine qt (hb10) ?_ ?_
 refine qV 1 ?_ ?_
 refine qc [.str s,.fn (.func 174) [] []] (iI s 174 lU (i3) oq) ?_ ?_
 have hv11:=jh lU s
 refine qX 2 ?_ ?_
 apply iR
 apply aR
 refine e6 (n:=4) (m:=(((s.takeWhile lU).length:Nat):Int)) (.inr rfl) kq ?_
 rotate_left
 iterate 4 kernel_rfl
 refine qf (Bool.eq_false_iff.2 hb10) ?_ ?_
 refine qU 3 [(0,.str s),(39,.bool (((((s.getD 0 0):UInt8).toNat:Nat):Int)==34))] ?_ ?_
 by_cases hb12:(s.getD 0 0)=(34:UInt8)
 refine qt (x:=(((((s.getD 0 0):UInt8).toNat:Nat):Int)==34)) (fD (a:=(s.getD 0 0)) (b:=(34:UInt8)) kq kq hb12) ?_ ?_
 refine qV 1 ?_ ?_
 refine qc [.str s] (wq s oq oq) ?_ ?_
 refine qX 2 ?_ ?_
 apply iR
 apply aR
 refine e6 (n:=5) (m:=((kE s:Nat):Int)) (.inr rfl) kq ?_
 rotate_left
 iterate 4 kernel_rfl
 refine qf (x:=(((((s.getD 0 0):UInt8).toNat:Nat):Int)==34)) (fH (a:=(s.getD 0 0)) (b:=(34:UInt8)) kq kq hb12) ?_ ?_
 refine qk ?_ ?_
 refine ak ?_
 refine ab ?_
 refine qz [(0,.str s)] ?_ ?_
 refine qV 1 ?_ ?_
 refine qc [.str s] (xt s) ?_ ?_
 refine qX 2 ?_ ?_
 refine e6 (n:=6) (m:=((nE s:Nat):Int)) (.inr rfl) kq ?_
 rotate_left
 iterate 34 kernel_rfl
 all_goals
  refine DI s _ _ ?_
  unfold fE
  repeat (first|rw [if_pos aq]|rw [if_neg aq])
theorem DT (s:List UInt8) (n:Int) (k:Nat) (h:next s=(n,k)):n=(next s).1∧((k:Nat):Int)=(((next s).2:Nat):Int):=by rw [h];exact ⟨rfl,rfl⟩
theorem xT (s:List UInt8):∀ f n,n≤s.length→j8 s f n≤s.length
 | 0,n,h=>h
 | f+1,n,h=>by
  unfold j8
  split
  · rename_i hc;exact xT s f (n+1) hc.1
  · exact h
theorem FY (s:List UInt8) (hs:0<s.length):(next s).2≤s.length:=by
 unfold next
 have:=ug s hs
 have:=jh mX s
 have:=xT s (s.length - 1) 1 hs
 repeat' split
 all_goals assumption
noncomputable def JK:Code:=aE Tryz.f133
theorem Cn (s:List UInt8) (hs0:0<s.length) (hs:s.length<1000000000):ay cx 133 [.str s] (.tup [.int .i64 ((next s).1),.int .i64 (((next s).2:Nat):Int)]):=by
 refine ap (cx:=cx) 44 0 [(ResultVar.tmp 2),(ResultVar.tmp 3)] Tryz.func133 rfl rfl rfl rfl rfl zq ?_
 show wpA cx 44 0 (at_ JK []) _ _ _
 refine qZ [(0,.str s)] [] ?_ ?_
 refine qU 2 [(0,.str s)] ?_ ?_
 refine qV 1 ?_ ?_
 refine qc [.str s] (sV s oq oq) ?_ ?_
 have hv1:=ug s oq
 refine qR 5 [(0,.str s),(4,.int .i64 ((fE s).1)),(5,nI ((fE s).2))] [] ?_ ?_
 refine ar ?_ ?_
 refine qU 2 [(0,.str s),(4,.int .i64 ((fE s).1)),(5,nI ((fE s).2)),(14,.bool (decide ((((fE s).2:Nat):Int) > 0)))] ?_ ?_
 by_cases hb2:(((fE s).2:Nat):Int) > 0
 refine qt (decide_eq_true hb2) ?_ ?_
 refine qV 4 ?_ ?_
 refine qT ?_ ?_
 apply aR
 refine e6 (n:=((fE s).1)) (m:=(((fE s).2:Nat):Int)) (.inr rfl) kq ?_
 rotate_left
 iterate 3 kernel_rfl
 refine qf (decide_eq_false hb2) ?_ ?_
 refine qK ?_ ?_
 refine qz [(0,.str s)] ?_ ?_
 refine ar ?_ ?_
 refine qV 1 ?_ ?_
 refine qy (lC (k:=.i64) (s:=s) (i:=0) kq ty9 oq oq) ?_ ?_ ?_
 refine qR 1 [(0,.str s),(19,.bool (((((s.getD 0 0):UInt8).toNat:Nat):Int)==34))] [] ?_ ?_
 by_cases hb3:(s.getD 0 0)=(34:UInt8)
 refine qt (x:=(((((s.getD 0 0):UInt8).toNat:Nat):Int)==34)) (fD (a:=(s.getD 0 0)) (b:=(34:UInt8)) kq kq hb3) ?_ ?_
 refine qV 1 ?_ ?_
 refine qc [.str s,.fn (.func 146) [] []] (iI s 146 mX (tG) oq) ?_ ?_
 have hv4:=jh mX s
 refine qX 2 ?_ ?_
 apply aR
 refine e6 (n:=8) (m:=(((s.takeWhile mX).length:Nat):Int)) (.inr rfl) kq ?_
 rotate_left
 iterate 4 kernel_rfl
 refine qf (x:=(((((s.getD 0 0):UInt8).toNat:Nat):Int)==34)) (fH (a:=(s.getD 0 0)) (b:=(34:UInt8)) kq kq hb3) ?_ ?_
 refine qK ?_ ?_
 refine qz [(0,.str s)] ?_ ?_
 refine ar ?_ ?_
 refine qU 1 [(0,.str s),(5,.int .i64 1)] ?_ ?_
 refine qB 0 ?_ ?_ ?_
 refine bR (σ:=Nat) (fun k=>[(0,.str s),(5,.int .i64 ((k:Nat):Int))]) (fun k=>[]) (fun k=>(1≤k∧k≤s.length)∧j8 s (s.length - 1) 1=j8 s (s.length - k) k) (fun k=>s.length - k) 1 kq (by exact ⟨⟨by omega,by omega⟩,rfl⟩) ⟨⟨kq,kq,trivial⟩,by simp [aV,aa.bel],by simp,kq,by simp⟩ ?_
 rintro k ⟨⟨hk1,hk2⟩,hk⟩
 refine ar ?_ ?_
 refine qV 5 ?_ ?_
 by_cases hb5:((k:Nat):Int)<((s.length:Nat):Int)
 refine qm [25,26] (decide_eq_true hb5) ?_ ?_
 refine qr 2 ?_ ?_
 refine qy (lC (k:=.i64) (s:=s) (i:=((k:Nat):Int)) kq ty9 oq oq) ?_ ?_ ?_
 refine qR 2 [(0,.str s),(5,nI k),(27,.str s),(28,nI k),(29,.int .u8 ((((s.getD k 0):UInt8).toNat:Nat):Int)),(30,.bool (((((s.getD k 0):UInt8).toNat:Nat):Int) != 34)),(31,.bool (((((s.getD k 0):UInt8).toNat:Nat):Int) != 34))] [] ?_ ?_
 by_cases hb6:(s.getD k 0)=(34:UInt8)
 refine qf (x:=(((((s.getD k 0):UInt8).toNat:Nat):Int) != 34)) (AL (a:=(s.getD k 0)) (b:=(34:UInt8)) kq kq hb6) ?_ ?_
 refine bC 0 kq kq ?_
 refine af ?_
 refine af ?_
 refine aA ?_
 refine ab ?_
 refine qz [(5,nI k)] ?_ ?_
 refine qV 3 ?_ ?_
 refine qT ?_ ?_
 refine e6 (n:=8) (m:=((k:Nat):Int)) (.inr rfl) kq ?_
 rotate_left
 iterate 4 kernel_rfl
 refine qt (x:=(((((s.getD k 0):UInt8).toNat:Nat):Int) != 34)) (AX (a:=(s.getD k 0)) (b:=(34:UInt8)) kq kq hb6) ?_ ?_
 refine qK ?_ ?_
 refine qz [(0,.str s),(5,nI k),(27,.str s),(28,nI k),(29,.int .u8 ((((s.getD k 0):UInt8).toNat:Nat):Int)),(30,.bool (((((s.getD k 0):UInt8).toNat:Nat):Int) != 34))] ?_ ?_
 refine ar ?_ ?_
 refine qB 1 ?_ ?_ ?_
 refine qV 2 ?_ ?_
 refine qy (tc (lo:=(some (.int .i64 ((k:Nat):Int)))) (s:=s) (x:=((k:Nat):Int)) kq ty9 kq oq oq) ?_ ?_ ?_
 refine qc [.str (s.drop k)] (sV (s.drop k) BJ BJ) ?_ ?_
 have hv7:=ug (s.drop k) (by simp only [List.length_drop];omega)
 refine qR 5 [(0,.str s),(5,nI k),(7,nI ((fE (s.drop k)).2)),(27,.str s),(28,nI k),(29,.int .u8 ((((s.getD k 0):UInt8).toNat:Nat):Int)),(30,.bool (((((s.getD k 0):UInt8).toNat:Nat):Int) != 34))] [] ?_ ?_
 refine qU 2 [(0,.str s),(5,nI k),(27,.str s),(28,nI k),(29,.int .u8 ((((s.getD k 0):UInt8).toNat:Nat):Int)),(30,.bool (((((s.getD k 0):UInt8).toNat:Nat):Int) != 34)),(42,.bool (decide ((((fE (s.drop k)).2:Nat):Int) > 0)))] ?_ ?_
 by_cases hb8:(((fE (s.drop k)).2:Nat):Int) > 0
 refine qt (decide_eq_true hb8) ?_ ?_
 refine bC 0 kq kq ?_
 refine sX dq ?_
 refine af ?_
 refine af ?_
 refine aA ?_
 refine ab ?_
 refine qz [(5,nI k)] ?_ ?_
 refine qV 3 ?_ ?_
 refine qT ?_ ?_
 refine e6 (n:=8) (m:=((k:Nat):Int)) (.inr rfl) kq ?_
 rotate_left
 iterate 4 kernel_rfl
 refine qf (decide_eq_false hb8) ?_ ?_
 refine qk ?_ ?_
 refine ak ?_
 refine ab ?_
 refine qz [(0,.str s),(5,nI k),(27,.str s),(28,nI k),(29,.int .u8 ((((s.getD k 0):UInt8).toNat:Nat):Int)),(30,.bool (((((s.getD k 0):UInt8).toNat:Nat):Int) != 34))] ?_ ?_
 refine qo ?_ ?_
 refine qr 1 ?_ ?_
 refine qy (aN (a:=((k:Nat):Int)) (b:=1) kq oq oq) ?_ ?_ ?_
 refine qr 1 ?_ ?_
 refine qe ?_ ?_
 refine ab ⟨k+1,?_,?_,⟨⟨kq,kq,trivial⟩,by simp [aV,aa.bel],by simp,kq,by simp⟩⟩
 · omega
 · refine ⟨⟨by omega,by omega⟩,?_⟩
   rw [hk];exact zg oq aq oq
 iterate 26 kernel_rfl
 refine qm [25,26] (decide_eq_false hb5) ?_ ?_
 refine qR 5 [(0,.str s),(5,nI k),(27,.tup []),(28,.tup []),(29,.tup []),(30,.tup []),(31,.bool false)] [] ?_ ?_
 refine dY kq kq ?_
 refine bC 0 kq kq ?_
 refine af ?_
 refine af ?_
 refine aA ?_
 refine ab ?_
 refine qz [(5,nI k)] ?_ ?_
 refine qV 3 ?_ ?_
 refine qT ?_ ?_
 refine e6 (n:=8) (m:=((k:Nat):Int)) (.inr rfl) kq ?_
 rotate_left
 iterate 29 kernel_rfl
 all_goals
  refine DT s _ _ ?_
  first|(simp only [next, *,reduceIte];done)|(rw [next,if_pos oq];done)|(rw [next,if_neg oq,if_pos aq];done)|(rw [next,if_neg oq,if_neg aq,hk,zm];rintro ⟨q1,q2,q3⟩;first|omega|contradiction)
noncomputable def JX:Code:=aE Tryz.f120
theorem ol (s:List UInt8) (hs:s.length<1000000000):ay cx 120 [.str s] (.tup [.int .i64 ((aW s).1),.bool ((aW s).2)]):=by
 refine ap (cx:=cx) 18 0 [(ResultVar.tmp 2),(ResultVar.tmp 3)] Tryz.func120 rfl rfl rfl rfl rfl zq ?_
 show wpA cx 18 0 (at_ JX []) _ _ _
 refine qZ [(0,.str s)] [] ?_ ?_
 refine qU 2 [(0,.str s)] ?_ ?_
 refine ar ?_ ?_
 refine qU 2 [(0,.str s),(7,.bool (s==[]))] ?_ ?_
 by_cases hb1:s=[]
 refine qt (beq_iff_eq.2 hb1) ?_ ?_
 refine qV 2 ?_ ?_
 refine qT ?_ ?_
 apply aR
 refine pK (n:=0) (b:=false) (.inr rfl) kq ?_
 rotate_left
 iterate 3 kernel_rfl
 refine qf (beq_eq_false_iff_ne.2 hb1) ?_ ?_
 refine qK ?_ ?_
 refine qz [(0,.str s)] ?_ ?_
 refine qV 1 ?_ ?_
 refine qc [.str s] (Cn s (List.length_pos_iff.2 aq) oq) ?_ ?_
 have hv2:=FY s (List.length_pos_iff.2 aq)
 refine qR 5 [(0,.str s),(4,.int .i64 ((next s).1)),(5,nI ((next s).2))] [] ?_ ?_
 refine qV 7 ?_ ?_
 refine qT ?_ ?_
 refine pK (n:=((next s).1)) (b:=((((next s).2:Nat):Int)==((s.length:Nat):Int))) (.inr rfl) kq ?_
 rotate_left
 iterate 12 kernel_rfl
 all_goals
  simp only [aW, *,reduceIte]
  first|exact ⟨rfl,rfl⟩|exact ⟨trivial,trivial⟩|(refine ⟨trivial,?_⟩;rw [Bool.eq_iff_iff];simp;try omega)
noncomputable def c97:Code:=aE Tryz.f97
theorem yr (s:List UInt8) (hs:s.length<1000000000):ay cx 97 [.agg [.int .i64 2,.str s,.int .i64 0]] (.bool (cu 2 s)):=by
 refine ap (cx:=cx) 56 0 [(ResultVar.tmp 2)] Tryz.func97 rfl rfl rfl rfl rfl zq ?_
 show wpA cx 56 0 (at_ c97 []) _ _ _
 refine qZ [(0,.agg [.int .i64 2,.str s,.int .i64 0])] [] ?_ ?_
 refine qW 2 [(1,.ptr 0 0)] [.box [.int .i64 2,.str s,.int .i64 0]] ?_ ?_
 refine qV 2 ?_ ?_
 refine qc [.str s] (ol s oq) ?_ ?_
 refine qR 5 [(1,.ptr 0 0),(3,.int .i64 ((aW s).1)),(4,.bool ((aW s).2))] [.box [.int .i64 2,.str s,.int .i64 0]] ?_ ?_
 refine ar ?_ ?_
 refine qV 3 ?_ ?_
 by_cases hb1:((aW s).2)=true
 refine qm [14,15] (x:=(!((aW s).2))) (congrArg not (hb1)) ?_ ?_
 refine qR 5 [(1,.ptr 0 0),(3,.int .i64 ((aW s).1)),(20,.bool (((aW s).1) != 2))] [.box [.int .i64 2,.str s,.int .i64 0]] ?_ ?_
 by_cases hb2:((aW s).1)=2
 refine qf (x:=(((aW s).1) != 2)) (bne_eq_false_iff_eq.2 hb2) ?_ ?_
 refine qK ?_ ?_
 refine qz [(1,.ptr 0 0),(3,.int .i64 ((aW s).1))] ?_ ?_
 refine ar ?_ ?_
 refine qU 1 [(1,.ptr 0 0),(3,.int .i64 ((aW s).1)),(21,.int .i64 ((aW s).1))] ?_ ?_
 refine qB 0 ?_ ?_ ?_
 refine ar ?_ ?_
 refine qU 2 [(1,.ptr 0 0),(3,.int .i64 ((aW s).1)),(21,.int .i64 ((aW s).1)),(22,.bool (((aW s).1)==2))] ?_ ?_
 refine qt (beq_iff_eq.2 hb2) ?_ ?_
 refine qK ?_ ?_
 refine qz [(1,.ptr 0 0),(3,.int .i64 ((aW s).1)),(21,.int .i64 ((aW s).1)),(22,.bool (((aW s).1)==2))] ?_ ?_
 refine qt (beq_iff_eq.2 hb2) ?_ ?_
 refine qV 5 ?_ ?_
 refine qT ?_ ?_
 apply iR
 apply aR
 refine aH (b:=(decide (((s.length:Nat):Int)≤16))) (.inr rfl) kq ?_
 by_cases hb5:((s.length:Nat):Int)≤16
 refine Eq.trans (decide_eq_true hb5) ?_
 · simp [cu, *]
   try omega
 refine Eq.trans (decide_eq_false hb5) ?_
 · simp [cu, *]
   try omega
 iterate 15 kernel_rfl
 refine qt (x:=(((aW s).1) != 2)) (bne_iff_ne.2 hb2) ?_ ?_
 refine qV 1 ?_ ?_
 refine qT ?_ ?_
 apply aR
 refine aH (b:=false) (.inr rfl) kq ?_
 · simp [cu, *]
   try omega
 iterate 5 kernel_rfl
 refine qm [14,15] (x:=(!((aW s).2))) (congrArg not (Bool.eq_false_iff.2 hb1)) ?_ ?_
 refine qR 5 [(1,.ptr 0 0),(3,.int .i64 ((aW s).1)),(20,.bool true)] [.box [.int .i64 2,.str s,.int .i64 0]] ?_ ?_
 refine cp kq kq ?_
 refine qV 1 ?_ ?_
 refine qT ?_ ?_
 apply aR
 refine aH (b:=false) (.inr rfl) kq ?_
 · simp [cu, *]
   try omega
 iterate 11 kernel_rfl
theorem p8 (s:List UInt8) (hs:s.length<1000000000):ay cx 97 [.agg [.int .i64 3,.str s,.int .i64 0]] (.bool (cu 3 s)):=by
 refine ap (cx:=cx) 56 0 [(ResultVar.tmp 2)] Tryz.func97 rfl rfl rfl rfl rfl zq ?_
 show wpA cx 56 0 (at_ c97 []) _ _ _
 refine qZ [(0,.agg [.int .i64 3,.str s,.int .i64 0])] [] ?_ ?_
 refine qW 2 [(1,.ptr 0 0)] [.box [.int .i64 3,.str s,.int .i64 0]] ?_ ?_
 refine qV 2 ?_ ?_
 refine qc [.str s] (ol s oq) ?_ ?_
 refine qR 5 [(1,.ptr 0 0),(3,.int .i64 ((aW s).1)),(4,.bool ((aW s).2))] [.box [.int .i64 3,.str s,.int .i64 0]] ?_ ?_
 refine ar ?_ ?_
 refine qV 3 ?_ ?_
 by_cases hb1:((aW s).2)=true
 refine qm [14,15] (x:=(!((aW s).2))) (congrArg not (hb1)) ?_ ?_
 refine qR 5 [(1,.ptr 0 0),(3,.int .i64 ((aW s).1)),(20,.bool (((aW s).1) != 3))] [.box [.int .i64 3,.str s,.int .i64 0]] ?_ ?_
 by_cases hb2:((aW s).1)=3
 refine qf (x:=(((aW s).1) != 3)) (bne_eq_false_iff_eq.2 hb2) ?_ ?_
 refine qK ?_ ?_
 refine qz [(1,.ptr 0 0),(3,.int .i64 ((aW s).1))] ?_ ?_
 refine ar ?_ ?_
 refine qU 1 [(1,.ptr 0 0),(3,.int .i64 ((aW s).1)),(21,.int .i64 ((aW s).1))] ?_ ?_
 refine qB 0 ?_ ?_ ?_
 refine ar ?_ ?_
 refine qU 2 [(1,.ptr 0 0),(3,.int .i64 ((aW s).1)),(21,.int .i64 ((aW s).1)),(22,.bool (((aW s).1)==2))] ?_ ?_
 by_cases hb3:((aW s).1)=2
 refine qt (beq_iff_eq.2 hb3) ?_ ?_
 refine qK ?_ ?_
 refine qz [(1,.ptr 0 0),(3,.int .i64 ((aW s).1)),(21,.int .i64 ((aW s).1)),(22,.bool (((aW s).1)==2))] ?_ ?_
 refine qt (beq_iff_eq.2 hb3) ?_ ?_
 refine qV 5 ?_ ?_
 refine qT ?_ ?_
 apply iR
 apply aR
 refine aH (b:=(decide (((s.length:Nat):Int)≤16))) (.inr rfl) kq ?_
 by_cases hb5:((s.length:Nat):Int)≤16
 refine Eq.trans (decide_eq_true hb5) ?_
 rotate_left
 refine Eq.trans (decide_eq_false hb5) ?_
 rotate_left
 iterate 6 kernel_rfl
 refine qf (beq_eq_false_iff_ne.2 hb3) ?_ ?_
 refine qo ?_ ?_
 refine qR 2 [(1,.ptr 0 0),(3,.int .i64 ((aW s).1)),(21,.int .i64 ((aW s).1)),(22,.bool (((aW s).1)==3))] [.box [.int .i64 3,.str s,.int .i64 0]] ?_ ?_
 refine qt (beq_iff_eq.2 hb2) ?_ ?_
 refine qV 5 ?_ ?_
 refine qT ?_ ?_
 apply iR
 apply aR
 refine aH (b:=(decide (((s.length:Nat):Int)≤16))) (.inr rfl) kq ?_
 by_cases hb7:((s.length:Nat):Int)≤16
 refine Eq.trans (decide_eq_true hb7) ?_
 rotate_left
 refine Eq.trans (decide_eq_false hb7) ?_
 rotate_left
 iterate 15 kernel_rfl
 refine qt (x:=(((aW s).1) != 3)) (bne_iff_ne.2 hb2) ?_ ?_
 refine qV 1 ?_ ?_
 refine qT ?_ ?_
 apply aR
 refine aH (b:=false) (.inr rfl) kq ?_
 rotate_left
 iterate 5 kernel_rfl
 refine qm [14,15] (x:=(!((aW s).2))) (congrArg not (Bool.eq_false_iff.2 hb1)) ?_ ?_
 refine qR 5 [(1,.ptr 0 0),(3,.int .i64 ((aW s).1)),(20,.bool true)] [.box [.int .i64 3,.str s,.int .i64 0]] ?_ ?_
 refine cp kq kq ?_
 refine qV 1 ?_ ?_
 refine qT ?_ ?_
 apply aR
 refine aH (b:=false) (.inr rfl) kq ?_
 rotate_left
 iterate 11 kernel_rfl
 all_goals
  simp [cu, *]
  try omega
structure Tok where
 kind:Int
 text:List UInt8
 pos:Int
def Tok.zero:Tok:=⟨0,[],0⟩
def Tok.v (t:Tok):aa:=.agg [.int .i64 t.kind,.str t.text,.int .i64 t.pos]
@[simp] theorem HR (h:ac) (l:List Tok):bo h (l.map Tok.v)=l.map Tok.v:=dn h (fun _=>rfl) l
@[simp] theorem HS (k:Nat) (l:List Tok):bP k (l.map Tok.v)=true:=io k (fun _=>rfl) l
@[simp] theorem G4 (l:List Tok):aS (l.map Tok.v)=[]:=fT (fun _=>rfl) l
noncomputable def c82:Code:=aE Tryz.f82
theorem jr (s:List UInt8) (hs:s.length<1000000000):ay cx 82 [.str s] (.bool (cu 2 s)):=by
 refine ap (cx:=cx) 6 0 [(ResultVar.tmp 2)] Tryz.func82 rfl rfl rfl rfl rfl zq ?_
 show wpA cx 6 0 (at_ c82 []) _ _ _
 refine qZ [(0,.str s)] [] ?_ ?_
 refine qU 1 [(0,.str s)] ?_ ?_
 refine qV 2 ?_ ?_
 refine qc [.agg [.int .i64 2,.str s,.int .i64 0]] (yr s oq) ?_ ?_
 refine qX 1 ?_ ?_
 refine aH (b:=(cu 2 s)) (.inr rfl) kq ?_
 · rfl
 iterate 5 kernel_rfl
def upN (s:List UInt8):Bool:=cu 3 s && !(s==[73,110,116]) && !(s==[84,101,120,116]) && !(s==[66,111,111,108])
inductive Ty where
 | mk (kind:Int) (name:List UInt8) (n:Int) (names:List (List UInt8)) (kids:List Ty)
def Ty.kind:Ty→Int|.mk k _ _ _ _=>k
def Ty.name:Ty→List UInt8|.mk _ x _ _ _=>x
def Ty.n:Ty→Int|.mk _ _ n _ _=>n
def Ty.names:Ty→List (List UInt8)|.mk _ _ _ l _=>l
def Ty.kids:Ty→List Ty|.mk _ _ _ _ l=>l
def Ty.zero:Ty:=.mk 0 [] 0 [] []
theorem Ty.eta (t:Ty):Ty.mk t.kind t.name t.n t.names t.kids=t:=by cases t;rfl
mutual
def Ty.enc:Ty→aa
 | .mk k x n l ks=>.agg [.int .i64 k,.str x,.int .i64 n,.imm (l.map .str),.imm (Ty.encL ks)]
def Ty.encL:List Ty→List aa
 | []=>[]
 | t::l=>t.enc::Ty.encL l
end
theorem Ty.encL_map:∀ l,Ty.encL l=l.map Ty.enc
 | []=>rfl
 | t::l=>by rw [Ty.encL,Ty.encL_map l];rfl
abbrev Ty.bx (t:Ty):ai:=.box [.int .i64 t.kind,.str t.name,.int .i64 t.n,.imm (t.names.map .str),.imm (t.kids.map Ty.enc)]
abbrev zC:List aa:=[.int .i64 0,.str [],.int .i64 0,.full [],.full []]
def Ty.v (t:Ty):aa:=.agg [.int .i64 t.kind,.str t.name,.int .i64 t.n,.imm (t.names.map .str),.imm (t.kids.map Ty.enc)]
theorem Ty.enc_v (t:Ty):t.enc=t.v:=by cases t;simp only [Ty.enc,Ty.encL_map];rfl
theorem aO (t:Ty):t.enc.cells=[.int .i64 t.kind,.str t.name,.int .i64 t.n,.imm (t.names.map .str),.imm (t.kids.map Ty.enc)]:=by rw [Ty.enc_v];rfl
theorem bg (t:Ty):t.enc.cells.length=5:=by rw [aO];rfl
theorem gQ (t:Ty):(t.enc.cells.length==5 && t.enc.cells.all aa.cellOk)=true:=by rw [aO];rfl
mutual
theorem Ty.frz_enc (h:ac):∀ t:Ty,t.enc.frz h=t.enc
 | .mk k x n l ks=>by simp only [Ty.enc,aa.frz,bo,Bb,Ty.frz_encL h ks]
theorem Ty.frz_encL (h:ac):∀ l:List Ty,bo h (Ty.encL l)=Ty.encL l
 | []=>rfl
 | t::l=>by simp only [Ty.encL,bo,Ty.frz_enc h t,Ty.frz_encL h l]
end
mutual
theorem Ty.bel_enc (k:Nat):∀ t:Ty,t.enc.bel k=true
 | .mk _ x n l ks=>by simp only [Ty.enc,aa.bel,bP,Ck,Ty.bel_encL k ks,Bool.and_self]
theorem Ty.bel_encL (k:Nat):∀ l:List Ty,bP k (Ty.encL l)=true
 | []=>rfl
 | t::l=>by simp only [Ty.encL,bP,Ty.bel_enc k t,Ty.bel_encL k l,Bool.and_self]
end
mutual
theorem Ty.owns_enc:∀ t:Ty,t.enc.owns=[]
 | .mk _ x n l ks=>by simp only [Ty.enc,aa.owns,aS,yl,Ty.owns_encL ks,List.append_nil]
theorem Ty.owns_encL:∀ l:List Ty,aS (Ty.encL l)=[]
 | []=>rfl
 | t::l=>by simp only [Ty.encL,aS,Ty.owns_enc t,Ty.owns_encL l,List.append_nil]
end
@[simp] theorem Ir (h:ac) (l:List Ty):bo h (l.map Ty.enc)=l.map Ty.enc:=dn h (Ty.frz_enc h) l
@[simp] theorem I0 (k:Nat) (l:List Ty):bP k (l.map Ty.enc)=true:=io k (Ty.bel_enc k) l
@[simp] theorem HK (l:List Ty):aS (l.map Ty.enc)=[]:=fT Ty.owns_enc l
@[simp] theorem Jm (h:ac) (t:Ty):t.v.frz h=t.v:=by simp [Ty.v]
@[simp] theorem E2 (k:Nat) (t:Ty):t.v.bel k=true:=by simp [Ty.v]
@[simp] theorem IQ (t:Ty):t.v.owns=[]:=by simp [Ty.v]
def szS:List (List UInt8)→Nat
 | []=>0
 | x::l=>x.length+1+szS l
mutual
def Ty.sz:Ty→Nat
 | .mk _ x _ l ks=>1+x.length+szS l+Ty.szL ks
def Ty.szL:List Ty→Nat
 | []=>0
 | t::l=>t.sz+1+Ty.szL l
end
theorem uG:∀ l,l.length≤szS l
 | []=>Nat.le_refl _
 | x::l=>by have:=uG l;simp [szS];omega
theorem xJ:∀ (l:List (List UInt8)) (i:Nat),(l.getD i []).length≤szS l
 | [],i=>by simp
 | x::l,0=>by simp [szS];omega
 | x::l,i+1=>by have:=xJ l i;simp [szS] at *;omega
theorem zS:∀ l,l.length≤Ty.szL l
 | []=>Nat.le_refl _
 | x::l=>by have:=zS l;simp [Ty.szL];omega
theorem lI:∀ (l:List Ty) (i:Nat),i<l.length→(l.getD i Ty.zero).sz<Ty.szL l
 | [],i,h=>by simp at h
 | x::l,0,_=>by simp [Ty.szL];omega
 | x::l,i+1,h=>by have:=lI l i (by simpa using h);simp [Ty.szL] at *;omega
theorem gP (t:Ty):t.sz=1+t.name.length+szS t.names+Ty.szL t.kids:=by cases t;simp [Ty.sz,Ty.name,Ty.names,Ty.kids]
theorem Ge (t:Ty):t.name.length<t.sz:=by have e:=gP t;omega
theorem bK (t:Ty):t.names.length<t.sz:=by have:=uG t.names;have e:=gP t;omega
theorem fi (t:Ty) (i:Nat):(t.names.getD i []).length<t.sz:=by have:=xJ t.names i;have e:=gP t;omega
theorem ct (t:Ty):t.kids.length<t.sz:=by have:=zS t.kids;have e:=gP t;omega
theorem b9 (t:Ty) (i:Nat) (h:i<t.kids.length):(t.kids.getD i Ty.zero).sz<t.sz:=by have:=lI t.kids i h;have e:=gP t;omega
def dT {α β:Type} (p:α→β→Bool):List α→List β→Bool
 | [],[]=>true
 | x::xs,y::ys=>p x y && dT p xs ys
 | _,_=>false
theorem jc {α β:Type} (p:α→β→Bool):∀ (a:List α) (b:List β),a.length≠b.length→dT p a b=false
 | [],[],h=>absurd rfl h
 | [],_::_,_=>rfl
 | _::_,[],_=>rfl
 | x::a,y::b,h=>by rw [dT,jc p a b (fun e=>h (by simp [e])),Bool.and_false]
theorem gL {α β:Type} (p:α→β→Bool) (d:α) (e:β):∀ (a:List α) (b:List β),a.length=b.length→(∀ i,i<a.length→p (a.getD i d) (b.getD i e)=true)→dT p a b=true
 | [],[],_,_=>rfl
 | [],_::_,h,_=>by simp at h
 | _::_,[],h,_=>by simp at h
 | x::a,y::b,h,hp=>by
  have h0:=hp 0 zq
  simp at h0
  rw [dT,h0,gL p d e a b (by simpa using h) (fun i hi=>by simpa using hp (i+1) (by simpa using hi))];rfl
theorem kh {α β:Type} (p:α→β→Bool) (d:α) (e:β):∀ (a:List α) (b:List β) (i:Nat),a.length=b.length→i<a.length→p (a.getD i d) (b.getD i e)=false→dT p a b=false
 | [],_,i,_,hi,_=>by simp at hi
 | _::_,[],_,h,_,_=>by simp at h
 | x::a,y::b,0,_,_,hp=>by simp at hp;rw [dT,hp];rfl
 | x::a,y::b,i+1,h,hi,hp=>by rw [dT,kh p d e a b i (by simpa using h) (by simpa using hi) (by simpa using hp),Bool.and_false]
theorem ko {α:Type} [BEq α] [LawfulBEq α]:∀ (a b:List α),dT (·==·) a b=(a==b)
 | [],[]=>rfl
 | [],_::_=>rfl
 | _::_,[]=>rfl
 | x::a,y::b=>by rw [dT,ko a b];rfl
mutual
def Ty.beq:Ty→Ty→Bool
 | .mk k x n l ks,.mk k' x' n' l' ks'=>(k==k') && ((x==x') && ((n==n') && ((l==l') && Ty.beqL ks ks')))
def Ty.beqL:List Ty→List Ty→Bool
 | [],[]=>true
 | x::xs,y::ys=>x.beq y && Ty.beqL xs ys
 | _,_=>false
end
theorem wg:∀ a b,Ty.beqL a b=dT Ty.beq a b
 | [],[]=>rfl
 | [],_::_=>rfl
 | _::_,[]=>rfl
 | x::a,y::b=>by rw [Ty.beqL,dT,wg a b]
theorem nj (a b:Ty):a.beq b=((a.kind==b.kind) && ((a.name==b.name) && ((a.n==b.n) && ((a.names==b.names) && dT Ty.beq a.kids b.kids)))):=by
 cases a;cases b;simp only [Ty.beq,wg];rfl
theorem sY {a b:List (List UInt8)} (hl:a.length=b.length) (h:∀ i,i<a.length→a.getD i []=b.getD i []):true=(a==b):=by
 rw [← ko,gL (·==·) [] [] a b hl (fun i hi=>by simpa using h i hi)]
theorem Ar {a b:List (List UInt8)} {i:Nat} (hl:a.length=b.length) (hi:i<a.length) (h:¬ a.getD i []=b.getD i []):false=(a==b):=by
 rw [← ko,kh (·==·) [] [] a b i hl hi (by simpa using h)]
theorem vq {a b:List (List UInt8)} (hl:¬ ((a.length:Nat):Int)=((b.length:Nat):Int)):false=(a==b):=by
 rw [← ko,jc _ a b oq]
noncomputable def c60:Code:=aE Tryz.f60
theorem pS (a b:List (List UInt8)) (hn:a.length<1000000000):ay cx 60 [.imm (a.map aa.str),.imm (b.map aa.str)] (.bool (a==b)):=by
 refine ap (cx:=cx) 26 0 [(ResultVar.tmp 4)] Tryz.func60 rfl rfl rfl rfl rfl zq ?_
 show wpA cx 26 0 (at_ c60 []) _ _ _
 refine qZ [(0,.imm (a.map aa.str)),(1,.imm (b.map aa.str))] [] ?_ ?_
 refine qU 1 [(0,.imm (a.map aa.str)),(1,.imm (b.map aa.str))] ?_ ?_
 refine ar ?_ ?_
 refine qV 1 ?_ ?_
 refine qy (au (l:=a) (enc:=aa.str) kq bi) ?_ ?_ ?_
 refine qr 1 ?_ ?_
 refine qy (au (l:=b) (enc:=aa.str) kq bi) ?_ ?_ ?_
 refine qR 1 [(0,.imm (a.map aa.str)),(1,.imm (b.map aa.str)),(10,.bool (((a.length:Nat):Int) != ((b.length:Nat):Int)))] [] ?_ ?_
 by_cases hb1:((a.length:Nat):Int)=((b.length:Nat):Int)
 refine qf (x:=(((a.length:Nat):Int) != ((b.length:Nat):Int))) (bne_eq_false_iff_eq.2 hb1) ?_ ?_
 refine qK ?_ ?_
 refine qz [(0,.imm (a.map aa.str)),(1,.imm (b.map aa.str))] ?_ ?_
 refine ar ?_ ?_
 refine qU 1 [(0,.imm (a.map aa.str)),(1,.imm (b.map aa.str)),(5,.int .i64 0)] ?_ ?_
 refine qB 0 ?_ ?_ ?_
 refine bR (σ:=Nat) (fun k=>[(0,.imm (a.map aa.str)),(1,.imm (b.map aa.str)),(5,.int .i64 ((k:Nat):Int))]) (fun k=>[]) (fun k=>k≤a.length∧∀ i,i<k→a.getD i []=b.getD i []) (fun k=>a.length - k) 0 kq zq ⟨⟨kq,kq,kq,trivial⟩,by simp [aV,aa.bel],by simp,kq,by simp⟩ ?_
 rintro k ⟨hk,ha⟩
 refine ar ?_ ?_
 refine qV 2 ?_ ?_
 refine qy (au (l:=a) (enc:=aa.str) kq bi) ?_ ?_ ?_
 refine qR 1 [(0,.imm (a.map aa.str)),(1,.imm (b.map aa.str)),(5,nI k),(14,.bool (decide (((k:Nat):Int)<((a.length:Nat):Int))))] [] ?_ ?_
 by_cases hb2:((k:Nat):Int)<((a.length:Nat):Int)
 refine qt (decide_eq_true hb2) ?_ ?_
 refine qK ?_ ?_
 refine qz [(0,.imm (a.map aa.str)),(1,.imm (b.map aa.str)),(5,nI k)] ?_ ?_
 refine ar ?_ ?_
 refine qB 1 ?_ ?_ ?_
 refine ar ?_ ?_
 refine cK cxM kq aB (bv ?_)
 refine qu 2 ?_ ?_
 refine qd (ax (k:=.i64) (l:=a) (enc:=aa.str) (i:=((k:Nat):Int)) [] kq bi ty9 (fun _=>rfl) oq oq) ?_ ?_ ?_ ?_
 refine qu 3 ?_ ?_
 refine qd (ax (k:=.i64) (l:=b) (enc:=aa.str) (i:=((k:Nat):Int)) [] kq bi ty9 (fun _=>rfl) oq oq) ?_ ?_ ?_ ?_
 refine qu 2 ?_ ?_
 refine cn kq ⟨kq,?_⟩
 refine ab ?_
 refine qZ [(0,.imm (a.map aa.str)),(1,.imm (b.map aa.str)),(5,nI k),(25,.bool (!((a.getD k [])==(b.getD k []))))] [] ?_ ?_
 by_cases hb3:(a.getD k [])=(b.getD k [])
 refine qf (x:=(!((a.getD k [])==(b.getD k [])))) (congrArg not (beq_iff_eq.2 hb3)) ?_ ?_
 refine qk ?_ ?_
 refine ak ?_
 refine ab ?_
 refine qz [(0,.imm (a.map aa.str)),(1,.imm (b.map aa.str)),(5,nI k)] ?_ ?_
 refine qo ?_ ?_
 refine qr 1 ?_ ?_
 refine qy (aN (a:=((k:Nat):Int)) (b:=1) kq oq oq) ?_ ?_ ?_
 refine qr 1 ?_ ?_
 refine qe ?_ ?_
 refine ab ⟨k+1,?_,?_,⟨⟨kq,kq,kq,trivial⟩,by simp [aV,aa.bel],by simp,kq,by simp⟩⟩
 · omega
 · refine ⟨by omega,fun i hi=>?_⟩
   rcases Nat.lt_succ_iff_lt_or_eq.1 hi with h|h
   · exact ha i h
   · subst h;assumption
 iterate 9 kernel_rfl
 refine qt (x:=(!((a.getD k [])==(b.getD k [])))) (congrArg not (beq_eq_false_iff_ne.2 hb3)) ?_ ?_
 refine qV 1 ?_ ?_
 refine qT ?_ ?_
 apply iR
 apply aR
 apply aR
 apply iR
 apply aR
 refine aH (b:=false) (.inr rfl) kq ?_
 rotate_left
 iterate 20 kernel_rfl
 refine qf (decide_eq_false hb2) ?_ ?_
 refine bC 0 kq kq ?_
 refine af ?_
 refine af ?_
 refine aA ?_
 refine ab ?_
 refine qz [] ?_ ?_
 refine qV 1 ?_ ?_
 refine qT ?_ ?_
 refine aH (b:=true) (.inr rfl) kq ?_
 rotate_left
 iterate 16 kernel_rfl
 refine qt (x:=(((a.length:Nat):Int) != ((b.length:Nat):Int))) (bne_iff_ne.2 hb1) ?_ ?_
 refine qV 1 ?_ ?_
 refine qT ?_ ?_
 apply aR
 refine aH (b:=false) (.inr rfl) kq ?_
 rotate_left
 iterate 13 kernel_rfl
 all_goals
  first|exact vq aq|exact sY oq (fun i hi=>ha i oq)|exact Ar (i:=k) oq oq aq
noncomputable def c57:Code:=aE Tryz.f57
theorem iW (a b:List (List UInt8)) (hn:a.length<1000000000):ay cx 57 [.imm (a.map aa.str),.imm (b.map aa.str)] (.bool (a==b)):=by
 refine ap (cx:=cx) 26 0 [(ResultVar.tmp 4)] Tryz.func57 rfl rfl rfl rfl rfl zq ?_
 show wpA cx 26 0 (at_ c57 []) _ _ _
 refine qZ [(0,.imm (a.map aa.str)),(1,.imm (b.map aa.str))] [] ?_ ?_
 refine qU 1 [(0,.imm (a.map aa.str)),(1,.imm (b.map aa.str))] ?_ ?_
 refine ar ?_ ?_
 refine qV 1 ?_ ?_
 refine qy (au (l:=a) (enc:=aa.str) kq bi) ?_ ?_ ?_
 refine qr 1 ?_ ?_
 refine qy (au (l:=b) (enc:=aa.str) kq bi) ?_ ?_ ?_
 refine qR 1 [(0,.imm (a.map aa.str)),(1,.imm (b.map aa.str)),(10,.bool (((a.length:Nat):Int) != ((b.length:Nat):Int)))] [] ?_ ?_
 by_cases hb1:((a.length:Nat):Int)=((b.length:Nat):Int)
 refine qf (x:=(((a.length:Nat):Int) != ((b.length:Nat):Int))) (bne_eq_false_iff_eq.2 hb1) ?_ ?_
 refine qK ?_ ?_
 refine qz [(0,.imm (a.map aa.str)),(1,.imm (b.map aa.str))] ?_ ?_
 refine ar ?_ ?_
 refine qV 1 ?_ ?_
 refine qy (au (l:=a) (enc:=aa.str) kq bi) ?_ ?_ ?_
 refine qR 1 [(0,.imm (a.map aa.str)),(1,.imm (b.map aa.str)),(12,nI a.length),(13,.int .i64 0)] [] ?_ ?_
 refine qB 0 ?_ ?_ ?_
 refine bR (σ:=Nat) (fun k=>[(0,.imm (a.map aa.str)),(1,.imm (b.map aa.str)),(12,.int .i64 ((a.length:Nat):Int)),(13,.int .i64 ((k:Nat):Int))]) (fun k=>[]) (fun k=>k≤a.length∧∀ i,i<k→a.getD i []=b.getD i []) (fun k=>a.length - k) 0 kq zq ⟨⟨kq,kq,kq,kq,trivial⟩,by simp [aV,aa.bel],by simp,kq,by simp⟩ ?_
 rintro k ⟨hk,ha⟩
 refine qW 1 [(0,.imm (a.map aa.str)),(1,.imm (b.map aa.str)),(12,nI a.length),(13,nI k),(14,.bool (decide (((k:Nat):Int)<((a.length:Nat):Int))))] [] ?_ ?_
 refine ar ?_ ?_
 by_cases hb2:((k:Nat):Int)<((a.length:Nat):Int)
 refine qt (decide_eq_true hb2) ?_ ?_
 refine qK ?_ ?_
 refine qz [(0,.imm (a.map aa.str)),(1,.imm (b.map aa.str)),(12,nI a.length),(13,nI k)] ?_ ?_
 refine ar ?_ ?_
 refine qB 1 ?_ ?_ ?_
 refine qU 2 [(0,.imm (a.map aa.str)),(1,.imm (b.map aa.str)),(5,nI k),(12,nI a.length),(13,nI k)] ?_ ?_
 refine ar ?_ ?_
 refine cK cxM kq aB (bv ?_)
 refine qu 2 ?_ ?_
 refine qd (ax (k:=.i64) (l:=a) (enc:=aa.str) (i:=((k:Nat):Int)) [] kq bi ty9 (fun _=>rfl) oq oq) ?_ ?_ ?_ ?_
 refine qu 3 ?_ ?_
 refine qd (ax (k:=.i64) (l:=b) (enc:=aa.str) (i:=((k:Nat):Int)) [] kq bi ty9 (fun _=>rfl) oq oq) ?_ ?_ ?_ ?_
 refine qu 2 ?_ ?_
 refine cn kq ⟨kq,?_⟩
 refine ab ?_
 refine qZ [(0,.imm (a.map aa.str)),(1,.imm (b.map aa.str)),(12,nI a.length),(13,nI k),(24,.bool (!((a.getD k [])==(b.getD k []))))] [] ?_ ?_
 by_cases hb3:(a.getD k [])=(b.getD k [])
 refine qf (x:=(!((a.getD k [])==(b.getD k [])))) (congrArg not (beq_iff_eq.2 hb3)) ?_ ?_
 refine qk ?_ ?_
 refine ak ?_
 refine ab ?_
 refine qz [(0,.imm (a.map aa.str)),(1,.imm (b.map aa.str)),(12,nI a.length),(13,nI k)] ?_ ?_
 refine qo ?_ ?_
 refine qy (aN (a:=((k:Nat):Int)) (b:=1) kq oq oq) ?_ ?_ ?_
 refine qr 1 ?_ ?_
 refine qe ?_ ?_
 refine ab ⟨k+1,?_,?_,⟨⟨kq,kq,kq,kq,trivial⟩,by simp [aV,aa.bel],by simp,kq,by simp⟩⟩
 · omega
 · refine ⟨by omega,fun i hi=>?_⟩
   rcases Nat.lt_succ_iff_lt_or_eq.1 hi with h|h
   · exact ha i h
   · subst h;assumption
 iterate 8 kernel_rfl
 refine qt (x:=(!((a.getD k [])==(b.getD k [])))) (congrArg not (beq_eq_false_iff_ne.2 hb3)) ?_ ?_
 refine qV 1 ?_ ?_
 refine qT ?_ ?_
 apply iR
 apply aR
 apply aR
 apply iR
 apply aR
 refine aH (b:=false) (.inr rfl) kq ?_
 rotate_left
 iterate 21 kernel_rfl
 refine qf (decide_eq_false hb2) ?_ ?_
 refine bC 0 kq kq ?_
 refine af ?_
 refine af ?_
 refine aA ?_
 refine ab ?_
 refine qz [] ?_ ?_
 refine qV 1 ?_ ?_
 refine qT ?_ ?_
 refine aH (b:=true) (.inr rfl) kq ?_
 rotate_left
 iterate 16 kernel_rfl
 refine qt (x:=(((a.length:Nat):Int) != ((b.length:Nat):Int))) (bne_iff_ne.2 hb1) ?_ ?_
 refine qV 1 ?_ ?_
 refine qT ?_ ?_
 apply aR
 refine aH (b:=false) (.inr rfl) kq ?_
 rotate_left
 iterate 13 kernel_rfl
 all_goals
  first|exact vq aq|exact sY oq (fun i hi=>ha i oq)|exact Ar (i:=k) oq oq aq
noncomputable def c61:Code:=aE Tryz.f61
theorem mC {p:Prop} (h:p:=by simp [Ty.v]):p:=h
theorem vJ (a b:List Ty) (f:Nat) (p:Ty→Ty→Bool) (hc:∀ i,i<a.length→i<b.length→ay cx f [(a.getD i Ty.zero).v,(b.getD i Ty.zero).v] (.bool (p (a.getD i Ty.zero) (b.getD i Ty.zero)))) (hn:a.length<1000000000):ay cx 61 [.imm (a.map Ty.enc),.imm (b.map Ty.enc),.fn (.func f) [] []] (.bool (dT p a b)):=by
 refine ap (cx:=cx) 32 0 [(ResultVar.tmp 6)] Tryz.func61 rfl rfl rfl rfl rfl zq ?_
 show wpA cx 32 0 (at_ c61 []) _ _ _
 refine qZ [(0,.imm (a.map Ty.enc)),(1,.imm (b.map Ty.enc)),(2,.fn (.func f) [] [])] [] ?_ ?_
 refine qU 1 [(0,.imm (a.map Ty.enc)),(1,.imm (b.map Ty.enc)),(2,.fn (.func f) [] [])] ?_ ?_
 refine ar ?_ ?_
 refine qV 1 ?_ ?_
 refine qy (au (l:=a) (enc:=Ty.enc) kq bf) ?_ ?_ ?_
 refine qr 1 ?_ ?_
 refine qy (au (l:=b) (enc:=Ty.enc) kq bf) ?_ ?_ ?_
 refine qR 1 [(0,.imm (a.map Ty.enc)),(1,.imm (b.map Ty.enc)),(2,.fn (.func f) [] []),(14,.bool (((a.length:Nat):Int) != ((b.length:Nat):Int)))] [] ?_ ?_
 by_cases hb1:((a.length:Nat):Int)=((b.length:Nat):Int)
 refine qf (x:=(((a.length:Nat):Int) != ((b.length:Nat):Int))) (bne_eq_false_iff_eq.2 hb1) ?_ ?_
 refine qK ?_ ?_
 refine qz [(0,.imm (a.map Ty.enc)),(1,.imm (b.map Ty.enc)),(2,.fn (.func f) [] [])] ?_ ?_
 refine ar ?_ ?_
 refine qV 1 ?_ ?_
 refine qy (au (l:=a) (enc:=Ty.enc) kq bf) ?_ ?_ ?_
 refine qR 1 [(1,.imm (b.map Ty.enc)),(2,.fn (.func f) [] []),(15,.imm (a.map Ty.enc)),(16,nI a.length),(17,.int .i64 0)] [] ?_ ?_
 refine qB 0 ?_ ?_ ?_
 refine bR (σ:=Nat) (fun k=>[(1,.imm (b.map Ty.enc)),(2,.fn (.func f) [] []),(15,.imm (a.map Ty.enc)),(16,.int .i64 ((a.length:Nat):Int)),(17,.int .i64 ((k:Nat):Int))]) (fun k=>[]) (fun k=>k≤a.length∧∀ i,i<k→p (a.getD i Ty.zero) (b.getD i Ty.zero)=true) (fun k=>a.length - k) 0 kq zq ⟨⟨kq,kq,kq,kq,kq,trivial⟩,by simp [aV,aa.bel],by simp,kq,by simp⟩ ?_
 rintro k ⟨hk,ha⟩
 refine qW 1 [(1,.imm (b.map Ty.enc)),(2,.fn (.func f) [] []),(15,.imm (a.map Ty.enc)),(16,nI a.length),(17,nI k),(18,.bool (decide (((k:Nat):Int)<((a.length:Nat):Int))))] [] ?_ ?_
 refine ar ?_ ?_
 by_cases hb2:((k:Nat):Int)<((a.length:Nat):Int)
 refine qt (decide_eq_true hb2) ?_ ?_
 refine qK ?_ ?_
 refine qz [(1,.imm (b.map Ty.enc)),(2,.fn (.func f) [] []),(15,.imm (a.map Ty.enc)),(16,nI a.length),(17,nI k)] ?_ ?_
 refine ar ?_ ?_
 refine qB 1 ?_ ?_ ?_
 refine qV 1 ?_ ?_
 refine qy ((ax (k:=.i64) (l:=a) (enc:=Ty.enc) (i:=((k:Nat):Int)) Ty.zero kq bf bX bg oq oq).trans (congrArg (fun cs=>some (aa.pimm cs 0,_)) (aO (a.getD k Ty.zero)))) ?_ ?_ ?_
 refine qR 4 [(1,.imm (b.map Ty.enc)),(2,.fn (.func f) [] []),(7,nI k),(8,.ptr 0 0),(15,.imm (a.map Ty.enc)),(16,nI a.length),(17,nI k)] [(a.getD k Ty.zero).bx] ?_ ?_
 refine qV 2 ?_ ?_
 refine qy ((ax (k:=.i64) (l:=b) (enc:=Ty.enc) (i:=((k:Nat):Int)) Ty.zero kq bf bX bg oq oq).trans (congrArg (fun cs=>some (aa.pimm cs 0,_)) (aO (b.getD k Ty.zero)))) ?_ ?_ ?_
 refine qR 3 [(1,.imm (b.map Ty.enc)),(2,.fn (.func f) [] []),(8,.ptr 0 0),(9,.ptr 1 0),(15,.imm (a.map Ty.enc)),(16,nI a.length),(17,nI k)] [(a.getD k Ty.zero).bx,(b.getD k Ty.zero).bx] ?_ ?_
 refine qV 3 ?_ ?_
 refine bp (args:=[.agg [.int .i64 ((a.getD k Ty.zero).kind),.str (a.getD k Ty.zero).name,.int .i64 ((a.getD k Ty.zero).n),.imm ((a.getD k Ty.zero).names.map aa.str),.imm ((a.getD k Ty.zero).kids.map Ty.enc)],.agg [.int .i64 ((b.getD k Ty.zero).kind),.str (b.getD k Ty.zero).name,.int .i64 ((b.getD k Ty.zero).n),.imm ((b.getD k Ty.zero).names.map aa.str),.imm ((b.getD k Ty.zero).kids.map Ty.enc)]]) kq kq kq kq (hc k oq oq) mC mC mC ?_
 refine qR 1 [(1,.imm (b.map Ty.enc)),(2,.fn (.func f) [] []),(15,.imm (a.map Ty.enc)),(16,nI a.length),(17,nI k),(30,.bool (!(p (a.getD k Ty.zero) (b.getD k Ty.zero))))] [(a.getD k Ty.zero).bx,(b.getD k Ty.zero).bx] ?_ ?_
 by_cases hb3:(p (a.getD k Ty.zero) (b.getD k Ty.zero))=true
 refine qf (x:=(!(p (a.getD k Ty.zero) (b.getD k Ty.zero)))) (congrArg not (hb3)) ?_ ?_
 refine qk ?_ ?_
 refine ak ?_
 refine ab ?_
 refine qz [(1,.imm (b.map Ty.enc)),(2,.fn (.func f) [] []),(15,.imm (a.map Ty.enc)),(16,nI a.length),(17,nI k)] ?_ ?_
 refine qo ?_ ?_
 refine qy (aN (a:=((k:Nat):Int)) (b:=1) kq oq oq) ?_ ?_ ?_
 refine qr 1 ?_ ?_
 refine qe ?_ ?_
 refine ab ⟨k+1,?_,?_,⟨⟨kq,kq,kq,kq,kq,trivial⟩,by simp [aV,aa.bel],by simp,kq,by simp⟩⟩
 · omega
 · refine ⟨by omega,fun i hi=>?_⟩
   rcases Nat.lt_succ_iff_lt_or_eq.1 hi with h|h
   · exact ha i h
   · subst h;assumption
 iterate 8 kernel_rfl
 refine qt (x:=(!(p (a.getD k Ty.zero) (b.getD k Ty.zero)))) (congrArg not (Bool.eq_false_iff.2 hb3)) ?_ ?_
 refine qV 1 ?_ ?_
 refine qT ?_ ?_
 apply iR
 apply aR
 apply aR
 apply iR
 apply aR
 refine aH (b:=false) (.inr rfl) kq ?_
 rotate_left
 iterate 19 kernel_rfl
 refine qf (decide_eq_false hb2) ?_ ?_
 refine bC 0 kq kq ?_
 refine af ?_
 refine af ?_
 refine aA ?_
 refine ab ?_
 refine qz [] ?_ ?_
 refine qV 1 ?_ ?_
 refine qT ?_ ?_
 refine aH (b:=true) (.inr rfl) kq ?_
 rotate_left
 iterate 16 kernel_rfl
 refine qt (x:=(((a.length:Nat):Int) != ((b.length:Nat):Int))) (bne_iff_ne.2 hb1) ?_ ?_
 refine qV 1 ?_ ?_
 refine qT ?_ ?_
 apply aR
 refine aH (b:=false) (.inr rfl) kq ?_
 rotate_left
 iterate 13 kernel_rfl
 all_goals
  first|exact (jc p a b oq).symm|exact (gL p Ty.zero Ty.zero a b oq (fun i hi=>ha i oq)).symm|exact (kh p Ty.zero Ty.zero a b k oq oq (Bool.eq_false_iff.2 aq)).symm
noncomputable def c16:Code:=aE Tryz.f16
theorem nH (a b:Ty) (hs:a.sz<100000000):ay cx 16 [Ty.v a,Ty.v b] (.bool (a.beq b)):=by
 induction hN:a.sz using Nat.strongRecOn generalizing a b with|_ N ih =>
 have hc:∀ i,i<a.kids.length→i<b.kids.length→ay cx 16 [(a.kids.getD i Ty.zero).v,(b.kids.getD i Ty.zero).v] (.bool ((a.kids.getD i Ty.zero).beq (b.kids.getD i Ty.zero))):=fun i h1 _=>ih _ (by rw [← hN];exact b9 a i h1) _ _ (Nat.lt_trans (b9 a i h1) hs) rfl
 have hz1:=bK a
 have hz2:=ct a
 refine ap (cx:=cx) 38 0 [(ResultVar.tmp 4)] Tryz.func16 rfl rfl rfl rfl rfl zq ?_
 show wpA cx 38 0 (at_ c16 []) _ _ _
 refine qZ [(0,Ty.v a),(1,Ty.v b)] [] ?_ ?_
 refine qW 3 [(2,.ptr 0 0),(3,.ptr 1 0)] [a.bx,b.bx] ?_ ?_
 refine qV 6 ?_ ?_
 by_cases hb1:(a.kind)=(b.kind)
 refine qm [9,10] (beq_iff_eq.2 hb1) ?_ ?_
 refine qr 7 ?_ ?_
 by_cases hb2:a.name=b.name
 refine qm [15,16,17] (beq_iff_eq.2 hb2) ?_ ?_
 refine qr 7 ?_ ?_
 by_cases hb3:(a.n)=(b.n)
 refine qm [22,23,24] (beq_iff_eq.2 hb3) ?_ ?_
 refine qr 4 ?_ ?_
 refine bp (args:=[.imm (a.names.map aa.str),.imm (b.names.map aa.str)]) kq kq kq kq (iW a.names b.names oq) mC mC mC ?_
 refine qr 2 ?_ ?_
 by_cases hb4:(a.names==b.names)=true
 refine qm [29,30,31] (hb4) ?_ ?_
 refine qr 4 ?_ ?_
 refine bp (args:=[.imm (a.kids.map Ty.enc),.imm (b.kids.map Ty.enc),.fn (.func 16) [] []]) kq kq kq kq (vJ a.kids b.kids 16 Ty.beq (hc) oq) mC mC mC ?_
 refine qX 2 ?_ ?_
 refine aH (b:=(dT Ty.beq a.kids b.kids)) (.inr rfl) kq ?_
 · simp [nj, *]
 iterate 3 kernel_rfl
 refine qm [29,30,31] (Bool.eq_false_iff.2 hb4) ?_ ?_
 refine qX 7 ?_ ?_
 refine aH (b:=false) (.inr rfl) kq ?_
 · simp [nj, *]
 iterate 5 kernel_rfl
 refine qm [22,23,24] (beq_eq_false_iff_ne.2 hb3) ?_ ?_
 refine qX 14 ?_ ?_
 refine aH (b:=false) (.inr rfl) kq ?_
 · simp [nj, *]
 iterate 4 kernel_rfl
 refine qm [15,16,17] (beq_eq_false_iff_ne.2 hb2) ?_ ?_
 refine qX 21 ?_ ?_
 refine aH (b:=false) (.inr rfl) kq ?_
 · simp [nj, *]
 iterate 4 kernel_rfl
 refine qm [9,10] (beq_eq_false_iff_ne.2 hb1) ?_ ?_
 refine qX 28 ?_ ?_
 refine aH (b:=false) (.inr rfl) kq ?_
 · simp [nj, *]
 iterate 5 kernel_rfl
theorem FU {a b:Ty} {v:Bool} (h:v=((a.kind==b.kind) && ((a.name==b.name) && ((a.n==b.n) && ((a.names==b.names) && dT Ty.beq a.kids b.kids))))):v=a.beq b:=by rw [nj];exact h
noncomputable def c17:Code:=aE Tryz.f17
theorem xh (a b:Ty) (hs:a.sz<100000000):ay cx 17 [Ty.v a,Ty.v b] (.bool (a.beq b)):=by
 induction hN:a.sz using Nat.strongRecOn generalizing a b with|_ N ih =>
 have hc:∀ i,i<a.kids.length→i<b.kids.length→ay cx 17 [(a.kids.getD i Ty.zero).v,(b.kids.getD i Ty.zero).v] (.bool ((a.kids.getD i Ty.zero).beq (b.kids.getD i Ty.zero))):=fun i h1 _=>ih _ (by rw [← hN];exact b9 a i h1) _ _ (Nat.lt_trans (b9 a i h1) hs) rfl
 have hz1:=bK a
 have hz2:=ct a
 refine ap (cx:=cx) 65 0 [(ResultVar.tmp 4)] Tryz.func17 rfl rfl rfl rfl rfl zq ?_
 show wpA cx 65 0 (at_ c17 []) _ _ _
 refine qZ [(0,Ty.v a),(1,Ty.v b)] [] ?_ ?_
 refine qW 3 [(2,.ptr 0 0),(3,.ptr 1 0)] [a.bx,b.bx] ?_ ?_
 refine qV 4 ?_ ?_
 refine bp (args:=[.imm (a.names.map aa.str),.imm (b.names.map aa.str)]) kq kq kq kq (pS a.names b.names oq) mC mC mC ?_
 refine qR 1 [(2,.ptr 0 0),(3,.ptr 1 0),(5,.bool (a.names==b.names))] [a.bx,b.bx] ?_ ?_
 refine ar ?_ ?_
 refine qV 3 ?_ ?_
 by_cases hb1:(a.names==b.names)=true
 refine qm [14,15] (x:=(!(a.names==b.names))) (congrArg not (hb1)) ?_ ?_
 refine qr 7 ?_ ?_
 by_cases hb2:(a.kind)=(b.kind)
 refine qm [20,21,22] (x:=((a.kind) != (b.kind))) (bne_eq_false_iff_eq.2 hb2) ?_ ?_
 refine qr 7 ?_ ?_
 by_cases hb3:a.name=b.name
 refine qm [27,28,29] (x:=(!(a.name==b.name))) (congrArg not (beq_iff_eq.2 hb3)) ?_ ?_
 refine qr 7 ?_ ?_
 by_cases hb4:(a.n)=(b.n)
 refine qm [34,35,36] (x:=((a.n) != (b.n))) (bne_eq_false_iff_eq.2 hb4) ?_ ?_
 refine qr 2 ?_ ?_
 refine qy (au (l:=a.kids) (enc:=Ty.enc) kq bf) ?_ ?_ ?_
 refine qr 2 ?_ ?_
 refine qy (au (l:=b.kids) (enc:=Ty.enc) kq bf) ?_ ?_ ?_
 refine qR 2 [(2,.ptr 0 0),(3,.ptr 1 0),(44,.bool (((a.kids.length:Nat):Int) != ((b.kids.length:Nat):Int)))] [a.bx,b.bx] ?_ ?_
 by_cases hb5:((a.kids.length:Nat):Int)=((b.kids.length:Nat):Int)
 refine qf (x:=(((a.kids.length:Nat):Int) != ((b.kids.length:Nat):Int))) (bne_eq_false_iff_eq.2 hb5) ?_ ?_
 refine qK ?_ ?_
 refine qz [(2,.ptr 0 0),(3,.ptr 1 0)] ?_ ?_
 refine ar ?_ ?_
 refine qU 1 [(2,.ptr 0 0),(3,.ptr 1 0),(6,.int .i64 0)] ?_ ?_
 refine qB 0 ?_ ?_ ?_
 refine bR (σ:=Nat) (fun k=>[(2,.ptr 0 0),(3,.ptr 1 0),(6,.int .i64 ((k:Nat):Int))]) (fun k=>[a.bx,b.bx]) (fun k=>k≤a.kids.length∧∀ i,i<k→(a.kids.getD i Ty.zero).beq (b.kids.getD i Ty.zero)=true) (fun k=>a.kids.length - k) 0 kq zq ⟨⟨kq,kq,kq,trivial⟩,by simp [aV,aa.bel],by simp,kq,by simp [ai.belO]⟩ ?_
 rintro k ⟨hk,ha⟩
 refine ar ?_ ?_
 refine qV 3 ?_ ?_
 refine qy (au (l:=a.kids) (enc:=Ty.enc) kq bf) ?_ ?_ ?_
 refine qR 1 [(2,.ptr 0 0),(3,.ptr 1 0),(6,nI k),(49,.bool (decide (((k:Nat):Int)<((a.kids.length:Nat):Int))))] [a.bx,b.bx] ?_ ?_
 by_cases hb6:((k:Nat):Int)<((a.kids.length:Nat):Int)
 refine qt (decide_eq_true hb6) ?_ ?_
 refine qK ?_ ?_
 refine qz [(2,.ptr 0 0),(3,.ptr 1 0),(6,nI k)] ?_ ?_
 refine ar ?_ ?_
 refine qB 1 ?_ ?_ ?_
 refine ar ?_ ?_
 refine cK cxM kq aB (bv ?_)
 refine qu 3 ?_ ?_
 refine qd ((ax (k:=.i64) (l:=a.kids) (enc:=Ty.enc) (i:=((k:Nat):Int)) Ty.zero kq bf bX bg oq oq).trans (congrArg (fun cs=>some (aa.pimm cs 0,_)) (aO (a.kids.getD k Ty.zero)))) ?_ ?_ ?_ ?_
 refine qu 4 ?_ ?_
 refine qd ((ax (k:=.i64) (l:=b.kids) (enc:=Ty.enc) (i:=((k:Nat):Int)) Ty.zero kq bf bX bg oq oq).trans (congrArg (fun cs=>some (aa.pimm cs 0,_)) (aO (b.kids.getD k Ty.zero)))) ?_ ?_ ?_ ?_
 refine qu 1 ?_ ?_
 refine cB (args:=[.agg [.int .i64 ((a.kids.getD k Ty.zero).kind),.str (a.kids.getD k Ty.zero).name,.int .i64 ((a.kids.getD k Ty.zero).n),.imm ((a.kids.getD k Ty.zero).names.map aa.str),.imm ((a.kids.getD k Ty.zero).kids.map Ty.enc)],.agg [.int .i64 ((b.kids.getD k Ty.zero).kind),.str (b.kids.getD k Ty.zero).name,.int .i64 ((b.kids.getD k Ty.zero).n),.imm ((b.kids.getD k Ty.zero).names.map aa.str),.imm ((b.kids.getD k Ty.zero).kids.map Ty.enc)]]) kq kq kq kq kq (hc k oq oq) (by intro _;simp [Ty.v]) mC mC ?_
 refine qu 1 ?_ ?_
 refine cn kq ⟨kq,?_⟩
 refine ab ?_
 refine qZ [(2,.ptr 0 0),(3,.ptr 1 0),(6,nI k),(7,.bool ((a.kids.getD k Ty.zero).beq (b.kids.getD k Ty.zero)))] [a.bx,b.bx] ?_ ?_
 refine qU 2 [(2,.ptr 0 0),(3,.ptr 1 0),(6,nI k),(64,.bool (!((a.kids.getD k Ty.zero).beq (b.kids.getD k Ty.zero))))] ?_ ?_
 by_cases hb7:((a.kids.getD k Ty.zero).beq (b.kids.getD k Ty.zero))=true
 refine qf (x:=(!((a.kids.getD k Ty.zero).beq (b.kids.getD k Ty.zero)))) (congrArg not (hb7)) ?_ ?_
 refine qk ?_ ?_
 refine ak ?_
 refine ab ?_
 refine qz [(2,.ptr 0 0),(3,.ptr 1 0),(6,nI k)] ?_ ?_
 refine qo ?_ ?_
 refine qr 1 ?_ ?_
 refine qy (aN (a:=((k:Nat):Int)) (b:=1) kq oq oq) ?_ ?_ ?_
 refine qr 1 ?_ ?_
 refine qe ?_ ?_
 refine ab ⟨k+1,?_,?_,⟨⟨kq,kq,kq,trivial⟩,by simp [aV,aa.bel],by simp,kq,by simp [ai.belO]⟩⟩
 · omega
 · refine ⟨by omega,fun i hi=>?_⟩
   rcases Nat.lt_succ_iff_lt_or_eq.1 hi with h|h
   · exact ha i h
   · subst h;assumption
 iterate 9 kernel_rfl
 refine qt (x:=(!((a.kids.getD k Ty.zero).beq (b.kids.getD k Ty.zero)))) (congrArg not (Bool.eq_false_iff.2 hb7)) ?_ ?_
 refine qV 1 ?_ ?_
 refine qT ?_ ?_
 apply iR
 apply aR
 apply aR
 apply iR
 apply aR
 refine aH (b:=false) (.inr rfl) kq ?_
 rotate_left
 iterate 22 kernel_rfl
 refine qf (decide_eq_false hb6) ?_ ?_
 refine bC 0 kq kq ?_
 refine af ?_
 refine af ?_
 refine aA ?_
 refine ab ?_
 refine qz [] ?_ ?_
 refine qV 1 ?_ ?_
 refine qT ?_ ?_
 refine aH (b:=true) (.inr rfl) kq ?_
 rotate_left
 iterate 16 kernel_rfl
 refine qt (x:=(((a.kids.length:Nat):Int) != ((b.kids.length:Nat):Int))) (bne_iff_ne.2 hb5) ?_ ?_
 refine qV 1 ?_ ?_
 refine qT ?_ ?_
 apply aR
 refine aH (b:=false) (.inr rfl) kq ?_
 rotate_left
 iterate 11 kernel_rfl
 refine qm [34,35,36] (x:=((a.n) != (b.n))) (bne_iff_ne.2 hb4) ?_ ?_
 refine qR 8 [(2,.ptr 0 0),(3,.ptr 1 0),(44,.bool true)] [a.bx,b.bx] ?_ ?_
 refine cp kq kq ?_
 refine qV 1 ?_ ?_
 refine qT ?_ ?_
 apply aR
 refine aH (b:=false) (.inr rfl) kq ?_
 rotate_left
 iterate 6 kernel_rfl
 refine qm [27,28,29] (x:=(!(a.name==b.name))) (congrArg not (beq_eq_false_iff_ne.2 hb3)) ?_ ?_
 refine qR 15 [(2,.ptr 0 0),(3,.ptr 1 0),(44,.bool true)] [a.bx,b.bx] ?_ ?_
 refine cp kq kq ?_
 refine qV 1 ?_ ?_
 refine qT ?_ ?_
 apply aR
 refine aH (b:=false) (.inr rfl) kq ?_
 rotate_left
 iterate 6 kernel_rfl
 refine qm [20,21,22] (x:=((a.kind) != (b.kind))) (bne_iff_ne.2 hb2) ?_ ?_
 refine qR 22 [(2,.ptr 0 0),(3,.ptr 1 0),(44,.bool true)] [a.bx,b.bx] ?_ ?_
 refine cp kq kq ?_
 refine qV 1 ?_ ?_
 refine qT ?_ ?_
 apply aR
 refine aH (b:=false) (.inr rfl) kq ?_
 rotate_left
 iterate 6 kernel_rfl
 refine qm [14,15] (x:=(!(a.names==b.names))) (congrArg not (Bool.eq_false_iff.2 hb1)) ?_ ?_
 refine qR 29 [(2,.ptr 0 0),(3,.ptr 1 0),(44,.bool true)] [a.bx,b.bx] ?_ ?_
 refine cp kq kq ?_
 refine qV 1 ?_ ?_
 refine qT ?_ ?_
 apply aR
 refine aH (b:=false) (.inr rfl) kq ?_
 rotate_left
 iterate 10 kernel_rfl
 all_goals
  refine FU ?_
  first|(simp only [jc Ty.beq a.kids b.kids oq,Bool.and_false];done)|(rw [gL Ty.beq Ty.zero Ty.zero a.kids b.kids oq (fun i hi=>ha i oq)];simp_all;done)|(rw [kh Ty.beq Ty.zero Ty.zero a.kids b.kids k oq oq (Bool.eq_false_iff.2 aq)];simp;done)|(simp_all;done)
end Go.Proofs.YtdikgijfekfaoaaGreatDoor
