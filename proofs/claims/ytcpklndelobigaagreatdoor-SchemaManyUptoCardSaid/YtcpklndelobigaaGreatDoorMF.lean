/- From and the reference's From give the same; sizes. No condition but a fine workspace. -/
import Derived.Test.YtcpklndelobigaaGreatDoorME
set_option linter.all false
namespace Go.Proofs.YtcpklndelobigaaGreatDoor
open Go.Proofs.YtcpklndelobigaaGreatDoor.Abs
set_option maxRecDepth 20000
set_option maxHeartbeats 4000000
theorem Ty.beq_refl (t:Ty):t.beq t=true:=by
 induction hN:t.sz using Nat.strongRecOn generalizing t with|_ N ih =>
 have:=bH Ty.beq Ty.zero Ty.zero t.kids t.kids rfl (fun i hi=>ih _ (by rw [← hN];exact l3 t i hi) _ rfl)
 rw [beq_eq,this];simp
theorem Ex.beq_refl (t:Ex):t.beq t=true:=by
 induction hN:t.sz using Nat.strongRecOn generalizing t with|_ N ih =>
 have:=bH Ex.beq Ex.zero Ex.zero t.kids t.kids rfl (fun i hi=>ih _ (by rw [← hN];exact nG t i hi) _ rfl)
 rw [tA,this];simp
theorem gA {α:Type} (p:α→α→Bool) (d:α) (l:List α) (h:∀ x,p x x=true):bw p l l=true:=bH p d d l l rfl (fun _ _=>h _)
theorem Ct.beq_refl (c:Ct):c.beq c=true:=by simp [Ct.beq,Ty.beq_refl]
theorem Co.beq_refl (c:Co):c.beq c=true:=by simp [Co.beq,Ty.beq_refl]
theorem Rf.beq_refl (c:Rf):c.beq c=true:=by simp [Rf.beq]
theorem Sm.beq_refl (c:Sm):c.beq c=true:=by simp [Sm.beq,gA Ct.beq Ct.zero c.ctors Ct.beq_refl]
theorem Tb.beq_refl (c:Tb):c.beq c=true:=by simp [Tb.beq,gA Co.beq Co.zero c.cols Co.beq_refl,gA Rf.beq Rf.zero c.refs Rf.beq_refl,Ex.beq_refl]
theorem Sc.beq_refl (c:Sc):c.beq c=true:=by simp [Sc.beq,gA Sm.beq Sm.zero c.sums Sm.beq_refl,gA Tb.beq Tb.zero c.tabs Tb.beq_refl]
section
variable {low:List UInt8→Bool} {sto:Ty→Bool} {chk:Ex→Int} {ms:List Md} {sums:List Sm}
theorem pU:(ce low sto chk ms sums).tabs.Perm (itP (stI low sto chk ms ms.length).bp.1 9 (stI low sto chk ms ms.length).out):=ib _ _ (Nat.le_refl _)
theorem ns:tx low sto chk ms sums=ce low sto chk ms sums∧(srI low sto chk ms ms.length).ps=(stI low sto chk ms ms.length).bp.2:=by
 have h:=vB (low:=low) (sto:=sto) (chk:=chk) (ms:=ms) ms.length
 refine ⟨?_,h.ps.symm⟩
 have hp:(dE (itP (stI low sto chk ms ms.length).bp.1 9 (stI low sto chk ms ms.length).out).length (itP (stI low sto chk ms ms.length).bp.1 9 (stI low sto chk ms ms.length).out)).Perm (itP (stI low sto chk ms ms.length).bp.1 9 (stI low sto chk ms ms.length).out):=ib _ _ (Nat.le_refl _)
 have hs:rq (dE (itP (stI low sto chk ms ms.length).bp.1 9 (stI low sto chk ms ms.length).out).length (itP (stI low sto chk ms ms.length).bp.1 9 (stI low sto chk ms ms.length).out)):=vW (h.nod.sublist (i6 _ _ 9))
 have h1:(itP (stI low sto chk ms ms.length).bp.1 9 (stI low sto chk ms ms.length).out).length≤(dt (stI low sto chk ms ms.length).bp.1 (itP (stI low sto chk ms ms.length).bp.1 9 (stI low sto chk ms ms.length).out)).length:=Nat.le_of_eq (by rw [yP nF])
 have h2:(itR 9 (srI low sto chk ms ms.length).out).length≤(b9 (itR 9 (srI low sto chk ms ms.length).out)).length:=Nat.le_of_eq (by rw [yI oz])
 have:=rm h (k:=9) (k':=9) h1 h2 hp hs
 unfold tx ce
 rw [this]
theorem zR {p:Tb→Prop} {s:SP} {doc:List UInt8} {d:Dc} {chk':Ex→Bool} {fst:List UInt8→Option Tb} (hd:p (d.tab.named d.name)) (h:∀ t∈s.out,p t):∀ t∈(dP low sto chk' fst doc d s).out,p t:=by
 unfold dP
 split
 · split
   · exact h
   · intro t ht
     rcases List.mem_append.1 ht with q|q
     · exact h t q
     · rw [List.mem_singleton] at q;subst q;exact hd
 · exact h
theorem su {p:Tb→Prop} {i:Nat} (hd:∀ k,k<(ms.getD i Md.zero).decls.length→p ((dcl ms i k).tab.named (dcl ms i k).name)) (h:∀ t∈(stI low sto chk ms i).out,p t):∀ k,k≤(ms.getD i Md.zero).decls.length→∀ t∈(stD low sto chk ms i k).out,p t
 | 0,_=>h
 | k+1,hk=>zR (hd k oq) (su hd h k oq)
theorem tz {p:Tb→Prop} (hd:∀ i,i<ms.length→∀ k,k<(ms.getD i Md.zero).decls.length→p ((dcl ms i k).tab.named (dcl ms i k).name)):∀ i,i≤ms.length→∀ t∈(stI low sto chk ms i).out,p t
 | 0,_=>fun t ht=>by cases ht
 | i+1,h=>su (hd i oq) (tz hd i oq) _ (Nat.le_refl _)
theorem xZ (hs:sums.length<1000000000) (hs2:∀ x∈sums,x.sm) (hd:∀ i,i<ms.length→∀ k,k<(ms.getD i Md.zero).decls.length→((dcl ms i k).tab.named (dcl ms i k).name).sm):(ce low sto chk ms sums).sm:=by
 refine ⟨hs,hs2,?_,fun t ht=>?_⟩
 · have:=(pU (low:=low) (sto:=sto) (chk:=chk) (ms:=ms) (sums:=sums)).length_eq
   have h9:=ow (low:=low) (sto:=sto) (chk:=chk) (ms:=ms) 9
   rw [this];omega
 · exact tz hd ms.length (Nat.le_refl _) t ((i6 _ _ 9).subset (pU.mem_iff.1 ht))
def Few (s:BP):Prop:=∀ p∈s.2,p.names.length≤2
theorem fT {doc:List UInt8} {d:Dc} {w:List (List UInt8)} {s:BP} (hw:w.length≤2) (h:Few s):Few (ak doc d w s):=by
 intro p hp
 rcases List.mem_append.1 hp with q|q
 · exact h p q
 · rw [List.mem_singleton] at q;subst q;exact hw
theorem g0 {a b:BP} {c:Bool} (ha:Few a) (hb:Few b):Few (bif c then a else b):=by cases c;exact hb;exact ha
theorem jO {n:List UInt8} {s:BP} (h:Few s):Few (aV n s):=h
theorem hP {doc:List UInt8} {d:Dc} {s:BP} (h:Few s):∀ i,Few (aP low sto doc d i s)
 | 0=>h
 | i+1=>g0 (g0 (jO (hP h i)) (hP h i)) (fT zq (g0 (jO (hP h i)) (hP h i)))
theorem jv {doc:List UInt8} {d:Dc} {s:BP} (h:Few s):∀ i,Few (bo doc d i s)
 | 0=>h
 | i+1=>g0 (fT zq (g0 (jv h i) (jO (jv h i)))) (g0 (jv h i) (jO (jv h i)))
theorem s8 {fst:List UInt8→Option Tb} {doc:List UInt8} {d:Dc} {s:BP} (h:Few s):∀ i,Few (aH fst doc d i s)
 | 0=>h
 | i+1=>by
  have h1:Few (bh d.name (aF (aH fst doc d i s).1 d.name || bM fst d i) (aH fst doc d i s).1,(aH fst doc d i s).2):=s8 h i
  exact g0 (fT zq h1) h1
theorem zf {chk':Ex→Bool} {fst:List UInt8→Option Tb} {doc:List UInt8} {d:Dc} {s:SP} (h:Few s.bp):Few (dP low sto chk' fst doc d s).bp:=by
 unfold dP
 split
 · split
   · exact fT zq h
   · have h1:Few (b0 fst doc d (bv doc d (bb low sto doc d s.bp))):=s8 (jv (g0 (fT zq (hP (g0 (fT zq h) h) _)) (hP (g0 (fT zq h) h) _)) _) _
     exact g0 (jO h1) h1
 · exact h
theorem yK {i:Nat} (h:Few (stI low sto chk ms i).bp):∀ k,Few (stD low sto chk ms i k).bp
 | 0=>h
 | k+1=>zf (yK h k)
theorem yS:∀ i,Few (stI low sto chk ms i).bp
 | 0=>fun p hp=>by cases hp
 | i+1=>yK (yS i) _
end
end Go.Proofs.YtcpklndelobigaaGreatDoor
