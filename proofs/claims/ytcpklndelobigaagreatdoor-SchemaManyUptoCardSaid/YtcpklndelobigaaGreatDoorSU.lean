/- slices.Sorted(slices.Values(l)) at strings, in the abstract layer's words. Conditions: not empty, and the bytes can be had. -/
import Derived.Test.YtcpklndelobigaaGreatDoorSW
import Derived.Sort.KeysCollected
import Derived.Sort.Walk0
set_option linter.all false
namespace Go.Proofs.YtcpklndelobigaaGreatDoor
open Go.Proofs.YtcpklndelobigaaGreatDoor.Abs Go.RowKit Go.Shelf Go.Maps Go.Sort
def rU (x:List UInt8):List (List UInt8)→List (List UInt8)
 | []=>[x]
 | y::l=>bif aX y x then y::rU x l else x::y::l
def eq:List (List UInt8)→List (List UInt8)
 | []=>[]
 | x::l=>rU x (eq l)
theorem kd (x:List UInt8):∀ l,(rU x l).Perm (x::l)
 | []=>.refl _
 | y::l=>by
  simp only [rU]
  cases aX y x with
  | true=>exact ((kd x l).cons y).trans (.swap x y l)
  | false=>exact .refl _
theorem iL:∀ l,(eq l).Perm l
 | []=>.refl _
 | x::l=>(kd x _).trans ((iL l).cons x)
theorem wq (x y:List UInt8):aX x y=decide (x<y):=bytesLess_eq x y
theorem kL (x:List UInt8):∀ l:List (List UInt8),l.Pairwise (fun a b=>leB a b=true)→(rU x l).Pairwise (fun a b=>leB a b=true)
 | [],_=>by simp [rU]
 | y::l,h=>by
  simp only [rU,wq]
  have h':=List.pairwise_cons.1 h
  by_cases hlt:y<x
  · rw [decide_eq_true hlt]
    refine List.pairwise_cons.2 ⟨fun z hz=>?_,kL x l h'.2⟩
    have:=(kd x l).mem_iff.1 hz
    simp only [List.mem_cons] at this
    rcases this with rfl|hz
    · simp only [leB,decide_eq_true_eq];exact List.le_of_lt hlt
    · exact h'.1 z hz
  · rw [decide_eq_false hlt]
    have hxy:x≤y:=List.not_lt.1 hlt
    refine List.pairwise_cons.2 ⟨fun z hz=>?_,h⟩
    simp only [List.mem_cons] at hz
    simp only [leB,decide_eq_true_eq]
    rcases hz with rfl|hz
    · exact hxy
    · have:=h'.1 z hz
      simp only [leB,decide_eq_true_eq] at this
      exact List.le_trans hxy this
theorem jg:∀ l,(eq l).Pairwise (fun a b=>leB a b=true)
 | []=>.nil
 | x::l=>kL x _ (jg l)
theorem oN {l l':List (List UInt8)} (h:l.Perm l'):l.mergeSort (fun x y=>decide (x≤y))=eq l':=by
 have tr:∀ a b c:List UInt8,leB a b=true→leB b c=true→leB a c=true:=fun a b c h1 h2=>by simp only [leB,decide_eq_true_eq] at *;exact List.le_trans h1 h2
 have to:∀ a b:List UInt8,(leB a b || leB b a)=true:=fun a b=>by simp only [leB,Bool.or_eq_true,decide_eq_true_eq];exact List.le_total a b
 refine List.Perm.eq_of_pairwise (le:=fun a b=>leB a b=true) (fun a b _ _ h1 h2=>?_) (List.pairwise_mergeSort tr to l) (jg l') (((List.mergeSort_perm l leB).trans h).trans (iL l').symm)
 simp only [leB,decide_eq_true_eq] at h1 h2
 exact List.le_antisymm h1 h2
set_option maxRecDepth 100000 in
set_option maxHeartbeats 4000000 in
theorem jX (F:Fence) (n:Nat) (h7:F.fn 232) (h205:F.fn 230) (h231:F.fn 265) (hro:F.round=none) (hn:4≤n) (Bs:Nat) (sv:Value) (zs:List (List UInt8)) (hz1:zs.length+1≤maxLen) (hz2:(zs.length+1) * 16≤140737488351232) (w:World) (hBs:Bs<w.heap.size)
 (hc:w.cell? ⟨Bs,0,none⟩=some sv) (hI:Strs w.heap.size w sv zs) :
 CallsIn F n Tryz.prog 230 #[.func (.func 232) #[] #[.pointer (some ⟨Bs,0,none⟩)]] w fun e W'=>∃ v,e=.returned v ∧
  W'.ownsRow w.heap.size 9 1 v zs.length (zs.map encStr)∧Below w.heap.size w W':=by
 have h1:1≤n:=by omega
 refine callsIn_of_wp Tryz.func230 rfl h205 ?_ hro
 simp only [Tryz.ntmps230,List.size_toArray,List.length_cons,List.length_nil,Nat.reduceAdd,Nat.reduceSub,Array.replicate_succ,Array.replicate_zero,List.push_toArray,List.append_toArray,List.nil_append,List.cons_append]
 gi_wp2_with (gi_at_call 265;refine (kX F (n - 1) h7 h231 hro (by omega) Bs sv zs hz1 hz2 _ hBs hc hI).mono ?_;rintro e w' ⟨v,rfl,hrow,hb⟩)
 go_ret
 exact ⟨v,rfl,hrow,hb⟩
set_option maxRecDepth 100000 in
set_option maxHeartbeats 4000000 in
theorem kT (F:Fence) (n:Nat) (h7:F.fn 232) (h166:F.fn 179) (h205:F.fn 230) (h206:F.fn 231) (h231:F.fn 265) (hro:F.round=none) (hn:5≤n)
 (hs206:∀ (blk off cap:Nat) (ss:List (List UInt8)) (W:World),Holds encStr W blk off ss.toArray→blk<W.heap.size→ss.length<4611686018427387904 →
  CallsIn F (n - 1) Tryz.prog 231 #[.slice (some ⟨blk,off,none⟩) ss.length cap] W fun e w'=>e=.returned (.tuple #[])∧∃ k os,w'=grow (putRow encStr (Sort.ahead W k) blk off (ss.mergeSort fun x y=>decide (x≤y)).toArray) os)
 (hs0:∀ (p:Option Addr) (cap:Nat) (W:World),CallsIn F (n - 1) Tryz.prog 231 #[.slice p 0 cap] W fun e w'=>e=.returned (.tuple #[])∧w'=W) (Bs:Nat) (sv:Value) (zs:List (List UInt8)) (hz1:zs.length+1≤maxLen) (hz2:(zs.length+1) * 16≤140737488351232) (w:World) (hBs:Bs<w.heap.size)
 (hc:w.cell? ⟨Bs,0,none⟩=some sv) (hI:Strs w.heap.size w sv zs) :
 CallsIn F n Tryz.prog 179 #[.func (.func 232) #[] #[.pointer (some ⟨Bs,0,none⟩)]] w fun e W'=>∃ v,e=.returned v ∧
  W'.ownsRow w.heap.size 9 1 v zs.length ((zs.mergeSort (fun x y=>decide (x≤y))).map encStr)∧Below w.heap.size w W':=by
 have h1:1≤n:=by omega
 refine callsIn_of_wp Tryz.func179 rfl h166 ?_ hro
 simp only [Tryz.ntmps179,List.size_toArray,List.length_cons,List.length_nil,Nat.reduceAdd,Nat.reduceSub,Array.replicate_succ,Array.replicate_zero,List.push_toArray,List.append_toArray,List.nil_append,List.cons_append]
 gi_wp2_with (gi_at_call 230;refine (jX F (n - 1) h7 h205 h231 hro (by omega) Bs sv zs hz1 hz2 _ hBs hc hI).mono ?_;rintro e W ⟨v,rfl,hrow,hb⟩)
 rcases hrow.2 with ⟨rfl,hz⟩|⟨gb,cap,cur,rfl,hbase,hgb,r1,r2,r3,r4⟩
 · have hss:zs=[]:=List.eq_nil_of_length_eq_zero hz
   subst hss
   gi_wp2_with (gi_at_call 231;refine (hs0 none 0 W).mono ?_;rintro e w' ⟨rfl,rfl⟩)
   go_ret
   exact ⟨_,rfl,by simpa using hrow,hb⟩
 · have hH:Holds encStr W gb 0 zs.toArray:=holds_of_block hgb (by simpa using r4)
   have hgl:gb<W.heap.size:=(Array.getElem?_eq_some_iff.1 hgb).1
   have hsz:zs.length<4611686018427387904:=by omega
   have cS:=hs206 gb 0 cap zs W hH hgl hsz
   gi_wp2_with (gi_at_call 231;refine cS.mono ?_;rintro e w' ⟨rfl,nn,os,rfl⟩)
   go_ret
   exact ⟨_,rfl,ownsRow_sorted (by simp) hbase hgb r1 r2 r3,hb.grown (grownBy_sorted _) hb.size (fun j hj=>by cases hj;exact hbase)⟩
theorem oJ (Bs:Nat) (sv:Value) (zs:List (List UInt8)) (hz1:zs.length+1≤maxLen) (hz2:(zs.length+1) * 16≤140737488351232) (w:World) (hBs:Bs<w.heap.size)
 (hc:w.cell? ⟨Bs,0,none⟩=some sv) (hI:Strs w.heap.size w sv zs) :
 Calls Tryz.prog 179 #[.func (.func 232) #[] #[.pointer (some ⟨Bs,0,none⟩)]] w fun e W'=>∃ v,e=.returned v ∧
  W'.ownsRow w.heap.size 9 1 v zs.length ((eq zs).map encStr)∧Below w.heap.size w W':=by
 rw [← oN (List.Perm.refl zs)]
 exact callsIn_wide.1 (kT Fence.wide 5 trivial trivial trivial trivial trivial rfl (by omega)
  (fun blk off cap ss W hH hblk hsz=>callsIn_wide.2 (AnyM.slices_Sort_string Tryz.sort206 blk off cap ss W hH hblk hsz)) (fun p cap W=>callsIn_wide.2 (AnyM.slices_Sort_string_none Tryz.sort206 p cap W)) Bs sv zs hz1 hz2 w hBs hc hI)
end Go.Proofs.YtcpklndelobigaaGreatDoor
