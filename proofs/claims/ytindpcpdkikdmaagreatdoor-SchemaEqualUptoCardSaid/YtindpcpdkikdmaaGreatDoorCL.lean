/- How great the generators' types and schemas are. No condition. -/
import Derived.Test.YtindpcpdkikdmaaGreatDoorCJ
set_option linter.all false
namespace Go.Proofs.YtindpcpdkikdmaaGreatDoor
open Go.Proofs.YtindpcpdkikdmaaGreatDoor.Abs
theorem szL_set (x:Ty):∀ (ks:List Ty) (j:Nat),Ty.szL (ks.set j x)≤Ty.szL ks+x.sz
 | [],j=>by simp [Ty.szL]
 | y::ks,0=>by simp only [List.set_cons_zero,Ty.szL];omega
 | y::ks,j+1=>by have:=szL_set x ks j;simp only [List.set_cons_succ,Ty.szL];omega
theorem opF_sz (names:List (List UInt8)) (kid:Nat→Ty) (b:Nat) (hk:∀ i,(kid i).sz≤b):∀ f i m ks,Ty.szL (opF names kid f i m ks).2≤Ty.szL ks+f * b
 | 0,i,m,ks=>by simp [opF]
 | f+1,i,m,ks=>by
  have e:(f+1) * b=f * b+b:=Nat.succ_mul _ _
  unfold opF
  split
  · have:=opF_sz names kid b hk f (i+1) (2 * m+1) (ks.set (idxS names (nms.getD i [])).toNat (kid i))
    have h2:=szL_set (kid i) ks (idxS names (nms.getD i [])).toNat
    have h3:=hk i
    omega
  · have:=opF_sz names kid b hk f (i+1) (2 * m) ks
    omega
def bo:Nat→Nat
 | 0=>30
 | n+1=>bd (n+1)+4 * bo n+30
theorem openT_sz (l:List Int):∀ d q,(openT l d q).sz≤bo d
 | 0,q=>by
  unfold openT;split
  · simp only [Ty.sz,szS,Ty.szL,List.length_nil,bo];omega
  · exact Nat.le_trans (closedT_sz l 0 q) dq
 | d+1,q=>by
  have ih:=openT_sz l d
  have hc:=closedT_sz l (d+1) q
  have he:=sz_eq (closedT l (d+1) q)
  unfold openT;split
  · simp only [Ty.sz,szS,Ty.szL,List.length_nil,bo];omega
  · split
    · have:=ih (q+1)
      simp only [Ty.sz,Ty.szL,bo];omega
    · split
      · have:=opF_sz (closedT l (d+1) q).names (fun i=>openT l d (q+3+i)) (bo d) (fun i=>ih _) 4 0 0 (closedT l (d+1) q).kids
        simp only [Ty.sz,bo];omega
      · simp only [bo];omega
theorem openT_small (l:List Int) (d q:Nat) (h:d≤2):(openT l d q).sz≤100000:=by
 refine Nat.le_trans (openT_sz l d q) ?_
 match d,h with
 | 0,_=>decide
 | 1,_=>decide
 | 2,_=>decide
def Tb.fine (t:Tb):Prop:=(0<t.cols.length∧t.cols.length≤4)∧(∀ c∈t.cols,c.type.sz≤20)∧t.key.length≤3∧t.refs.length≤3∧t.chk.sz≤100
def Sm.fine (s:Sm):Prop:=s.ctors.length≤3∧∀ c∈s.ctors,c.arg.sz≤20
def Sc.fine (s:Sc):Prop:=(0<s.sums.length∧s.sums.length≤3)∧(∀ x∈s.sums,x.fine)∧(0<s.tabs.length∧s.tabs.length≤3)∧∀ x∈s.tabs,x.fine
theorem sumsL_fine:∀ x∈sumsL,x.fine:=by
 intro x hx
 simp only [sumsL,List.mem_cons,List.not_mem_nil,or_false] at hx
 rcases hx with rfl|rfl <;> refine ⟨by decide,fun c hc=>?_⟩ <;> simp only [List.mem_cons,List.not_mem_nil,or_false] at hc <;> rcases hc with rfl|rfl <;> decide
theorem idsL_sz (i:Nat):(idsL.getD i Ty.zero).sz≤20:=by
 match i with
 | 0=>decide
 | 1=>decide
 | i+2=>simp [idsL,Ty.zero,Ty.sz,szS,Ty.szL]
theorem plC0_sz (l:List Int):∀ c∈plC0 l,c.type.sz≤20:=by
 intro c hc
 simp only [plC0,List.mem_cons,List.not_mem_nil,or_false] at hc
 rcases hc with rfl|rfl|rfl
 · exact idsL_sz _
 · decide
 · decide
theorem plC_sz (l:List Int):∀ c∈plC l,c.type.sz≤20:=by
 intro c hc
 unfold plC at hc
 split at hc
 · simp only [List.mem_append,List.mem_cons,List.not_mem_nil,or_false] at hc
   rcases hc with h|rfl
   · exact plC0_sz l c h
   · decide
 · exact plC0_sz l c hc
theorem plC_len (l:List Int):(plC l).length≤4:=by unfold plC plC0;split <;> simp
theorem plT_fine (l:List Int):(plT l).fine:=⟨⟨Nat.lt_of_lt_of_le dq (plC_pos l),plC_len l⟩,plC_sz l,(by decide:1≤3),(by decide:0≤3),(by decide:(litX 2 1).sz≤100)⟩
theorem itC_sz (l:List Int):∀ c∈itC l,c.type.sz≤20:=by
 intro c hc
 simp only [itC,List.mem_cons,List.not_mem_nil,or_false] at hc
 rcases hc with rfl|rfl|rfl|rfl
 · decide
 · decide
 · exact plC_sz l ((plC l).getD 0 Co.zero) (getD_mem (plC l) Co.zero 0 (Nat.lt_of_lt_of_le dq (plC_pos l)))
 · decide
theorem itX_sz (l:List Int):(itX l).sz≤100:=by unfold itX;split <;> decide
theorem itR_len (l:List Int):(itR l).length≤3:=by unfold itR;split <;> decide
theorem itT_fine (l:List Int) (r:List Rf) (h:r.length≤3):(itT l r).fine:=⟨⟨(by decide:0<4),(by decide:4≤4)⟩,itC_sz l,(by decide:1≤3),h,itX_sz l⟩
theorem shT_fine (l:List Int):(shT l).fine:=by
 refine ⟨⟨(by decide:0<3),(by decide:3≤4)⟩,fun c hc=>?_,?_,?_,(by decide:(litX 2 1).sz≤100)⟩
 · simp only [shT,shC,List.mem_cons,List.not_mem_nil,or_false] at hc
   rcases hc with rfl|rfl|rfl <;> decide
 · show (shK l).length≤3;unfold shK;split <;> decide
 · show (shR l).length≤3;unfold shR;split <;> decide
theorem scOf_fine (l:List Int):(scOf l).fine:=by
 unfold scOf
 split
 · refine ⟨⟨(by decide:0<2),(by decide:2≤3)⟩,sumsL_fine,⟨(by decide:0<1),(by decide:1≤3)⟩,fun x hx=>?_⟩
   simp only [List.mem_cons,List.not_mem_nil,or_false] at hx
   subst hx;exact itT_fine l [] dq
 · split
   · refine ⟨⟨(by decide:0<2),(by decide:2≤3)⟩,sumsL_fine,⟨(by decide:0<2),(by decide:2≤3)⟩,fun x hx=>?_⟩
     simp only [List.mem_cons,List.not_mem_nil,or_false] at hx
     rcases hx with rfl|rfl
     · exact itT_fine l _ (itR_len l)
     · exact plT_fine l
   · refine ⟨⟨(by decide:0<2),(by decide:2≤3)⟩,sumsL_fine,⟨(by decide:0<3),(by decide:3≤3)⟩,fun x hx=>?_⟩
     simp only [List.mem_cons,List.not_mem_nil,or_false] at hx
     rcases hx with rfl|rfl|rfl
     · exact itT_fine l _ (itR_len l)
     · exact plT_fine l
     · exact shT_fine l
theorem Sm.fine_sm {s:Sm} (h:s.fine):s.sm:=⟨Nat.lt_of_le_of_lt h.1 dq,fun c hc=>Nat.lt_of_le_of_lt (h.2 c hc) dq⟩
theorem Tb.fine_sm {t:Tb} (h:t.fine):t.sm:=⟨Nat.lt_of_le_of_lt h.1.2 dq,fun c hc=>Nat.lt_of_le_of_lt (h.2.1 c hc) dq,Nat.lt_of_le_of_lt h.2.2.1 dq,Nat.lt_of_le_of_lt h.2.2.2.1 dq,Nat.lt_of_le_of_lt h.2.2.2.2 dq⟩
theorem Sc.fine_sm {s:Sc} (h:s.fine):s.sm:=⟨Nat.lt_of_le_of_lt h.1.2 dq,fun x hx=>Sm.fine_sm (h.2.1 x hx),Nat.lt_of_le_of_lt h.2.2.1.2 dq,fun x hx=>Tb.fine_sm (h.2.2.2 x hx)⟩
theorem bT_fine {s:Sc} {l:List Int} (h:s.fine):(bT s l).fine:=by
 have h0:=h.2.2.1.1
 have:=pickI_bd l 1 ((s.tabs.length:Nat):Int) oq
 exact h.2.2.2 _ (getD_mem _ _ _ (by unfold bI;omega))
theorem mem_set {α:Type} {l:List α} {i:Nat} {x y:α} (h:y∈l.set i x):y∈l∨y=x:=List.mem_or_eq_of_mem_set h
theorem fillC_len:∀ n c,(fillC n c).length=c.length+n
 | 0,c=>rfl
 | n+1,c=>by rw [fillC,fillC_len n];simp;omega
theorem fillC_sz {b:Nat} (hb:20≤b):∀ n c,(∀ x∈c,x.type.sz≤b)→∀ x∈fillC n c,x.type.sz≤b
 | 0,c,h=>h
 | n+1,c,h=>by
  rw [fillC]
  refine fillC_sz hb n _ fun x hx=>?_
  simp only [List.mem_append,List.mem_cons,List.not_mem_nil,or_false] at hx
  rcases hx with hx|rfl
  · exact h x hx
  · exact Nat.le_trans (by decide:tInt.sz≤20) hb
theorem bCols_sm {s:Sc} {l:List Int} (q:Int) (h:s.fine):(bCols q s l).length≤20∧∀ c∈bCols q s l,c.type.sz≤100000:=by
 have ht:=bT_fine (l:=l) h
 have hc:∀ c∈(bT s l).cols,c.type.sz≤100000:=fun c hc=>Nat.le_trans (ht.2.1 c hc) dq
 have hl:=ht.1.2
 have hC:(bC s l).type.sz≤100000:=by
  have:=pickI_bd l 3 (((bT s l).cols.length:Nat):Int) (by have:=ht.1.1;omega)
  exact hc _ (getD_mem _ _ _ (by unfold bK;omega))
 unfold bCols
 split
 · refine ⟨by rw [List.length_set];omega,fun c hx=>?_⟩
   rcases mem_set hx with hx|rfl
   · exact hc c hx
   · exact hC
 · split
   · refine ⟨by rw [List.length_set];omega,fun c hx=>?_⟩
     rcases mem_set hx with hx|rfl
     · exact hc c hx
     · exact openT_small l 1 4 dq
   · split
     · exact ⟨by rw [fillC_len];omega,fillC_sz dq _ _ hc⟩
     · exact ⟨by omega,hc⟩
theorem bKey_len {s:Sc} {l:List Int} (q:Int) (h:s.fine):(bKey q s l).length≤20:=by
 have ht:=bT_fine (l:=l) h
 have hk:=ht.2.2.1
 unfold bKey
 split
 · simp;omega
 · split
   · split
     · rw [List.length_set];omega
     · omega
   · split
     · simp
     · omega
theorem bRefs_len {s:Sc} {l:List Int} (q:Int) (h:s.fine):(bRefs q s l).length≤20:=by
 have ht:=bT_fine (l:=l) h
 have hk:=ht.2.2.2.1
 unfold bRefs
 split
 · simp;omega
 · split
   · simp;omega
   · omega
theorem bChk_sz {s:Sc} {l:List Int} (q:Int) (h:s.fine):(bChk q s l).sz≤100:=by
 have ht:=bT_fine (l:=l) h
 unfold bChk
 split
 · decide
 · exact ht.2.2.2.2
theorem bSums_sm {s:Sc} {l:List Int} (q:Int) (h:s.fine):(bSums q s l).length≤20∧∀ x∈bSums q s l,x.sm:=by
 have hs:∀ x∈s.sums,x.sm:=fun x hx=>Sm.fine_sm (h.2.1 x hx)
 have hl:=h.1.2
 have h0:=h.1.1
 have hg:=hs _ (getD_mem s.sums Sm.zero 0 h0)
 have hn:∀ n,Sm.sm ⟨n,[]⟩:=fun n=>⟨by simp,fun c hc=>by cases hc⟩
 unfold bSums
 split
 · refine ⟨by rw [List.length_set];omega,fun c hx=>?_⟩
   rcases mem_set hx with hx|rfl
   · exact hs c hx
   · exact hg
 · split
   · refine ⟨by rw [List.length_set];omega,fun c hx=>?_⟩
     rcases mem_set hx with hx|rfl
     · exact hs c hx
     · refine ⟨by simp,fun c hc=>?_⟩
       simp only [List.mem_cons,List.not_mem_nil,or_false] at hc
       subst hc;exact Nat.lt_of_le_of_lt (openT_small l 1 5 dq) dq
   · split
     · refine ⟨by rw [List.length_set];omega,fun c hx=>?_⟩
       rcases mem_set hx with hx|rfl
       · exact hs c hx
       · exact hn _
     · exact ⟨by omega,hs⟩
theorem bent_sm {s:Sc} (l:List Int) (h:s.fine):(bentOf s l).sm:=by
 have hs:=bSums_sm (l:=l) (pickI l 0 14) h
 have hc:=bCols_sm (l:=l) (pickI l 0 14) h
 have hT:∀ x∈s.tabs,x.sm:=fun x hx=>Tb.fine_sm (h.2.2.2 x hx)
 have hl:=h.2.2.1.2
 refine ⟨Nat.lt_of_le_of_lt hs.1 dq,hs.2,?_,fun x hx=>?_⟩
 · show ((bTabs _ s l).set _ _).length<_
   rw [List.length_set];unfold bTabs;split
   · rw [List.length_append];simp;omega
   · omega
 · rcases mem_set hx with hx|rfl
   · unfold bTabs at hx
     split at hx
     · simp only [List.mem_append,List.mem_cons,List.not_mem_nil,or_false] at hx
       rcases hx with hx|rfl
       · exact hT x hx
       · exact Tb.fine_sm (bT_fine h)
     · exact hT x hx
   · exact ⟨Nat.lt_of_le_of_lt hc.1 dq,fun c hx=>Nat.lt_of_le_of_lt (hc.2 c hx) dq,Nat.lt_of_le_of_lt (bKey_len _ h) dq,Nat.lt_of_le_of_lt (bRefs_len _ h) dq,Nat.lt_of_le_of_lt (bChk_sz _ h) dq⟩
end Go.Proofs.YtindpcpdkikdmaaGreatDoor
