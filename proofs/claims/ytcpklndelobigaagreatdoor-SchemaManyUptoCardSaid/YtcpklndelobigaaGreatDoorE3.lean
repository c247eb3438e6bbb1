/- The first table of a name, in the program's map and by the reference's search. No condition. -/
import Derived.Test.YtcpklndelobigaaGreatDoorE2
set_option linter.all false
namespace Go.Proofs.YtcpklndelobigaaGreatDoor
open Go.Proofs.YtcpklndelobigaaGreatDoor.Abs
def ej (n:List UInt8) (ds:List Dc):Option Tb:=(ds.find? (fun d=>d.kind==1 && d.name==n)).map Dc.tab
def ay (n:List UInt8):List Md→Option Tb
 | []=>none
 | m::r=>match ej n m.decls with
  | some t=>some t
  | none=>ay n r
def orE {α:Type}:Option α→Option α→Option α
 | some x,_=>some x
 | none,y=>y
theorem eG (n:List UInt8) (m:Md) (r:List Md):ay n (m::r)=orE (ej n m.decls) (ay n r):=by
 rw [ay];cases ej n m.decls <;> rfl
theorem jw (n:List UInt8):∀ a b,ay n (a++b)=orE (ay n a) (ay n b)
 | [],b=>rfl
 | m::a,b=>by
  rw [List.cons_append,eG,eG,jw n a b];cases ej n m.decls <;> rfl
theorem i8 (n:List UInt8) (a b:List Dc):ej n (a++b)=orE (ej n a) (ej n b):=by
 unfold ej;rw [List.find?_append];cases a.find? _ <;> rfl
theorem bZ {α:Type} (l:List α) (d:α) (i:Nat) (h:i<l.length):l.take (i+1)=l.take i++[l.getD i d]:=by
 rw [bJ l d i h];exact List.take_succ_eq_append_getElem h
theorem mj (n:List UInt8) (d:Dc):ej n [d]=if d.kind=1∧d.name=n then some d.tab else none:=by
 unfold ej
 by_cases h:d.kind=1∧d.name=n
 · rw [if_pos h,List.find?_cons_of_pos (by simp [h])];rfl
 · rw [if_neg h,List.find?_cons_of_neg (by simpa using h)];rfl
theorem nx {n:List UInt8} {ds:List Dc} {k:Nat} (hk:k<ds.length) (h:ej n (ds.take k)=none) (hn:¬ ((ds.getD k Dc.zero).kind=1∧(ds.getD k Dc.zero).name=n)):ej n (ds.take (k+1))=none:=by
 rw [bZ ds Dc.zero k hk,i8,h,mj,if_neg hn];rfl
theorem uu {n:List UInt8} {ms:List Md} {i:Nat} (hi:i<ms.length) (h:ay n (ms.take i)=none) (hd:ej n (ms.getD i Md.zero).decls=none):ay n (ms.take (i+1))=none:=by
 rw [bZ ms Md.zero i hi,jw,h,eG,hd];rfl
theorem ye {n:List UInt8} {ms:List Md} {i k:Nat} (hi:i<ms.length) (hk:k<(ms.getD i Md.zero).decls.length) (h:ay n (ms.take i)=none) (hd:ej n ((ms.getD i Md.zero).decls.take k)=none)
 (h1:((ms.getD i Md.zero).decls.getD k Dc.zero).kind=1) (h2:((ms.getD i Md.zero).decls.getD k Dc.zero).name=n):ay n ms=some ((ms.getD i Md.zero).decls.getD k Dc.zero).tab:=by
 have e1:ms=ms.take i++(ms.getD i Md.zero::ms.drop (i+1)):=by
  rw [bJ ms _ _ hi,← List.drop_eq_getElem_cons hi,List.take_append_drop]
 have e2:(ms.getD i Md.zero).decls=(ms.getD i Md.zero).decls.take k++((ms.getD i Md.zero).decls.getD k Dc.zero::(ms.getD i Md.zero).decls.drop (k+1)):=by
  rw [bJ (ms.getD i Md.zero).decls _ _ hk,← List.drop_eq_getElem_cons hk,List.take_append_drop]
 have e3:ej n (ms.getD i Md.zero).decls=some ((ms.getD i Md.zero).decls.getD k Dc.zero).tab:=by
  have:=congrArg (ej n) e2
  rw [i8,hd,← List.singleton_append,i8,mj,if_pos ⟨h1,h2⟩] at this
  exact this
 have:=congrArg (ay n) e1
 rw [jw,h,eG,e3] at this
 exact this
abbrev Tm_:=List (List UInt8×Tb)
def tmf (_:List UInt8) (d:Dc) (T:Tm_):Tm_:=if ag d.name T=none∧d.kind=1 then bh d.name d.tab T else T
theorem td (n doc:List UInt8) (ds:List Dc) (T:Tm_):∀ k,k≤ds.length→ag n (dF tmf doc ds k T)=orE (ag n T) (ej n (ds.take k))
 | 0,_=>by
  show ag n T=orE (ag n T) none
  cases ag n T <;> rfl
 | k+1,h=>by
  have ih:=fun m=>td m doc ds T k oq
  rw [bZ ds Dc.zero k oq,i8,mj,dF]
  by_cases hc:ag (ds.getD k Dc.zero).name (dF tmf doc ds k T)=none∧(ds.getD k Dc.zero).kind=1
  · show ag n (if ag (ds.getD k Dc.zero).name (dF tmf doc ds k T)=none∧(ds.getD k Dc.zero).kind=1 then _ else _)=_
    rw [if_pos hc,ip]
    by_cases e:n=(ds.getD k Dc.zero).name
    · rw [if_pos e,if_pos ⟨hc.2,e.symm⟩]
      have:=hc.1
      rw [ih] at this
      rw [e]
      cases h1:ag (ds.getD k Dc.zero).name T with
      | some x=>rw [h1] at this;cases this
      | none =>
       rw [h1] at this
       have h2:ej (ds.getD k Dc.zero).name (ds.take k)=none:=this
       rw [h2];rfl
    · rw [if_neg e,if_neg (fun q=>e q.2.symm),ih n]
      cases ag n T <;> cases ej n (ds.take k) <;> rfl
  · show ag n (if ag (ds.getD k Dc.zero).name (dF tmf doc ds k T)=none∧(ds.getD k Dc.zero).kind=1 then _ else _)=_
    rw [if_neg hc,ih n]
    by_cases e:(ds.getD k Dc.zero).kind=1∧(ds.getD k Dc.zero).name=n
    · rw [if_pos e]
      have h1:ag (ds.getD k Dc.zero).name (dF tmf doc ds k T)≠none:=fun q=>hc ⟨q,e.1⟩
      rw [ih,e.2] at h1
      cases h2:ag n T with
      | some x=>rfl
      | none =>
       rw [h2] at h1
       cases h3:ej n (ds.take k) with
       | some x=>rfl
       | none=>rw [h3] at h1;exact absurd rfl h1
    · rw [if_neg e];cases ag n T <;> cases ej n (ds.take k) <;> rfl
theorem sJ (n:List UInt8) (ms:List Md):∀ i,i≤ms.length→ag n (mF tmf ms i [])=ay n (ms.take i)
 | 0,_=>rfl
 | i+1,h=>by
  rw [mF,td n _ _ _ _ (Nat.le_refl _),List.take_length,sJ n ms i oq,bZ ms Md.zero i oq,jw,eG]
  cases ay n (ms.take i) <;> cases ej n (ms.getD i Md.zero).decls <;> rfl
theorem y7 (ms:List Md):(fun n=>ag n (mF tmf ms ms.length []))=fun n=>ay n ms:=by
 funext n;rw [sJ n ms _ (Nat.le_refl _),List.take_length]
end Go.Proofs.YtcpklndelobigaaGreatDoor
