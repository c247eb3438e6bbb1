/- The heap in another order behind what is lent. No condition. -/
import Derived.Test.YtindpcpdkikdmaaGreatDoorAbse
set_option linter.all false
namespace Go.Proofs.YtindpcpdkikdmaaGreatDoor.Abs
open Go
theorem grows_ren (r:Nat→Nat) {l l':Loc} {x y:AObj} (h:x.grows l l' y):x.grows l l' (y.ren r):=by
 cases x <;> cases y <;> simp_all [AObj.grows,AObj.ren,renL_map]
section
variable {cx:Cx} {n m:Nat} {T:Tm} {h:AHeap} {Q:APost}
theorem wRenM (ks:List Nat) (T':Tm) (h':AHeap) (hpre:∀ o,o<m→ks[o]?=some o) (hnd:ks.Nodup) (hT:∀ p∈T,∀ o∈p.2.refs,o∈ks) (hO:∀ o∈ks,objOk ks h[o]?) (eT:renT (fun o=>ks.idxOf o) T=T') (eh:keepH (fun o=>ks.idxOf o) h ks=h') {d:Code}
 (hk:wpA cx n m d Q T' h'):wpA cx n m d Q T h:=by
 intro E B ρ a w hm hr
 subst eT eh
 let r:Nat→Nat:=fun o=>ks.idxOf o
 let ρ':Ren:=⟨fun i=>ρ.loc (ks.getD i 0),ρ.I⟩
 have hin:∀ o∈ks,∀ y,h[o]?=some y→y.isIter=false∧(keepH r h ks)[r o]?=some (y.ren r)∧ρ'.loc (r o)=ρ.loc o:=by
  intro o ho y hy
  have h1:=hO o ho
  rw [hy] at h1
  have hlt:ks.idxOf o<ks.length:=List.idxOf_lt_length_iff.2 ho
  have hge:ks[ks.idxOf o]=o:=List.getElem_idxOf hlt
  refine ⟨h1.1,?_,?_⟩
  · rw [keepH_map,List.getElem?_map,List.getElem?_eq_getElem hlt,hge]
    simp [hy,renO]
  · show ρ.loc (ks.getD (ks.idxOf o) 0)=ρ.loc o
    rw [List.getD_eq_getElem?_getD,List.getElem?_eq_getElem hlt,hge];rfl
 have hout:∀ (i:Nat) x,(keepH r h ks)[i]?=some x→∃ o y,o∈ks∧(∃ hi:i<ks.length,ks[i]=o)∧h[o]?=some y∧x=y.ren r∧ρ'.loc i=ρ.loc o:=by
  intro i x hx
  rw [keepH_map,List.getElem?_map] at hx
  cases hq:ks[i]? with
  | none=>rw [hq] at hx;simp at hx
  | some o =>
   rw [hq] at hx
   obtain ⟨hi,he⟩:=List.getElem?_eq_some_iff.1 hq
   have hmem:o∈ks:=he▸List.getElem_mem hi
   have h1:=hO o hmem
   cases hy:h[o]? with
   | none=>rw [hy] at h1;exact h1.elim
   | some y =>
    simp [hy,renO] at hx
    refine ⟨o,y,hmem,⟨hi,he⟩,hy,hx.symm,?_⟩
    show ρ.loc (ks.getD i 0)=ρ.loc o
    rw [List.getD_eq_getElem?_getD,hq];rfl
 have hwf:WF ρ' (keepH r h ks) w:=by
  refine ⟨?_,?_,?_,hr.wf.immlt,?_⟩
  · intro i x hx
    obtain ⟨o,y,h1,_,h3,rfl,h5⟩:=hout i x hx
    rw [h5]
    have h6:=hO o h1
    rw [h3] at h6
    exact (hr.wf.obj o y h3).ren2 h6.1 (fun _ _ h=>h) (fun o' ho' y' hy'=>hin o' (h6.2 o' ho') y' hy')
  · intro i x i' x' hx hx' hb hb' he
    obtain ⟨o,y,h1,⟨hi,e1⟩,h3,rfl,h5⟩:=hout i x hx
    obtain ⟨o',y',h1',⟨hi',e1'⟩,h3',rfl,h5'⟩:=hout i' x' hx'
    rw [ren_hasBlk,h5] at hb
    rw [ren_hasBlk,h5'] at hb'
    rw [h5,h5'] at he
    have:=hr.wf.inj o y o' y' h3 h3' hb hb' he
    exact nodup_inj hnd hi hi' (by rw [e1,e1',this])
  · intro i x hx hb
    obtain ⟨o,y,h1,_,h3,rfl,h5⟩:=hout i x hx
    rw [ren_hasBlk,h5] at hb
    rw [h5];exact hr.wf.lt o y h3 hb
  · intro i x j hx hb hI
    obtain ⟨o,y,h1,_,h3,rfl,h5⟩:=hout i x hx
    rw [ren_hasBlk,h5] at hb
    rw [h5] at hI ⊢
    rw [ren_muts]
    exact hr.wf.imm o y j h3 hb hI
 refine hk E B ρ' a w hm ⟨?_,hr.size,hr.defers,?_,hwf,?_,?_⟩
 · intro t
   rw [get_renT]
   exact (hr.tm t).ren2 (fun _ _ h=>h) (fun o ho y hy=>hin o (get_refs T t hT o ho) y hy)
 · intro g cs hg
   have le0:Le ρ [] w ρ' [] w:=⟨fun o x hx=>by simp at hx,fun b j hI=>⟨hI,rfl⟩⟩
   exact (hr.glob g cs hg).nil_mono le0
 · refine ⟨hr.fr.os,hr.fr.tape,hr.fr.output,hr.fr.size,hr.fr.keep,hr.fr.imm,hr.fr.new,?_⟩
   intro i x hx hb hlt
   obtain ⟨o,y,h1,_,h3,rfl,h5⟩:=hout i x hx
   rw [ren_hasBlk,h5] at hb
   rw [h5] at hlt ⊢
   exact hr.fr.own o y h3 hb hlt
 · refine ⟨fun o x hx=>?_,hr.le.imm⟩
   obtain ⟨x',h1,h2⟩:=hr.le.obj o x hx
   have hlt:o<m:=hm▸(List.getElem?_eq_some_iff.1 hx).1
   have hko:=hpre o hlt
   refine ⟨x'.ren r,?_,?_⟩
   · show (keepH r h ks)[o]?=_
     rw [keepH_map,List.getElem?_map,hko]
     simp [h1,renO]
   · have:ρ'.loc o=ρ.loc o:=by
      show ρ.loc (ks.getD o 0)=_
      rw [List.getD_eq_getElem?_getD,hko];rfl
     rw [this]
     exact grows_ren r h2
theorem wFrzS (t o:Nat) {es:List AVal} {off len sz fr:Nat} (es':List AVal) (hx:Tm.get T t=.own o off len) (ho:h[o]?=some (.arr sz es fr)) (htip:off+len=es.length) (hes:es.drop off=es') {d:Code}
 (hk:wpA cx n m d Q ((t,.imm es')::T) (h.set o (.arr sz es es.length))):wpA cx n m d Q T h:=by
 intro E B ρ a w hm hr
 obtain ⟨ρ1,g1,g2,g3,g4⟩:=freeze_obj hr.wf hr.fr ho
 have hr1:=hr.step g1 g2 g3
 refine hk E B ρ1 a w hm ⟨fun t'=>?_,hr1.size,hr1.defers,hr1.glob,hr1.wf,hr1.fr,hr1.le⟩
 simp only [Tm.get]
 by_cases e:t=t'
 · subst e
   rw [if_pos rfl,← hes]
   exact g4 off len _ htip (hx▸hr.tm t)
 · rw [if_neg e];exact hr1.tm t'
end
section
variable {P:Program} {ev:Operand→AVal} {op:Op} {h:AHeap}
theorem o_minI {a b:Int} {ats:List Nat} (hv:vBlt ev op=some (.min,ats,[.int .i64 a,.int .i64 b])):aop P h ev op=some (.int .i64 (min a b),h):=by
 rw [vBlt_spec hv]
 have e:(if b<a then b else a)=min a b:=by
  split <;> omega
 match ats with
 | []=>simp only [abuiltin,amin2,put1];rw [e]
 | _::_=>simp only [abuiltin,amin2,put1];rw [e]
end
end Go.Proofs.YtindpcpdkikdmaaGreatDoor.Abs
