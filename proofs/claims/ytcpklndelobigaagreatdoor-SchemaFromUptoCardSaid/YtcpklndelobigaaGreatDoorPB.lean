/- Occurrences, whole, Valid and Numbers of the reference. Conditions: the parts are formed; sizes that can be had. -/
import Derived.Test.YtcpklndelobigaaGreatDoorPA
set_option linter.all false
namespace Go.Proofs.YtcpklndelobigaaGreatDoor
open Go.Proofs.YtcpklndelobigaaGreatDoor.Abs
set_option maxRecDepth 20000
set_option maxHeartbeats 4000000
theorem xU:∀ (l:List Ty) (k:Nat),Ty.szL (l.take k)<=Ty.szL l
 | [],k=>by simp
 | t::l,0=>by simp [Ty.szL]
 | t::l,k+1=>by have:=xU l k;simp only [List.take_succ_cons,Ty.szL];omega
structure Occ where
 n:Int
 row:Bool
 names:List (List UInt8)
def Occ.zero:Occ:=⟨0,false,[]⟩
def Occ.v (o:Occ):aa:=.agg [.int .i64 o.n,.bool o.row,.imm (o.names.map .str)]
@[simp] theorem Jh (h:ae) (o:Occ):o.v.frz h=o.v:=by simp [Occ.v]
@[simp] theorem H8 (k:Nat) (o:Occ):o.v.bel k=true:=by simp [Occ.v]
@[simp] theorem Gj (o:Occ):o.v.owns=[]:=by simp [Occ.v]
@[simp] theorem MO (h:ae) (l:List Occ):aQ h (l.map Occ.v)=l.map Occ.v:=a7 h (fun o=>Jh h o) l
@[simp] theorem MI (k:Nat) (l:List Occ):aM k (l.map Occ.v)=true:=ch k (fun o=>H8 k o) l
@[simp] theorem KX (l:List Occ):aG (l.map Occ.v)=[]:=b4 (fun o=>Gj o) l
theorem EO (h:ae) (a b:List aa):aQ h (a++b)=aQ h a++aQ h b:=by rw [b5,b5,b5,List.map_append]
mutual
def aW:Ty->List Occ
 | .mk k _ n l ks=>((if k=6 then [⟨n,false,[]⟩] else [])++ca ks)++(if k=5/\n≠0 then [⟨n,true,l⟩] else [])
def ca:List Ty->List Occ
 | []=>[]
 | t::l=>aW t++ca l
end
def MB (t:Ty):List Occ:=if t.kind=6 then [⟨t.n,false,[]⟩] else []
def Ll (t:Ty):List Occ:=if t.kind=5/\t.n≠0 then [⟨t.n,true,t.names⟩] else []
theorem Jt (t:Ty):aW t=(MB t++ca t.kids)++Ll t:=by cases t;simp only [aW,MB,Ll,Ty.kind,Ty.n,Ty.names,Ty.kids];rfl
theorem so (t:Ty):∀ l,ca (l++[t])=ca l++aW t
 | []=>by simp [ca]
 | x::l=>by simp only [List.cons_append,ca,so t l,List.append_assoc]
theorem yR (l:List Ty) (k:Nat) (h:k<l.length):ca (l.take (k+1))=ca (l.take k)++aW (l.getD k Ty.zero):=by rw [sq l k h,so]
mutual
theorem kQ:∀ t:Ty,(aW t).length<=t.sz
 | .mk k x n l ks=>by
  have:=oI ks;simp only [aW,List.length_append,Ty.sz];by_cases h6:k=6
  . rw [if_pos h6,if_neg oq];simp;omega
  . rw [if_neg h6];split <;> simp <;> omega
theorem oI:∀ l:List Ty,(ca l).length<=Ty.szL l
 | []=>by simp [ca]
 | t::l=>by have:=kQ t;have:=oI l;simp only [ca,List.length_append,Ty.szL];omega
end
mutual
theorem qx:∀ (t:Ty) (o:Occ),o∈aW t->o.names.length<=t.sz
 | .mk k x n l ks,o,h=>by
  simp only [aW,List.mem_append,Ty.sz] at h ⊢;rcases h with (h|h)|h
  . split at h
    . simp at h;subst h;simp
    . simp at h
  . have:=oY ks o h;omega
  . split at h
    . simp at h;subst h;have:=nY l;simp;omega
    . simp at h
theorem oY:∀ (l:List Ty) (o:Occ),o∈ca l->o.names.length<=Ty.szL l
 | [],o,h=>by simp [ca] at h
 | t::l,o,h=>by
  simp only [ca,List.mem_append,Ty.szL] at h ⊢;rcases h with h|h
  . have:=qx t o h;omega
  . have:=oY l o h;omega
end
theorem KU (t:Ty) (i:Nat):((aW t).getD i Occ.zero).names.length<=t.sz:=by
 by_cases h:i<(aW t).length
 . rw [List.getD_eq_getElem?_getD,List.getElem?_eq_getElem h];exact qx t _ (List.getElem_mem h)
 . rw [List.getD_eq_getElem?_getD,List.getElem?_eq_none oq];simp [Occ.zero]
theorem fS (t:Ty) (k:Nat):(ca (t.kids.take k)).length<=Ty.szL t.kids:=Nat.le_trans (oI _) (xU _ _)
def OkO (o:Occ):Prop:=(o.row=false/\o.n<=10/\o.names=[])\/(o.row=true/\10<o.n/\o.names=rn o.n)
mutual
theorem Bd:∀ t:Ty,Vp t->∀ o∈aW t,OkO o
 | .mk k x n l ks,h,o,ho=>by
  simp only [aW,List.mem_append] at ho;rcases ho with (ho|ho)|ho
  . split at ho
    . rename_i h6;rw [List.mem_singleton] at ho;subst ho;exact .inl ⟨rfl,h.1.v h6,rfl⟩
    . cases ho
  . exact yl ks h.2 o ho
  . split at ho
    . rename_i h5;rw [List.mem_singleton] at ho;subst ho;have:=h.1.w h5;exact .inr ⟨rfl,this.1,this.2⟩
    . cases ho
theorem yl:∀ l:List Ty,VpL l->∀ o∈ca l,OkO o
 | [],_,o,ho=>by cases ho
 | t::l,h,o,ho=>by
  simp only [ca,List.mem_append] at ho;rcases ho with ho|ho
  . exact Bd t h.1 o ho
  . exact yl l h.2 o ho
end
theorem GH {t:Ty} (h:Vp t) {i:Nat} (hi:i<(aW t).length):OkO ((aW t).getD i Occ.zero):=by
 rw [List.getD_eq_getElem?_getD,List.getElem?_eq_getElem hi];exact Bd t h _ (List.getElem_mem hi)
theorem Gk {a b:Occ} (ha:OkO a) (hb:OkO b) (h:a.n=b.n):a.row=b.row/\(a.names==b.names)=true:=by
 rcases ha with ha|ha <;> rcases hb with hb|hb
 . rw [ha.1,hb.1,ha.2.2,hb.2.2];exact ⟨rfl,rfl⟩
 . have:=ha.2.1;have:=hb.2.1;omega
 . have:=ha.2.1;have:=hb.2.1;omega
 . rw [ha.1,hb.1,ha.2.2,hb.2.2,h];exact ⟨rfl,by simp⟩
noncomputable def P6:Code:=aF Tryz.f254
abbrev pQ (t:Ty)(k:Nat):=((([]:List (Occ))++[(Occ.mk (t.n) false [])])++ca (t.kids.take k))
abbrev pE (t:Ty)(k:Nat):=(([]:List (Occ))++ca (t.kids.take k))
abbrev sT (t:Ty)(k:Nat):=(t.kids.getD k Ty.zero)
abbrev sJ (t:Ty):=(Occ.mk (t.n) true t.names)
abbrev Br (t:Ty):List aa:=[.agg [.int .i64 (t.n),.bool false,.full []]]
abbrev n0 :=([]:List (Occ))
theorem Di {p:Prop} (h:p:=by first|(simp;done)|(have:=fS t k;have:=fv t k oq;have:=kQ (sT t k);simp only [List.length_append,List.length_cons,List.length_nil];omega)|(have:=fS t k;simp only [List.length_append,List.length_cons,List.length_nil];omega)):p:=h
theorem IJ {p:Prop} (h:p:=by first|(simp;done)|(have:=fS t k;have:=fv t k oq;have:=kQ (t.kids.getD k Ty.zero);simp only [List.length_append,List.length_cons,List.length_nil];omega)|(have:=fS t k;simp only [List.length_append,List.length_cons,List.length_nil];omega)):p:=h
theorem sQ {p:Prop} (h:p:=by first|omega|exact fv t k oq):p:=h
theorem jF {p:Prop} (h:p:=by simp [Ty.v,EO,Occ.v]):p:=h
theorem jD {p:Prop} (h:p:=by simp [Ty.v,eZ]):p:=h
theorem Im {p:Prop} (h:p:=by rw [yR _ _ oq,List.append_assoc]):p:=h
theorem Ad {p:Prop} (h:p:=by simp [ax.belO,-List.map_append]):p:=h
theorem t7 (t:Ty) (hs:t.sz<100000000):af cx 254 [Ty.v t] (.imm ((aW t).map Occ.v)):=by
 induction hN:t.sz using Nat.strongRecOn generalizing t with|_ N ih =>
 have ihO:∀ t':Ty,t'.sz<t.sz->af cx 254 [t'.v] (.imm ((aW t').map Occ.v)):=fun t' h1=>ih _ (by rw [<- hN];exact h1) t' (Nat.lt_trans h1 hs) rfl
 have hz1:=jh t;have hz2:=iT t;have hz3:=re t;refine am (cx:=cx) 46 0 [(ResultVar.tmp 2)] Tryz.func254 rfl rfl rfl rfl rfl zq ?_;show wpA cx 46 0 (at_ P6 []) _ _ _;refine zZ (fun _=>[(0,Ty.v t)]) (fun _=>[]) ?_ ?_;apply zW 2 (mT [(1,.ptr 0 0)] [0]) (mH [] [t.bx]);apply zW 1 (mU [(3,.full [])]) id;refine jZ 3 3 dq kq ?_;apply zZ (mK 1 [] []) (mO [(1,.arr 3 (n0.map Occ.v) 0)]);apply ao;apply zW 3 (mU [(7,.bool ((t.kind)==6))]) id;by_cases hb1:(t.kind)=6;apply qt (beq_iff_eq.2 hb1);apply qo;apply qr 5;refine qY (cl (o:=1) (len:=0) (l:=n0) (xs:=(Br t)) (enc:=Occ.v) (sz:=3) (fr:=0) (x:=(.full (Br t))) kq eV jc eV rfl kq rfl iM kq ⟨by decide,ep⟩ kq Di Di) ?_ ?_ ?_;apply qR 1 [(1,.ptr 0 0),(3,.own 1 0 (n0.length+1))] [t.bx,.arr 3 (n0.map Occ.v++(Br t)) 0];refine fA 1 (sz:=3) (fr:=0) (es:=(n0.map Occ.v++(Br t))) ((n0++[(Occ.mk (t.n) false [])]).map Occ.v) kq jD jF ?_;refine ky 3 (.own 1 0 (n0.length+1)) (.own 1 0 (n0++[(Occ.mk (t.n) false [])]).length) kq zq ?_;apply zZ (mK 1 [] []) (mO [(1,.arr 3 ((n0++[(Occ.mk (t.n) false [])]).map Occ.v) 0)]);apply ao;apply zW 1 (mU [(4,.int .i64 0)]) id;apply qB 0;refine aU (σ:=Nat) (fun k=>[(1,.ptr 0 0),(3,.own 1 0 ((([]:List (Occ))++[(Occ.mk (t.n) false [])])++ca (t.kids.take k)).length),(4,.int .i64 ((k:Nat):Int))]) (fun k=>[t.bx,.arr 3 (((([]:List (Occ))++[(Occ.mk (t.n) false [])])++ca (t.kids.take k)).map Occ.v) 0]) (fun k=>k<=t.kids.length) (fun k=>t.kids.length - k) 0 kq (by exact Nat.zero_le _) ⟨⟨kq,(Eq.trans (b:=.own 1 0 (([]:List (Occ))++[(Occ.mk (t.n) false [])]).length) kq (by simp [ca])),kq,trivial⟩,az,by simp,(Eq.trans (b:=[t.bx,.arr 3 ((([]:List (Occ))++[(Occ.mk (t.n) false [])]).map Occ.v) 0]) kq (by simp [ca])),Ad⟩ ?_;rintro k hk;apply ao;apply zV 3;refine qy (aw (l:=t.kids) (enc:=Ty.enc) kq dC) ?_ ?_ ?_;apply zR 1 (mU [(18,.bool (decide (((k:Nat):Int)<((t.kids.length:Nat):Int))))]) id;by_cases hb2:((k:Nat):Int)<((t.kids.length:Nat):Int);apply qt (decide_eq_true hb2);apply qK;apply zZ (mT [] [18]) id;apply ao;apply qB 1;apply qo;apply qr 4;refine qy ((av (k:=.i64) (l:=t.kids) (enc:=Ty.enc) (i:=((k:Nat):Int)) Ty.zero kq dC gF dN sQ sQ).trans (congrArg (fun cs=>some (aa.pimm cs 0,_)) (db (sT t k)))) ?_ ?_ ?_;apply qr 1;refine qP (ihO (sT t k) sQ) jF aH jD kq ?_;refine qY (aP (o:=1) (len:=(((([]:List (Occ))++[(Occ.mk (t.n) false [])])++ca (t.kids.take k)).length)) (l:=((([]:List (Occ))++[(Occ.mk (t.n) false [])])++ca (t.kids.take k))) (xs:=(aW (t.kids.getD k Ty.zero))) (enc:=Occ.v) (sz:=3) (fr:=0) (x:=(.imm ((aW (t.kids.getD k Ty.zero)).map Occ.v))) kq eV jc eV rfl kq rfl iM kq ⟨by decide,ep⟩ (fun _=>rfl) IJ IJ) ?_ ?_ ?_;apply qr 1;apply qe;apply ag;apply ab;refine zZ (fun _=>[(1,.ptr 0 0),(3,.own 1 0 ((pQ t k)++(aW (sT t k))).length),(4,nI k)]) (fun _=>[t.bx,.arr 3 (((pQ t k)++(aW (sT t k))).map Occ.v) 0]) ?_ ?_;apply qo;apply qr 1;refine qy (aA (a:=((k:Nat):Int)) (b:=1) kq sQ sQ) ?_ ?_ ?_;apply qr 1;apply qe;refine ab ⟨k+1,?_,?_,⟨⟨kq,(hT Im kq),kq,trivial⟩,az,by simp,(hT Im kq),Ad⟩⟩
 . omega
 . omega
 iterate 22 kernel_rfl
 apply qf (decide_eq_false hb2);refine aK 0 kq kq ?_;apply ac;apply ac;apply au;apply ab;apply zZ (mT [] [4,18]) id;apply ao;apply zV 4;by_cases hb3:(t.kind)=5;apply zm [31,32] (beq_iff_eq.2 hb3);apply zR 4 (mU [(36,.bool ((t.n) != 0))]) id;by_cases hb4:(t.n)=0;refine qf (x:=((t.n) != 0)) (bne_eq_false_iff_eq.2 hb4) ?_ ?_;apply qK;apply zZ (mT [] [1,36]) id;refine zW 2 (fun _=>[(2,.own 1 0 (pQ t k).length)]) (fun _=>[t.bx,.arr 3 ((pQ t k).map Occ.v) 0]) ?_ ?_;refine bq kq ?_;refine cq (l:=[.own 1 0 ((([]:List (Occ))++[(Occ.mk (t.n) false [])])++ca (t.kids.take k)).length]) (.inr rfl) kq ?_
 rotate_left
 iterate 4 kernel_rfl
 refine qt (x:=((t.n) != 0)) (bne_iff_ne.2 hb4) ?_ ?_;apply qo;apply qr 7;refine qY (aP (o:=1) (len:=((pQ t k).length)) (l:=(pQ t k)) (xs:=[(sJ t)]) (enc:=Occ.v) (sz:=3) (fr:=0) (x:=(.full [.agg [.int .i64 (t.n),.bool true,.imm (t.names.map aa.str)]])) kq eV jc eV rfl kq rfl iM kq ⟨by decide,ep⟩ (fun _=>rfl) Di Di) ?_ ?_ ?_;apply qR 1 [(3,.own 1 0 ((pQ t k)++[(sJ t)]).length)] [t.bx,.arr 3 (((pQ t k)++[(sJ t)]).map Occ.v) 0];refine zW 2 (fun _=>[(2,.own 1 0 ((pQ t k)++[(sJ t)]).length)]) (fun _=>[t.bx,.arr 3 (((pQ t k)++[(sJ t)]).map Occ.v) 0]) ?_ ?_;refine bq kq ?_;refine cq (l:=[.own 1 0 (((([]:List (Occ))++[(Occ.mk (t.n) false [])])++ca (t.kids.take k))++[(Occ.mk (t.n) true t.names)]).length]) (.inr rfl) kq ?_
 rotate_left
 iterate 9 kernel_rfl
 apply zm [31,32] (beq_eq_false_iff_ne.2 hb3);apply zR 4 (mU [(36,.bool false)]) id;refine fM kq kq ?_;apply qK;apply zZ (mT [] [1,36]) id;refine zW 2 (fun _=>[(2,.own 1 0 (pQ t k).length)]) (fun _=>[t.bx,.arr 3 ((pQ t k).map Occ.v) 0]) ?_ ?_;refine bq kq ?_;refine cq (l:=[.own 1 0 ((([]:List (Occ))++[(Occ.mk (t.n) false [])])++ca (t.kids.take k)).length]) (.inr rfl) kq ?_
 rotate_left
 iterate 25 kernel_rfl
 apply qf (beq_eq_false_iff_ne.2 hb1);apply qK;apply zZ (mT [] [7]) id;apply ao;apply zW 1 (mU [(4,.int .i64 0)]) id;apply qB 0;refine aU (σ:=Nat) (fun k=>[(1,.ptr 0 0),(3,.own 1 0 (([]:List (Occ))++ca (t.kids.take k)).length),(4,.int .i64 ((k:Nat):Int))]) (fun k=>[t.bx,.arr 3 ((([]:List (Occ))++ca (t.kids.take k)).map Occ.v) 0]) (fun k=>k<=t.kids.length) (fun k=>t.kids.length - k) 0 kq (by exact Nat.zero_le _) ⟨⟨kq,(Eq.trans (b:=.own 1 0 0) kq (by simp [ca])),kq,trivial⟩,az,by simp,(Eq.trans (b:=[t.bx,.arr 3 (([]:List (Occ)).map Occ.v) 0]) kq (by simp [ca])),Ad⟩ ?_;rintro k hk;apply ao;apply zV 3;refine qy (aw (l:=t.kids) (enc:=Ty.enc) kq dC) ?_ ?_ ?_;apply zR 1 (mU [(18,.bool (decide (((k:Nat):Int)<((t.kids.length:Nat):Int))))]) id;by_cases hb5:((k:Nat):Int)<((t.kids.length:Nat):Int);apply qt (decide_eq_true hb5);apply qK;apply zZ (mT [] [18]) id;apply ao;apply qB 1;apply qo;apply qr 4;refine qy ((av (k:=.i64) (l:=t.kids) (enc:=Ty.enc) (i:=((k:Nat):Int)) Ty.zero kq dC gF dN sQ sQ).trans (congrArg (fun cs=>some (aa.pimm cs 0,_)) (db (sT t k)))) ?_ ?_ ?_;apply qr 1;refine qP (ihO (sT t k) sQ) jF aH jD kq ?_;refine qY (aP (o:=1) (len:=((([]:List (Occ))++ca (t.kids.take k)).length)) (l:=(([]:List (Occ))++ca (t.kids.take k))) (xs:=(aW (t.kids.getD k Ty.zero))) (enc:=Occ.v) (sz:=3) (fr:=0) (x:=(.imm ((aW (t.kids.getD k Ty.zero)).map Occ.v))) kq eV jc eV rfl kq rfl iM kq ⟨by decide,ep⟩ (fun _=>rfl) IJ IJ) ?_ ?_ ?_;apply qr 1;apply qe;apply ag;apply ab;refine zZ (fun _=>[(1,.ptr 0 0),(3,.own 1 0 ((pE t k)++(aW (sT t k))).length),(4,nI k)]) (fun _=>[t.bx,.arr 3 (((pE t k)++(aW (sT t k))).map Occ.v) 0]) ?_ ?_;apply qo;apply qr 1;refine qy (aA (a:=((k:Nat):Int)) (b:=1) kq sQ sQ) ?_ ?_ ?_;apply qr 1;apply qe;refine ab ⟨k+1,?_,?_,⟨⟨kq,(Eq.trans (b:=.own 1 0 ((([]:List (Occ))++ca (t.kids.take k))++(aW (t.kids.getD k Ty.zero))).length) kq Im),kq,trivial⟩,az,by simp,(Eq.trans (b:=[t.bx,.arr 3 (((([]:List (Occ))++ca (t.kids.take k))++(aW (t.kids.getD k Ty.zero))).map Occ.v) 0]) kq Im),Ad⟩⟩
 . omega
 . omega
 iterate 22 kernel_rfl
 apply qf (decide_eq_false hb5);refine aK 0 kq kq ?_;apply ac;apply ac;apply au;apply ab;apply zZ (mT [] [4,18]) id;apply ao;apply zV 4;by_cases hb6:(t.kind)=5;apply zm [31,32] (beq_iff_eq.2 hb6);apply zR 4 (mU [(36,.bool ((t.n) != 0))]) id;by_cases hb7:(t.n)=0;refine qf (x:=((t.n) != 0)) (bne_eq_false_iff_eq.2 hb7) ?_ ?_;apply qK;apply zZ (mT [] [1,36]) id;refine zW 2 (fun _=>[(2,.own 1 0 (pE t k).length)]) (fun _=>[t.bx,.arr 3 ((pE t k).map Occ.v) 0]) ?_ ?_;refine bq kq ?_;refine cq (l:=[.own 1 0 (([]:List (Occ))++ca (t.kids.take k)).length]) (.inr rfl) kq ?_
 rotate_left
 iterate 4 kernel_rfl
 refine qt (x:=((t.n) != 0)) (bne_iff_ne.2 hb7) ?_ ?_;apply qo;apply qr 7;refine qY (aP (o:=1) (len:=((pE t k).length)) (l:=(pE t k)) (xs:=[(sJ t)]) (enc:=Occ.v) (sz:=3) (fr:=0) (x:=(.full [.agg [.int .i64 (t.n),.bool true,.imm (t.names.map aa.str)]])) kq eV jc eV rfl kq rfl iM kq ⟨by decide,ep⟩ (fun _=>rfl) Di Di) ?_ ?_ ?_;apply qR 1 [(3,.own 1 0 ((pE t k)++[(sJ t)]).length)] [t.bx,.arr 3 (((pE t k)++[(sJ t)]).map Occ.v) 0];refine zW 2 (fun _=>[(2,.own 1 0 ((pE t k)++[(sJ t)]).length)]) (fun _=>[t.bx,.arr 3 (((pE t k)++[(sJ t)]).map Occ.v) 0]) ?_ ?_;refine bq kq ?_;refine cq (l:=[.own 1 0 ((([]:List (Occ))++ca (t.kids.take k))++[(Occ.mk (t.n) true t.names)]).length]) (.inr rfl) kq ?_
 rotate_left
 iterate 9 kernel_rfl
 apply zm [31,32] (beq_eq_false_iff_ne.2 hb6);apply zR 4 (mU [(36,.bool false)]) id;refine fM kq kq ?_;apply qK;apply zZ (mT [] [1,36]) id;refine zW 2 (fun _=>[(2,.own 1 0 (pE t k).length)]) (fun _=>[t.bx,.arr 3 ((pE t k).map Occ.v) 0]) ?_ ?_;refine bq kq ?_;refine cq (l:=[.own 1 0 (([]:List (Occ))++ca (t.kids.take k)).length]) (.inr rfl) kq ?_
 rotate_left
 iterate 27 kernel_rfl
 all_goals
  first|(exfalso;omega)|(have hk2:t.kids.take k=t.kids:=List.take_of_length_le oq;rw [Jt,hk2];simp [MB,Ll,bg,aa.frz,dW, *];done)
noncomputable def QU:Code:=aF Tryz.f253
theorem yN (t:Ty) (hs:t.sz<100000000) (hp:Vp t):af cx 253 [Ty.v t] (.bool true):=by
 induction hN:t.sz using Nat.strongRecOn generalizing t with|_ N ih =>
 have ihW:∀ t':Ty,t'.sz<t.sz->Vp t'->af cx 253 [t'.v] (.bool true):=fun t' h1 h2=>ih _ (by rw [<- hN];exact h1) t' (Nat.lt_trans h1 hs) h2 rfl
 have hz1:=jh t;have hz2:=iT t;have hz3:=re t;refine am (cx:=cx) 24 0 [(ResultVar.tmp 2)] Tryz.func253 rfl rfl rfl rfl rfl zq ?_;show wpA cx 24 0 (at_ QU []) _ _ _;refine zZ (fun _=>[(0,Ty.v t)]) (fun _=>[]) ?_ ?_;apply zW 2 (mT [(1,.ptr 0 0)] [0]) (mH [] [t.bx]);apply zV 1;refine qP ((yk hp).r) jF aH jD kq ?_;apply zR 1 (mU [(3,.bool true)]) id;apply ao;apply zW 1 (mU [(4,.int .i64 0)]) id;apply qB 0;refine aU (σ:=Nat) (fun k=>[(1,.ptr 0 0),(3,.bool true),(4,nI k)]) (fun k=>[t.bx]) (fun k=>k<=t.kids.length) (fun k=>t.kids.length - k) 0 kq (by exact Nat.zero_le _) (fg kq kq az kJ) ?_;rintro k hk;apply ao;apply zV 3;refine qy (aw (l:=t.kids) (enc:=Ty.enc) kq dC) ?_ ?_ ?_;apply qr 2;by_cases hb1:((k:Nat):Int)<((t.kids.length:Nat):Int);apply zm [11,12] (decide_eq_true hb1);apply zR 2 (mU [(13,.bool true),(14,.bool true)]) id;refine cJ kq kq ?_;apply qK;apply zZ (mT [] [3,14]) id;apply ao;apply qB 1;apply qo;apply qr 3;refine qy ((av (k:=.i64) (l:=t.kids) (enc:=Ty.enc) (i:=((k:Nat):Int)) Ty.zero kq dC gF dN lQ lQ).trans (congrArg (fun cs=>some (aa.pimm cs 0,_)) (db (sT t k)))) ?_ ?_ ?_;apply qr 1;refine qP (ihW _ (fv t k oq) (uN (G7 hp) oq)) jF aH jD kq ?_;apply qr 1;apply qe;apply ag;apply ab;refine zZ (fun _=>[(1,.ptr 0 0),(3,.bool true),(4,nI k),(13,.bool true)]) (fun _=>[t.bx]) ?_ ?_;apply qo;apply qr 1;refine qy (aA (a:=((k:Nat):Int)) (b:=1) kq lQ lQ) ?_ ?_ ?_;apply qr 1;apply qe;refine ab ⟨k+1,?_,?_,(fg kq kq az kJ)⟩
 . omega
 . omega
 iterate 21 kernel_rfl
 apply zm [11,12] (decide_eq_false hb1);apply zR 2 (mU [(13,.tup []),(14,.bool false)]) id;refine fM kq kq ?_;refine aK 0 kq kq ?_;apply ac;apply ac;apply au;apply ab;refine zZ (fun _=>[(3,.bool true)]) (fun _=>[t.bx]) ?_ ?_;apply zV 2;apply qT;refine aJ (b:=true) (.inr rfl) kq ?_
 . rfl
 iterate 18 kernel_rfl
noncomputable def QX:Code:=aF Tryz.f221
abbrev v8 (t:Ty)(i:Nat):=((aW t).getD i Occ.zero)
abbrev vL (t:Ty)(k:Nat):=((aW t).getD k Occ.zero)
abbrev HY (t:Ty)(i:Nat):List aa:=[.int .i64 ((v8 t i).n),.bool ((v8 t i).row),.imm ((v8 t i).names.map aa.str)]
abbrev Jj (t:Ty)(k:Nat):List aa:=[.int .i64 ((vL t k).n),.bool ((vL t k).row),.imm ((vL t k).names.map aa.str)]
abbrev Ah (t:Ty)(i:Nat)(k:Nat):=(((v8 t i).names)==((vL t k).names))
abbrev BC (t:Ty)(i:Nat)(k:Nat):aa:=(.bool (!(((v8 t i).row)==((vL t k).row))))
abbrev rq (t:Ty):=((aW t).map Occ.v)
abbrev B7 (t:Ty)(i:Nat)(k:Nat):aa:=(.bool (((v8 t i).n)==((vL t k).n)))
theorem ja {p:Prop} (h:p:=by first|omega|exact Nat.lt_of_le_of_lt (hoa _) oq):p:=h
theorem yD (t:Ty) (hs:t.sz<100000000) (hp:Vp t):af cx 221 [Ty.v t] (.bool true):=by
 have hz4:=kQ t;have hoa:=KU t;refine am (cx:=cx) 66 0 [(ResultVar.tmp 2)] Tryz.func221 rfl rfl rfl rfl rfl zq ?_;show wpA cx 66 0 (at_ QX []) _ _ _;refine zZ (fun _=>[(0,Ty.v t)]) (fun _=>[]) ?_ ?_;apply zW 2 (mT [(1,.ptr 0 0)] [0]) (mH [] [t.bx]);apply zV 1;refine qP (yN t hs hp) jF aH jD kq ?_;apply zR 1 (mU [(3,.bool true)]) id;apply zV 1;refine qP (t7 t ja) jF aH jD kq ?_;apply zR 1 (mT [(4,.imm (rq t))] [1]) id;apply ao;apply zW 1 (mU [(5,.int .i64 0)]) id;apply qB 0;refine aU (σ:=Nat) (fun i=>[(3,.bool true),(4,.imm (rq t)),(5,nI i)]) (fun i=>[t.bx]) (fun i=>i<=(aW t).length) (fun i=>(aW t).length - i) 0 kq zq (fg kq kq az kJ) ?_;rintro i hi;apply ao;apply zV 2;refine qy (aw (l:=(aW t)) (enc:=Occ.v) kq eV) ?_ ?_ ?_;apply qr 2;by_cases hb1:((i:Nat):Int)<(((aW t).length:Nat):Int);apply zm [15,16] (decide_eq_true hb1);apply zR 2 (mU [(17,.bool true),(18,.bool true)]) id;refine cJ kq kq ?_;apply qK;apply zZ (mT [] [18]) id;apply ao;apply qB 1;apply zW 1 (mU [(6,.int .i64 0)]) id;apply qB 2;refine aU (σ:=Nat) (fun k=>[(3,.bool true),(4,.imm (rq t)),(5,nI i),(6,nI k),(17,.bool true)]) (fun k=>[t.bx]) (fun k=>k<=i) (fun k=>i - k) 0 kq zq (fg kq kq az kJ) ?_;rintro k hk;apply ao;apply zW 3 (mU [(23,.bool (decide (((k:Nat):Int)<((i:Nat):Int))))]) id;by_cases hb2:((k:Nat):Int)<((i:Nat):Int);apply qt (decide_eq_true hb2);apply qK;apply zZ (mT [] [23]) id;apply ao;apply qB 3;apply ao;refine zD cxM kq aj ?_;apply qu 2;refine qd (av (k:=.i64) (l:=(aW t)) (enc:=Occ.v) (i:=((i:Nat):Int)) Occ.zero kq eV jc (fun _=>rfl) ja ja) ?_ ?_ ?_ ?_;apply qu 4;refine qd (av (k:=.i64) (l:=(aW t)) (enc:=Occ.v) (i:=((k:Nat):Int)) Occ.zero kq eV jc (fun _=>rfl) ja ja) ?_ ?_ ?_ ?_;apply qu 2;refine qQ (dv ((v8 t i).names) ((vL t k).names) ja) jF aH jD kq ?_;apply qu 1;refine bh kq ⟨kq,?_⟩;apply zE (mU [(7,.bool (Ah t i k))]) id;apply ao;refine zD cxM kq aj ?_;apply qu 2;refine qd (av (k:=.i64) (l:=(aW t)) (enc:=Occ.v) (i:=((i:Nat):Int)) Occ.zero kq eV jc (fun _=>rfl) ja ja) ?_ ?_ ?_ ?_;apply qu 4;refine qd (av (k:=.i64) (l:=(aW t)) (enc:=Occ.v) (i:=((k:Nat):Int)) Occ.zero kq eV jc (fun _=>rfl) ja ja) ?_ ?_ ?_ ?_;apply qu 4;by_cases hb3:(((aW t).getD i Occ.zero).n)=(((aW t).getD k Occ.zero).n);refine bL 47 (B7 t i k) (.bool true) (bN aj) kq (congrArg aa.bool (beq_iff_eq.2 hb3)) ?_;refine bL 48 (B7 t i k) (.bool true) (bN aj) kq (congrArg aa.bool (beq_iff_eq.2 hb3)) ?_;apply qu 2;refine qd (av (k:=.i64) (l:=(aW t)) (enc:=Occ.v) (i:=((i:Nat):Int)) Occ.zero kq eV jc (fun _=>rfl) ja ja) ?_ ?_ ?_ ?_;apply qu 4;refine qd (av (k:=.i64) (l:=(aW t)) (enc:=Occ.v) (i:=((k:Nat):Int)) Occ.zero kq eV jc (fun _=>rfl) ja ja) ?_ ?_ ?_ ?_;apply qu 4;by_cases hb4:(!((((aW t).getD i Occ.zero).row)==(((aW t).getD k Occ.zero).row)))=true;refine bL 59 (BC t i k) (.bool true) (bN aj) kq (congrArg aa.bool (hb4)) ?_;refine bL 60 (BC t i k) (.bool true) (bN aj) kq (congrArg aa.bool (hb4)) ?_;apply qu 4;refine bh kq ⟨kq,?_⟩;apply zE (mT [(49,.imm (rq t)),(50,nI i),(51,.pimm (HY t i) 0),(52,.pimm (HY t i) 1),(53,.bool ((v8 t i).row)),(54,.imm (rq t)),(55,nI k),(56,.pimm (Jj t k) 0),(57,.pimm (Jj t k) 1),(58,.bool ((vL t k).row)),(59,.bool true),(60,.bool true),(61,.tup []),(62,.tup []),(63,.bool true),(64,.bool true)] [7]) id;refine cJ kq kq ?_;apply zV 1;apply qT;apply iR;apply aR;apply aR;apply iR;apply iR;apply aR;apply aR;apply iR;apply aR;refine aJ (b:=false) (.inr rfl) kq ?_
 rotate_left
 iterate 4 kernel_rfl
 refine bL 59 (BC t i k) (.bool false) (bN aj) kq (congrArg aa.bool (Bool.eq_false_iff.2 hb4)) ?_;refine bL 60 (BC t i k) (.bool false) (bN aj) kq (congrArg aa.bool (Bool.eq_false_iff.2 hb4)) ?_;apply qu 4;refine bh kq ⟨kq,?_⟩;apply zE (mT [(49,.imm (rq t)),(50,nI i),(51,.pimm (HY t i) 0),(52,.pimm (HY t i) 1),(53,.bool ((v8 t i).row)),(54,.imm (rq t)),(55,nI k),(56,.pimm (Jj t k) 0),(57,.pimm (Jj t k) 1),(58,.bool ((vL t k).row)),(59,.bool false),(60,.bool false),(61,.bool (Ah t i k)),(62,.bool (!(Ah t i k))),(63,.bool (!(Ah t i k))),(64,.bool (!(Ah t i k)))] [7]) id;by_cases hb5:((((aW t).getD i Occ.zero).names)==(((aW t).getD k Occ.zero).names))=true;refine qf (x:=(!(Ah t i k))) (congrArg not (hb5)) ?_ ?_;apply qk;apply ag;apply ab;apply zZ (mT [] [64]) id;apply qo;apply qr 1;refine qy (aA (a:=((k:Nat):Int)) (b:=1) kq ja ja) ?_ ?_ ?_;apply qr 1;apply qe;refine ab ⟨k+1,?_,?_,(fg kq kq az kJ)⟩
 . omega
 . omega
 iterate 9 kernel_rfl
 refine qt (x:=(!(Ah t i k))) (congrArg not (Bool.eq_false_iff.2 hb5)) ?_ ?_;apply zV 1;apply qT;apply iR;apply aR;apply aR;apply iR;apply iR;apply aR;apply aR;apply iR;apply aR;refine aJ (b:=false) (.inr rfl) kq ?_
 rotate_left
 iterate 14 kernel_rfl
 refine bL 47 (B7 t i k) (.bool false) (bN aj) kq (congrArg aa.bool (beq_eq_false_iff_ne.2 hb3)) ?_;refine bL 48 (B7 t i k) (.bool false) (bN aj) kq (congrArg aa.bool (beq_eq_false_iff_ne.2 hb3)) ?_;apply qu 16;refine bh kq ⟨kq,?_⟩;apply zE (mT [(49,.tup []),(50,.tup []),(51,.tup []),(52,.tup []),(53,.tup []),(54,.tup []),(55,.tup []),(56,.tup []),(57,.tup []),(58,.tup []),(59,.tup []),(60,.tup []),(61,.tup []),(62,.tup []),(63,.tup []),(64,.bool false)] [7]) id;refine fM kq kq ?_;apply qk;apply ag;apply ab;apply zZ (mT [] [64]) id;apply qo;apply qr 1;refine qy (aA (a:=((k:Nat):Int)) (b:=1) kq ja ja) ?_ ?_ ?_;apply qr 1;apply qe;refine ab ⟨k+1,?_,?_,(fg kq kq az kJ)⟩
 . omega
 . omega
 iterate 38 kernel_rfl
 apply qf (decide_eq_false hb2);refine aK 2 kq kq ?_;apply ac;apply ac;apply au;apply ag;apply ab;apply zZ (mT [] [6,23]) id;apply qo;apply qr 1;refine qy (aA (a:=((i:Nat):Int)) (b:=1) kq ja ja) ?_ ?_ ?_;apply qr 1;apply qe;refine ab ⟨i+1,?_,?_,(fg kq kq az kJ)⟩
 . omega
 . omega
 iterate 20 kernel_rfl
 apply zm [15,16] (decide_eq_false hb1);apply zR 2 (mU [(17,.tup []),(18,.bool false)]) id;refine fM kq kq ?_;refine aK 0 kq kq ?_;apply ac;apply ac;apply au;apply ab;refine zZ (fun _=>[(3,.bool true)]) (fun _=>[t.bx]) ?_ ?_;apply zV 2;apply qT;refine aJ (b:=true) (.inr rfl) kq ?_
 rotate_left
 iterate 20 kernel_rfl
 all_goals
  first|rfl|(exfalso;have e:=Gk (GH hp (i:=i) oq) (GH hp (i:=k) oq) aq;first|(have:=e.1;simp_all;done)|(exact absurd e.2 aq)|(have:=e.2;simp_all;done))
def n8 (l:List Int) (n:Int):List Int:=if l.contains n then l else l++[n]
def nmO (l:List Occ) (k:Nat):List Int:=((l.take k).map Occ.n).foldl n8 []
theorem Fg {l:List Occ} {k:Nat} (h:k<l.length):nmO l (k+1)=n8 (nmO l k) (l.getD k Occ.zero).n:=by
 rw [nmO,List.take_succ_eq_append_getElem h,List.map_append,List.foldl_append,List.getD_eq_getElem?_getD,List.getElem?_eq_getElem h];rfl
theorem FH (l:List Int) (n:Int):(n8 l n).length<=l.length+1:=by unfold n8;split <;> simp
theorem v7 (l:List Occ):∀ k,(nmO l k).length<=k
 | 0=>by simp [nmO]
 | k+1=>by
  by_cases h:k<l.length
  . rw [Fg h];have:=v7 l k;have:=FH (nmO l k) (l.getD k Occ.zero).n;omega
  . have:=v7 l k;rw [nmO,List.take_of_length_le oq];rw [nmO,List.take_of_length_le oq] at this;omega
theorem Q5 {l:List Int} {n:Int} (h:l.contains n=true):n8 l n=l:=by rw [n8,if_pos h]
theorem QP {l:List Int} {n:Int} (h:¬ l.contains n=true):n8 l n=l++[n]:=by rw [n8,if_neg h]
theorem KY {l:List Int} {n:Int} {k:Nat} (hk:k<l.length) (h:l.getD k 0=n):l.contains n=true:=by
 rw [List.contains_iff_mem,<- h,List.getD_eq_getElem?_getD,List.getElem?_eq_getElem hk];exact List.getElem_mem hk
theorem L3 {l:List Int} {n:Int} (ha:∀ i,i<l.length->¬ l.getD i 0=n):l.contains n=false:=by
 rw [Bool.eq_false_iff,Ne,List.contains_iff_mem];intro hm;obtain ⟨i,hi,e⟩:=List.getElem_of_mem hm;exact ha i hi (by rw [List.getD_eq_getElem?_getD,List.getElem?_eq_getElem hi];exact e)
theorem FU (l:List Int) (n:Int):(n8 l n).length≠0:=by
 unfold n8;split
 . rename_i h;intro e;rw [List.length_eq_zero_iff] at e;rw [e] at h;simp at h
 . simp
theorem O9 (l:List Occ):decide ((((nmO l l.length).length:Nat):Int)=0)=l.isEmpty:=by
 cases l with
 | nil=>rfl
 | cons a l =>
  have:∀ (xs:List Int) (b:List Int),b.length≠0->(xs.foldl n8 b).length≠0:=by
   intro xs
   induction xs with
   | nil=>intro b h;exact h
   | cons x xs ih=>intro b h;exact ih _ (FU b x)
  have h:=this (l.map Occ.n) (n8 [] a.n) (FU _ _);have e:nmO (a::l) (a::l).length=(l.map Occ.n).foldl n8 (n8 [] a.n):=by rw [nmO,List.take_length];rfl
  rw [e,decide_eq_false oq];rfl
noncomputable def Qr:Code:=aF Tryz.f255
theorem CW (l:List Int) (n:Int) (hn:l.length<1000000000):af cx 255 [.imm (l.map (aa.int .i64)),.int .i64 (n)] (.bool (l.contains n)):=by
 refine am (cx:=cx) 18 0 [(ResultVar.tmp 4)] Tryz.func255 rfl rfl rfl rfl rfl zq ?_;show wpA cx 18 0 (at_ Qr []) _ _ _;refine zZ (fun _=>[(iE l),(1,.int .i64 (n))]) (fun _=>[]) ?_ ?_;apply zW 1 id id;apply ao;apply zW 1 (mU [(5,.int .i64 0)]) id;apply qB 0;refine aU (σ:=Nat) (fun k=>[(iE l),(1,.int .i64 (n)),(5,nI k)]) (fun k=>[]) (fun k=>k<=l.length/\∀ i,i<k->¬ l.getD i 0=n) (fun k=>l.length - k) 0 kq zq (fg kq kq az zq) ?_;rintro k ⟨hk,ha⟩;apply ao;apply zV 2;refine qy (aw (l:=l) (enc:=dB) kq yJ) ?_ ?_ ?_;apply zR 1 (mU [(9,.bool (decide (((k:Nat):Int)<((l.length:Nat):Int))))]) id;by_cases hb1:((k:Nat):Int)<((l.length:Nat):Int);apply qt (decide_eq_true hb1);apply qK;apply zZ (mT [] [9]) id;apply ao;apply qB 1;apply zV 2;refine qy (av (k:=.i64) (l:=l) (enc:=dB) (i:=((k:Nat):Int)) 0 kq yJ ty3 (fun _=>rfl) oq oq) ?_ ?_ ?_;refine zR 3 (fun _=>[(iE l),(1,.int .i64 (n)),(5,nI k),(17,.bool (((l.getD k 0))==(n)))]) (fun _=>[]) ?_ ?_;by_cases hb2:((l.getD k 0))=(n);apply qt (beq_iff_eq.2 hb2);apply zV 1;apply qT;apply iR;apply aR;apply aR;apply iR;apply aR;refine aJ (b:=true) (.inr rfl) kq ?_
 rotate_left
 iterate 3 kernel_rfl
 apply qf (beq_eq_false_iff_ne.2 hb2);apply qk;apply ag;apply ab;apply zZ (mT [] [17]) id;apply qo;apply qr 1;refine qy (aA (a:=((k:Nat):Int)) (b:=1) kq oq oq) ?_ ?_ ?_;apply qr 1;apply qe;refine ab ⟨k+1,?_,?_,(fg kq kq az zq)⟩
 . omega
 . refine ⟨by omega,fun i hi=>?_⟩;rcases Nat.lt_succ_iff_lt_or_eq.1 hi with h|h
   . exact ha i h
   . subst h;assumption
 iterate 19 kernel_rfl
 apply qf (decide_eq_false hb1);refine aK 0 kq kq ?_;apply ac;apply ac;apply au;apply ab;refine zZ (fun _=>[]) (fun _=>[]) ?_ ?_;apply zV 1;apply qT;refine aJ (b:=false) (.inr rfl) kq ?_
 rotate_left
 iterate 15 kernel_rfl
 all_goals
  first|exact (KY (k:=k) oq aq).symm|exact (L3 (fun i hi=>ha i oq)).symm
end Go.Proofs.YtcpklndelobigaaGreatDoor
