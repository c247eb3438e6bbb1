/- The two Valid agree. No condition. -/
import Derived.Test.YtdikgijfekfaoaaGreatDoorT6
import Derived.Test.YtdikgijfekfaoaaGreatDoorAbsc
set_option linter.all false
set_option linter.unusedSimpArgs false
set_option linter.unusedVariables false
namespace Go.Proofs.YtdikgijfekfaoaaGreatDoor
open Go.Proofs.YtdikgijfekfaoaaGreatDoor.Abs
def stepO (s : VSt) (o : Occ) : VSt := if o.row then ⟨s.ok && rwOk (mget o.n s.rw) o.names, s.pl, mset o.n o.names s.rw⟩ else ⟨s.ok, mset o.n true s.pl, s.rw⟩
def addOk (s : VSt) (b : Bool) : VSt := ⟨s.ok && b, s.pl, s.rw⟩
theorem addOk_addOk (s : VSt) (a b : Bool) : addOk (addOk s a) b = addOk s (a && b) := by simp [addOk, Bool.and_assoc]
theorem addOk_true (s : VSt) : addOk s true = s := by simp [addOk]
theorem stepO_add (s : VSt) (b : Bool) (o : Occ) : stepO (addOk s b) o = addOk (stepO s o) b := by
  unfold stepO addOk
  split <;> simp [Bool.and_assoc, Bool.and_comm b]
theorem fold_add (b : Bool) : ∀ (l : List Occ) (s : VSt), l.foldl stepO (addOk s b) = addOk (l.foldl stepO s) b
  | [], s => rfl
  | o :: l, s => by rw [List.foldl_cons, stepO_add, fold_add b l, List.foldl_cons]
theorem stepV_6 (s : VSt) (t : Ty) (h : ¬ t.kind = 5) : stepV s t = addOk ((occV t).foldl stepO s) (fmd t) := by
  unfold stepV occV
  by_cases h6 : t.kind = 6
  · rw [if_pos h6, if_pos h6]; rfl
  · rw [if_neg h6, if_neg h6, if_neg (fun hc => h hc.1)]; rfl
theorem stepV_5 (s : VSt) (t : Ty) (h : t.kind = 5) : stepV s t = addOk ((occR t).foldl stepO s) (fmd t) := by
  unfold stepV occR
  rw [if_neg (by omega)]
  by_cases hn : t.n = 0
  · rw [if_neg (fun hc => hc.2 hn), if_neg (fun hc => hc.2 hn)]; rfl
  · rw [if_pos ⟨h, hn⟩, if_pos ⟨h, hn⟩]; simp [stepO, addOk, Bool.and_assoc, Bool.and_comm (fmd t)]
mutual
theorem vis_fold : ∀ (t : Ty) (s : VSt), visV s t = addOk ((occs t).foldl stepO s) (whl t)
  | .mk k x n l ks, s => by
    by_cases h5 : k = 5
    · rw [visV_rec s (.mk k x n l ks) h5, stepV_5 _ (.mk k x n l ks) h5, occs_eq, whl_eq]
      have e : occV (.mk k x n l ks) = [] := by unfold occV; rw [if_neg (by simp only [Ty.kind]; omega)]
      rw [e, List.nil_append, List.foldl_append]
      show addOk (List.foldl stepO (visVL s ks) _) _ = addOk (List.foldl stepO (List.foldl stepO s (occsL ks)) _) (_ && whlL ks)
      rw [vis_foldL ks s, fold_add, addOk_addOk, Bool.and_comm]
    · rw [visV_oth s (.mk k x n l ks) h5, stepV_6 _ (.mk k x n l ks) h5, occs_eq, whl_eq]
      have e : occR (.mk k x n l ks) = [] := by unfold occR; rw [if_neg (fun hc => h5 hc.1)]
      rw [e, List.append_nil, List.foldl_append]
      show visVL (addOk _ _) ks = addOk (List.foldl stepO _ (occsL ks)) (_ && whlL ks)
      rw [vis_foldL ks, fold_add, addOk_addOk]
theorem vis_foldL : ∀ (l : List Ty) (s : VSt), visVL s l = addOk ((occsL l).foldl stepO s) (whlL l)
  | [], s => by simp only [visVL, occsL, whlL, addOk_true, List.foldl_nil]
  | t :: l, s => by
    simp only [visVL, occsL, whlL]
    rw [vis_fold t s, vis_foldL l, fold_add, addOk_addOk, List.foldl_append]
end
theorem mget_mem {κ α : Type} [DecidableEq κ] (k : κ) (v : α) : ∀ l : List (κ × α), mget k l = some v → (k, v) ∈ l
  | [], h => by simp [mget] at h
  | p :: l, h => by
    simp only [mget] at h
    split at h
    · rename_i e; cases h; subst e; exact List.mem_cons_self
    · exact List.mem_cons_of_mem _ (mget_mem k v l h)
theorem mget_of_mem {κ α : Type} [DecidableEq κ] : ∀ (l : List (κ × α)) (p : κ × α), p ∈ l → ∃ v, mget p.1 l = some v
  | q :: l, p, h => by
    simp only [mget]
    by_cases e : p.1 = q.1
    · rw [if_pos e]; exact ⟨_, rfl⟩
    · rw [if_neg e]
      rcases List.mem_cons.1 h with h | h
      · rw [h] at e; exact absurd rfl e
      · exact mget_of_mem l p h
structure OInv (l : List Occ) (s : VSt) : Prop where
  pl : ∀ n, mget n s.pl = some true ↔ ∃ o ∈ l, o.row = false ∧ o.n = n
  plt : ∀ n b, mget n s.pl = some b → b = true
  rw1 : ∀ n w, mget n s.rw = some w → ∃ o ∈ l, o.row = true ∧ o.n = n ∧ o.names = w
  rw2 : ∀ o ∈ l, o.row = true → ∃ w, mget o.n s.rw = some w
  rw3 : s.ok = true → ∀ o ∈ l, o.row = true → mget o.n s.rw = some o.names
  ok : (∀ o ∈ l, ∀ o' ∈ l, o.row = true → o'.row = true → o.n = o'.n → o.names = o'.names) → s.ok = true
theorem oinv_nil : OInv [] VSt.init := ⟨by simp [VSt.init, mget], by simp [VSt.init, mget], by simp [VSt.init, mget], by simp, by simp, fun _ => rfl⟩
theorem oinv_step {l : List Occ} {s : VSt} (h : OInv l s) (o : Occ) : OInv (l ++ [o]) (stepO s o) := by
  unfold stepO
  cases hr : o.row with
  | false =>
    simp only [Bool.false_eq_true, if_false]
    refine ⟨fun n => ?_, fun n b => ?_, fun n w hw => ?_, fun q hq hqr => ?_, fun hok q hq hqr => ?_, fun hc => ?_⟩
    · simp only [mget_mset]
      by_cases e : n = o.n
      · subst e; simp; exact .inr hr
      · rw [if_neg e, h.pl n]
        constructor
        · rintro ⟨q, h1, h2⟩; exact ⟨q, List.mem_append_left _ h1, h2⟩
        · rintro ⟨q, h1, h2⟩
          rcases List.mem_append.1 h1 with h1 | h1
          · exact ⟨q, h1, h2⟩
          · simp at h1; subst h1; exact absurd h2.2.symm e
    · simp only [mget_mset]
      by_cases e : n = o.n
      · rw [if_pos e]; intro h; cases h; rfl
      · rw [if_neg e]; exact h.plt n b
    · obtain ⟨q, h1, h2⟩ := h.rw1 n w hw; exact ⟨q, List.mem_append_left _ h1, h2⟩
    · rcases List.mem_append.1 hq with h1 | h1
      · exact h.rw2 q h1 hqr
      · simp at h1; subst h1; rw [hr] at hqr; cases hqr
    · rcases List.mem_append.1 hq with h1 | h1
      · exact h.rw3 hok q h1 hqr
      · simp at h1; subst h1; rw [hr] at hqr; cases hqr
    · exact h.ok fun a ha b hb => hc a (List.mem_append_left _ ha) b (List.mem_append_left _ hb)
  | true =>
    simp only [if_true]
    have hrw : rwOk (mget o.n s.rw) o.names = true → ∀ w, mget o.n s.rw = some w → w = o.names := by
      intro h1 w hw; rw [hw] at h1; simpa [rwOk] using h1
    refine ⟨fun n => ?_, h.plt, fun n w hw => ?_, fun q hq hqr => ?_, fun hok q hq hqr => ?_, fun hc => ?_⟩
    · rw [h.pl n]
      constructor
      · rintro ⟨q, h1, h2⟩; exact ⟨q, List.mem_append_left _ h1, h2⟩
      · rintro ⟨q, h1, h2⟩
        rcases List.mem_append.1 h1 with h1 | h1
        · exact ⟨q, h1, h2⟩
        · simp at h1; subst h1; rw [hr] at h2; cases h2.1
    · simp only [mget_mset] at hw
      split at hw
      · rename_i e; cases hw; exact ⟨o, by simp, hr, e.symm, rfl⟩
      · obtain ⟨q, h1, h2⟩ := h.rw1 n w hw; exact ⟨q, List.mem_append_left _ h1, h2⟩
    · simp only [mget_mset]
      split
      · exact ⟨_, rfl⟩
      · rename_i e
        rcases List.mem_append.1 hq with h1 | h1
        · exact h.rw2 q h1 hqr
        · simp at h1; subst h1; exact absurd rfl e
    · simp only [Bool.and_eq_true] at hok
      simp only [mget_mset]
      rcases List.mem_append.1 hq with h1 | h1
      · have := h.rw3 hok.1 q h1 hqr
        split
        · rename_i e
          rw [e] at this
          rw [hrw hok.2 _ this]
        · exact this
      · simp at h1; subst h1; rw [if_pos rfl]
    · simp only [Bool.and_eq_true]
      refine ⟨h.ok fun a ha b hb => hc a (List.mem_append_left _ ha) b (List.mem_append_left _ hb), ?_⟩
      cases hm : mget o.n s.rw with
      | none => rfl
      | some w =>
        obtain ⟨q, h1, h2, h3, h4⟩ := h.rw1 _ _ hm
        have := hc q (List.mem_append_left _ h1) o (by simp) h2 hr h3
        simp [rwOk, ← h4, this]
theorem oinv_fold (l : List Occ) : OInv l (l.foldl stepO VSt.init) := by
  have : ∀ (r l : List Occ) (s : VSt), OInv l s → OInv (l ++ r) (r.foldl stepO s) := by
    intro r
    induction r with
    | nil => intro l s h; simpa using h
    | cons o r ih => intro l s h; have := ih (l ++ [o]) _ (oinv_step h o); simpa using this
  simpa using this l [] _ oinv_nil
def Con (l : List Occ) : Prop := ∀ o ∈ l, ∀ o' ∈ l, o.n = o'.n → o.row = o'.row ∧ o.names = o'.names
theorem okL_iff (s : VSt) : okL s [] = true ↔ s.ok = true ∧ ∀ p ∈ s.rw, (mget p.1 s.pl).getD false = false := by
  simp only [okL, Bool.and_eq_true, List.all_eq_true, List.mem_range, List.contains_nil, Bool.false_or, Bool.not_eq_true', plAt]
  constructor
  · rintro ⟨h1, h2⟩
    refine ⟨h1, fun p hp => ?_⟩
    obtain ⟨i, hi, rfl⟩ := List.getElem_of_mem hp
    have := h2 i hi
    rwa [List.getD_eq_getElem?_getD, List.getElem?_eq_getElem hi] at this
  · rintro ⟨h1, h2⟩
    refine ⟨h1, fun i hi => ?_⟩
    rw [List.getD_eq_getElem?_getD, List.getElem?_eq_getElem hi]
    exact h2 _ (List.getElem_mem hi)
theorem okL_con (l : List Occ) (hn : ∀ o ∈ l, o.row = false → o.names = []) : okL (l.foldl stepO VSt.init) [] = true ↔ Con l := by
  have h := oinv_fold l
  rw [okL_iff]
  constructor
  · rintro ⟨h1, h2⟩ o ho o' ho' e
    have mix : ∀ o ∈ l, ∀ o' ∈ l, o.n = o'.n → o.row = true → o'.row = false → False := by
      intro o ho o' ho' e hr hr'
      obtain ⟨w, hw⟩ := h.rw2 o ho hr
      have := h2 _ (mget_mem _ _ _ hw)
      have hp := (h.pl o.n).2 ⟨o', ho', hr', e.symm⟩
      simp only at this
      rw [hp] at this; cases this
    cases hr : o.row with
    | false =>
      cases hr' : o'.row with
      | false => exact ⟨rfl, by rw [hn o ho hr, hn o' ho' hr']⟩
      | true => exact (mix o' ho' o ho e.symm hr' hr).elim
    | true =>
      cases hr' : o'.row with
      | false => exact (mix o ho o' ho' e hr hr').elim
      | true =>
        have a := h.rw3 h1 o ho hr
        have b := h.rw3 h1 o' ho' hr'
        rw [e, b] at a
        exact ⟨rfl, by injection a with a; exact a.symm⟩
  · intro hc
    refine ⟨h.ok fun a ha b hb _ _ e => (hc a ha b hb e).2, fun p hp => ?_⟩
    obtain ⟨w, hw⟩ := mget_of_mem _ p hp
    obtain ⟨o, ho, hr, e, _⟩ := h.rw1 _ _ hw
    cases hm : mget p.1 (l.foldl stepO VSt.init).pl with
    | none => rfl
    | some b =>
      have hb := h.plt _ _ hm
      subst hb
      obtain ⟨o', ho', hr', e'⟩ := (h.pl _).1 hm
      have := (hc o ho o' ho' (e.trans e'.symm)).1
      rw [hr, hr'] at this; cases this
theorem occBad_iff (l : List Occ) (i k : Nat) : occBad l i k = false ↔ ((l.getD i Occ.zero).n = (l.getD k Occ.zero).n → (l.getD i Occ.zero).row = (l.getD k Occ.zero).row ∧ (l.getD i Occ.zero).names = (l.getD k Occ.zero).names) := by
  unfold occBad
  generalize l.getD i Occ.zero = a
  generalize l.getD k Occ.zero = b
  by_cases h1 : a.n = b.n <;> by_cases h2 : a.row = b.row <;> by_cases h3 : a.names = b.names <;> simp [h1, h2, h3]
theorem occOk_con (l : List Occ) : occOk l = true ↔ Con l := by
  have e : ∀ i (h : i < l.length), l.getD i Occ.zero = l[i] := fun i h => by rw [List.getD_eq_getElem?_getD, List.getElem?_eq_getElem h]; rfl
  unfold occOk Con
  simp only [List.all_eq_true, List.mem_range, Bool.not_eq_true', occBad_iff]
  constructor
  · intro h o ho o' ho' hn
    obtain ⟨i, hi, rfl⟩ := List.getElem_of_mem ho
    obtain ⟨k, hk, rfl⟩ := List.getElem_of_mem ho'
    rcases Nat.lt_trichotomy i k with hlt | rfl | hlt
    · have := h k hk i hlt; rw [e k hk, e i hi] at this
      exact ⟨(this hn.symm).1.symm, (this hn.symm).2.symm⟩
    · exact ⟨rfl, rfl⟩
    · have := h i hi k hlt; rw [e k hk, e i hi] at this
      exact this hn
  · intro h i hi k hk
    rw [e i hi, e k (by omega)]
    exact h _ (List.getElem_mem _) _ (List.getElem_mem _)
mutual
theorem occs_plain : ∀ (t : Ty) (o : Occ), o ∈ occs t → o.row = false → o.names = []
  | .mk k x n l ks, o, h => by
    simp only [occs, List.mem_append] at h
    rcases h with (h | h) | h
    · split at h
      · simp at h; subst h; intro _; rfl
      · simp at h
    · exact occsL_plain ks o h
    · split at h
      · simp at h; subst h; intro hc; cases hc
      · simp at h
theorem occsL_plain : ∀ (l : List Ty) (o : Occ), o ∈ occsL l → o.row = false → o.names = []
  | [], o, h => by simp [occsL] at h
  | t :: l, o, h => by
    simp only [occsL, List.mem_append] at h
    rcases h with h | h
    · exact occs_plain t o h
    · exact occsL_plain l o h
end
theorem okL_add (s : VSt) (b : Bool) : okL (addOk s b) [] = (b && okL s []) := by
  show ((s.ok && b) && _) = (b && (s.ok && _))
  rw [Bool.and_comm s.ok b, Bool.and_assoc]; rfl
theorem valid_same (t : Ty) : validB t = rvalidB t := by
  unfold validB rvalidB
  rw [vis_fold, okL_add]
  congr 1
  rw [Bool.eq_iff_iff, okL_con _ (occs_plain t), occOk_con]
end Go.Proofs.YtdikgijfekfaoaaGreatDoor
