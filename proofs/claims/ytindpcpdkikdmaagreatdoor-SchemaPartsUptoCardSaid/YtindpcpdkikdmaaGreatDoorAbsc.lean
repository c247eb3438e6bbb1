/- An evaluator over abstract values, rules for written proofs, and the way to what a row reads. No condition. -/
import Derived.Test.YtindpcpdkikdmaaGreatDoorAbsb
import Derived.Below
import GoSem.ClaimJoined
import Derived.ProofKit
import Derived.OpenShut
import Derived.Carry
import Derived.ChangeOld
set_option linter.all false
set_option linter.unusedSimpArgs false
set_option linter.unusedVariables false
namespace Go.Proofs.YtindpcpdkikdmaaGreatDoor.Abs

theorem nb_f {a b : Nat} (h : a ≠ b) : Nat.beq a b = false := by
  cases hb : Nat.beq a b
  · rfl
  · exact absurd (Nat.eq_of_beq_eq_true hb) h
theorem nb_t {a b : Nat} (h : a = b) : Nat.beq a b = true := by subst h; exact Nat.beq_refl a

/-- Slots in a tree. -/
inductive Tt where
  | e
  | n (v : AVal) (l r : Tt)

def Tt.get : Tt → Nat → AVal
  | .e, _ => .any
  | .n v l r, k => bif Nat.beq k 0 then v else bif Nat.beq (k % 2) 1 then l.get (k / 2) else r.get (k / 2 - 1)

def Tt.setF : Nat → Tt → Nat → AVal → Tt
  | 0, t, _, _ => t
  | f + 1, .e, k, x => bif Nat.beq k 0 then .n x .e .e else bif Nat.beq (k % 2) 1 then .n .any (Tt.setF f .e (k / 2) x) .e else .n .any .e (Tt.setF f .e (k / 2 - 1) x)
  | f + 1, .n v l r, k, x => bif Nat.beq k 0 then .n x l r else bif Nat.beq (k % 2) 1 then .n v (Tt.setF f l (k / 2) x) r else .n v l (Tt.setF f r (k / 2 - 1) x)

theorem Tt.get_e (k : Nat) : Tt.e.get k = .any := by simp [Tt.get]

theorem Tt.get_set : ∀ (f : Nat) (t : Tt) (k : Nat) (x : AVal) (j : Nat), k + 1 < 2 ^ f → (Tt.setF f t k x).get j = if j = k then x else t.get j
  | 0, t, k, x, j, h => by simp at h
  | f + 1, t, k, x, j, h => by
    have h2 : 2 ^ (f + 1) = 2 * 2 ^ f := by rw [Nat.pow_succ]; omega
    by_cases k0 : k = 0
    · subst k0
      cases t <;> by_cases j0 : j = 0 <;> simp [Tt.setF, Tt.get, j0, nb_f]
    · have kb : Nat.beq k 0 = false := nb_f k0
      by_cases k1 : k % 2 = 1
      · have kb1 : Nat.beq (k % 2) 1 = true := nb_t k1
        cases t with
        | e =>
          simp only [Tt.setF, kb, kb1, cond_true, cond_false]
          by_cases j0 : j = 0
          · subst j0; simp [Tt.get, Ne.symm k0]
          · have jb : Nat.beq j 0 = false := nb_f j0
            simp only [Tt.get, jb, cond_false]
            by_cases j1 : j % 2 = 1
            · have jb1 : Nat.beq (j % 2) 1 = true := nb_t j1
              simp only [jb1, cond_true]
              rw [Tt.get_set f _ _ _ _ (by omega)]
              by_cases e : j = k
              · subst e; simp
              · rw [if_neg (by omega), if_neg e]; simp [Tt.get]
            · have jb1 : Nat.beq (j % 2) 1 = false := nb_f j1
              have : j ≠ k := by intro e; subst e; exact j1 k1
              simp [jb1, this]
        | n v l r =>
          simp only [Tt.setF, kb, kb1, cond_true, cond_false]
          by_cases j0 : j = 0
          · subst j0; simp [Tt.get, Ne.symm k0]
          · have jb : Nat.beq j 0 = false := nb_f j0
            simp only [Tt.get, jb, cond_false]
            by_cases j1 : j % 2 = 1
            · have jb1 : Nat.beq (j % 2) 1 = true := nb_t j1
              simp only [jb1, cond_true]
              rw [Tt.get_set f _ _ _ _ (by omega)]
              by_cases e : j = k
              · subst e; simp
              · rw [if_neg (by omega), if_neg e]
            · have jb1 : Nat.beq (j % 2) 1 = false := nb_f j1
              have : j ≠ k := by intro e; subst e; exact j1 k1
              simp [jb1, this]
      · have kb1 : Nat.beq (k % 2) 1 = false := nb_f k1
        cases t with
        | e =>
          simp only [Tt.setF, kb, kb1, cond_false]
          by_cases j0 : j = 0
          · subst j0; simp [Tt.get, Ne.symm k0]
          · have jb : Nat.beq j 0 = false := nb_f j0
            simp only [Tt.get, jb, cond_false]
            by_cases j1 : j % 2 = 1
            · have jb1 : Nat.beq (j % 2) 1 = true := nb_t j1
              have : j ≠ k := by intro e; subst e; exact k1 j1
              simp [jb1, this]
            · have jb1 : Nat.beq (j % 2) 1 = false := nb_f j1
              simp only [jb1, cond_false]
              rw [Tt.get_set f _ _ _ _ (by omega)]
              by_cases e : j = k
              · subst e; simp
              · rw [if_neg (by omega), if_neg e]; simp [Tt.get]
        | n v l r =>
          simp only [Tt.setF, kb, kb1, cond_false]
          by_cases j0 : j = 0
          · subst j0; simp [Tt.get, Ne.symm k0]
          · have jb : Nat.beq j 0 = false := nb_f j0
            simp only [Tt.get, jb, cond_false]
            by_cases j1 : j % 2 = 1
            · have jb1 : Nat.beq (j % 2) 1 = true := nb_t j1
              have : j ≠ k := by intro e; subst e; exact k1 j1
              simp [jb1, this]
            · have jb1 : Nat.beq (j % 2) 1 = false := nb_f j1
              simp only [jb1, cond_false]
              rw [Tt.get_set f _ _ _ _ (by omega)]
              by_cases e : j = k
              · subst e; simp
              · rw [if_neg (by omega), if_neg e]

def Tsame (T : Tm) (tt : Tt) : Prop := ∀ t, Tm.get T t = tt.get t

def tput (tt : Tt) (d : Option Tmp) (v : AVal) : Tt := match d with
  | some d => tt.setF 12 d v
  | none => tt

theorem Tsame.put {T : Tm} {tt : Tt} (hs : Tsame T tt) {n : Nat} (hn : n ≤ 4095) {d : Option Tmp} (hd : dstOk n d = true) (v : AVal) : Tsame (aput T d v) (tput tt d v) := by
  cases d with
  | none => exact hs
  | some d =>
    have : d < n := by simpa [dstOk] using hd
    have hlt : d + 1 < 2 ^ 12 := Nat.succ_lt_succ (Nat.lt_of_lt_of_le this hn)
    intro t
    simp only [aput, tput, Tm.get]
    rw [Tt.get_set 12 tt d v t hlt]
    by_cases e : d = t
    · subst e; simp
    · rw [if_neg e, if_neg (fun h => e h.symm)]; exact hs t

def tev (G : Nat → Option (List AVal)) (tt : Tt) : Operand → AVal
  | .tmp t => tt.get t
  | .const v => match ofConst v with
    | some x => x
    | none => .any
  | .global g => match G g with
    | some cs => .pimm cs 0
    | none => .any
  | .func f => .fn (.func f) [] []

theorem tev_eq {G : Nat → Option (List AVal)} {T : Tm} {tt : Tt} (hs : Tsame T tt) : tev G tt = aev G T := by
  funext x
  cases x
  · exact (hs _).symm
  all_goals first | rfl | (simp only [tev, aev]; split <;> simp_all)

def tguard (ops : Array Oper) (tt : Tt) : Option (Nat × Bool) → Option Bool
  | none => some true
  | some (j, want) => match (ops[j]?).bind (·.dst) with
    | some d => match tt.get d with
      | .bool b => some (b == want)
      | .tup _ => some false
      | _ => none
    | none => none

theorem tguard_eq {ops : Array Oper} {T : Tm} {tt : Tt} (hs : Tsame T tt) (g : Option (Nat × Bool)) : tguard ops tt g = aguard ops T g := by
  unfold tguard aguard
  cases g with
  | none => rfl
  | some p =>
    obtain ⟨j, want⟩ := p
    dsimp only
    cases (ops[j]?).bind (·.dst) with
    | none => rfl
    | some d => dsimp only; rw [hs d]; cases tt.get d <;> rfl

abbrev XCall := FuncId → List AVal → AHeap → Option (List Nat × AVal × AHeap)

def xops (P : Program) (G : Nat → Option (List AVal)) (call : XCall) (n : Nat) (ops : Array Oper) : List Oper → Tt → AHeap → Option (Tt × AHeap)
  | [], T, h => some (T, h)
  | o :: os, T, h => bif dstOk n o.dst then
      match tguard ops T o.guard with
      | some true => match aop P h (tev G T) o.op with
        | some r => xops P G call n ops os (tput T o.dst r.1) r.2
        | none => match acallee (tev G T) o.op with
          | some c => match call c.1 c.2 h with
            | some r => xops P G call n ops os (tput T o.dst r.2.1) r.2.2
            | none => none
          | none => match anx P h (tev G T) o.op with
            | some [r] => xops P G call n ops os (tput T o.dst r.1) r.2
            | _ => none
      | some false => xops P G call n ops os (tput T o.dst (.tup [])) h
      | none => none
    else none

def xdraw (P : Program) (G : Nat → Option (List AVal)) (call : XCall) (n : Nat) (ops : Array Oper) : List Oper → Nat → Tt → AHeap → List (List Nat × List Nat) → Option (List (List Nat × List Nat) × Tt × AHeap)
  | [], _, T, h, rs => some (rs, T, h)
  | o :: os, k, T, h, rs => bif dstOk n o.dst then
      match tguard ops T o.guard with
      | some true => bif isAl o.op then
          (match apl P (tev G T) o.op with
          | some cs => bif isHole h k then xdraw P G call n ops os (k + 1) (tput T o.dst (.ptr k 0)) (h.set k (.box cs)) (rs ++ [([k], [k])]) else none
          | none => none)
        else match aop P h (tev G T) o.op with
        | some r => xdraw P G call n ops os k (tput T o.dst r.1) r.2 (rs ++ [(ard (tev G T) o.op, awr h (tev G T) o.op)])
        | none => match acallee (tev G T) o.op with
          | some c => match call c.1 c.2 h with
            | some r => xdraw P G call n ops os k (tput T o.dst r.2.1) r.2.2 (rs ++ [(r.1, r.1)])
            | none => none
          | none => none
      | some false => xdraw P G call n ops os (bif isAl o.op then k + 1 else k) (tput T o.dst (.tup [])) h (rs ++ [([], [])])
      | none => none
    else none

/-- Every two operations are ordered, or touch no slot of each other. -/
def sPairs (ops : Array Oper) (ms : List Nat) (i : Nat) (o : Oper) : List (Nat × Oper) → Bool
  | [] => true
  | s :: ss => ((ms.getD i 0).testBit s.1 || s.2.apart ops o) && sPairs ops ms i o ss
def sOk (ops : Array Oper) (ms : List Nat) : Nat → List (Nat × Oper) → List Oper → Bool
  | _, _, [] => true
  | i, pre, o :: os => sPairs ops ms i o pre && sOk ops ms (i + 1) ((i, o) :: pre) os
def staticOk (ops : Array Oper) : Bool := edgesOk 0 ops.toList && sOk ops (masks ops.toList []) 0 [] ops.toList
def quiet : List (List Nat × List Nat) → Bool
  | [] => true
  | r :: rs => r.2.isEmpty && quiet rs

theorem sPairs_pairOk {ops : Array Oper} {ms : List Nat} {t : Tr} (ht : t.wr = []) : ∀ {pre : List Tr}, (∀ s ∈ pre, s.wr = []) → sPairs ops ms t.i t.o (pre.map fun s => (s.i, s.o)) = true → pairOk ops ms t pre = true
  | [], _, _ => rfl
  | s :: ss, hw, h => by
    simp only [List.map_cons, sPairs, Bool.and_eq_true, Bool.or_eq_true] at h
    simp only [pairOk, Bool.and_eq_true, Bool.or_eq_true]
    refine ⟨?_, sPairs_pairOk ht (fun x hx => hw x (by simp [hx])) h.2⟩
    rcases h.1 with g | g
    · exact .inl g
    · refine .inr ?_
      have := hw s (by simp)
      simp [indep, g, dind, ht, this, disj]

theorem sOk_drawOk {ops : Array Oper} {ms : List Nat} : ∀ (os : List Oper) (i : Nat) (rs : List (List Nat × List Nat)) (pre : List Tr), (∀ s ∈ pre, s.wr = []) → quiet rs = true →
    sOk ops ms i (pre.map fun s => (s.i, s.o)) os = true → drawOk ops ms pre (mkTrs i os rs) = true
  | [], i, rs, pre, _, _, _ => by cases rs <;> simp [mkTrs, drawOk]
  | o :: os, i, [], pre, _, _, _ => by simp [mkTrs, drawOk]
  | o :: os, i, r :: rs, pre, hw, hq, hs => by
    simp only [sOk, Bool.and_eq_true] at hs
    simp only [quiet, Bool.and_eq_true, List.isEmpty_iff] at hq
    simp only [mkTrs, drawOk, Bool.and_eq_true]
    refine ⟨sPairs_pairOk hq.1 hw hs.1, ?_⟩
    refine sOk_drawOk os (i + 1) rs _ ?_ hq.2 ?_
    · intro s hs'
      simp only [List.mem_cons] at hs'
      rcases hs' with rfl | hs'
      · exact hq.1
      · exact hw s hs'
    · simpa using hs.2

def xdrawOk (ops : Array Oper) (rs : List (List Nat × List Nat)) : Bool := bif quiet rs then staticOk ops else (edgesOk 0 ops.toList && drawAll ops rs)

theorem xdrawOk_spec {ops : Array Oper} {rs : List (List Nat × List Nat)} (h : xdrawOk ops rs = true) : edgesOk 0 ops.toList = true ∧ drawAll ops rs = true := by
  unfold xdrawOk at h
  cases hq : quiet rs with
  | true =>
    rw [hq] at h
    simp only [cond_true, staticOk, Bool.and_eq_true] at h
    exact ⟨h.1, sOk_drawOk _ 0 rs [] (by simp) hq (by simpa using h.2)⟩
  | false =>
    rw [hq] at h
    simp only [cond_false, Bool.and_eq_true] at h
    exact h

def xloop (body : Tt → AHeap → Option (Exit × Tt × AHeap)) : Nat → Tt → AHeap → Option (Exit × Tt × AHeap)
  | 0, _, _ => none
  | k + 1, T, h => match body T h with
    | some (.normal, T', h') => xloop body k T' h'
    | r => r

def xcode (P : Program) (G : Nat → Option (List AVal)) (call : XCall) (n lf : Nat) : Code → Tt → AHeap → Option (Exit × Tt × AHeap)
  | .skip, T, h => some (.normal, T, h)
  | .label _, T, h => some (.normal, T, h)
  | .scope c, T, h => match xcode P G call n lf c T h with
    | some (.goto _, _, _) => none
    | r => r
  | .ret, T, h => some (.ret, T, h)
  | .exit id, T, h => some (.exit id, T, h)
  | .seq a b, T, h => match xcode P G call n lf a T h with
    | some (.normal, T', h') => xcode P G call n lf b T' h'
    | r => r
  | .cond c a b, T, h => match tev G T c with
    | .bool true => xcode P G call n lf a T h
    | .bool false => xcode P G call n lf b T h
    | _ => none
  | .block id c, T, h => match xcode P G call n lf c T h with
    | some (.exit id', T', h') => bif Nat.beq id' id then some (.normal, T', h') else some (.exit id', T', h')
    | r => r
  | .loop c, T, h => xloop (xcode P G call n lf c) lf T h
  | .region _ ops false, T, h => match xops P G call n ops ops.toList T h with
    | some (T', h') => some (.normal, T', h')
    | none => none
  | .region _ ops true, T, h => match xdraw P G call n ops ops.toList h.length T (h ++ holes (nAl ops.toList)) [] with
    | some (rs, T', h') => bif xdrawOk ops rs then some (.normal, T', h') else none
    | none => none
  | _, _, _ => none

section
variable {cx : Cx} {call : XCall} {n m lf : Nat}

theorem xops_sound (hcall : ∀ f args h r, call f args h = some r → FCall cx f args h r.1 r.2.1 r.2.2) (hn : n ≤ 4095) {ops : Array Oper} {K : Tm → AHeap → Prop} : ∀ (os : List Oper) (tt : Tt) (h : AHeap) (T : Tm) (r : Tt × AHeap), Tsame T tt →
    xops cx.P cx.G call n ops os tt h = some r → (∀ T', Tsame T' r.1 → K T' r.2) → aops cx n ops os T h K
  | [], tt, h, T, r, hs, hx, hk => by simp [xops] at hx; subst hx; exact hk T hs
  | o :: os, tt, h, T, r, hs, hx, hk => by
    simp only [xops] at hx
    cases hd : dstOk n o.dst with
    | false => rw [hd] at hx; simp at hx
    | true =>
      rw [hd] at hx
      simp only [cond_true, tguard_eq hs, tev_eq hs] at hx
      simp only [aops]
      refine ⟨hd, ?_⟩
      split at hx
      · rename_i hg
        rw [hg]
        split at hx
        · rename_i q hq
          rw [hq]
          exact xops_sound hcall hn os _ _ _ r (hs.put hn hd _) hx hk
        · rename_i hq
          rw [hq]
          split at hx
          · rename_i c hc
            rw [hc]
            split at hx <;> try (simp at hx; done)
            rename_i q hq'
            refine CallsA.mono (hcall _ _ _ _ hq').2.1 ?_
            rintro v h' ⟨rfl, rfl⟩
            exact xops_sound hcall hn os _ _ _ r (hs.put hn hd _) hx hk
          · rename_i hc
            rw [hc]
            split at hx <;> try (simp at hx; done)
            rename_i q hq'
            rw [hq']
            intro r' hr'
            rw [List.mem_singleton] at hr'
            subst hr'
            exact xops_sound hcall hn os _ _ _ r (hs.put hn hd _) hx hk
      · rename_i hg
        rw [hg]
        exact xops_sound hcall hn os _ _ _ r (hs.put hn hd _) hx hk
      · simp at hx

theorem xdraw_sound (hcall : ∀ f args h r, call f args h = some r → FCall cx f args h r.1 r.2.1 r.2.2) (hn : n ≤ 4095) {ops : Array Oper} {K : List (List Nat × List Nat) → Tm → AHeap → Prop} : ∀ (os : List Oper) (k : Nat) (tt : Tt) (h : AHeap) (rs : List (List Nat × List Nat)) (T : Tm) (r : List (List Nat × List Nat) × Tt × AHeap), Tsame T tt →
    xdraw cx.P cx.G call n ops os k tt h rs = some r → (∀ T', Tsame T' r.2.1 → K r.1 T' r.2.2) → adraw cx n ops os k T h rs K
  | [], k, tt, h, rs, T, r, hs, hx, hk => by simp [xdraw] at hx; subst hx; exact hk T hs
  | o :: os, k, tt, h, rs, T, r, hs, hx, hk => by
    simp only [xdraw] at hx
    cases hd : dstOk n o.dst with
    | false => rw [hd] at hx; simp at hx
    | true =>
      rw [hd] at hx
      simp only [cond_true, tguard_eq hs, tev_eq hs] at hx
      simp only [adraw]
      refine ⟨hd, ?_⟩
      split at hx
      · rename_i hg
        rw [hg]
        cases hal : isAl o.op with
        | true =>
          rw [hal] at hx
          simp only [cond_true] at hx ⊢
          split at hx <;> try (simp at hx; done)
          rename_i cs hcs
          rw [hcs]
          cases hh : isHole h k with
          | false => rw [hh] at hx; simp at hx
          | true =>
            rw [hh] at hx
            exact ⟨rfl, xdraw_sound hcall hn os _ _ _ _ _ r (hs.put hn hd _) hx hk⟩
        | false =>
          rw [hal] at hx
          simp only [cond_false] at hx ⊢
          split at hx
          · rename_i q hq
            rw [hq]
            exact xdraw_sound hcall hn os _ _ _ _ _ r (hs.put hn hd _) hx hk
          · rename_i hq
            rw [hq]
            split at hx
            · rename_i c hc
              rw [hc]
              split at hx <;> try (simp at hx; done)
              rename_i q hq'
              exact ⟨q.1, q.2.1, q.2.2, hcall _ _ _ _ hq', xdraw_sound hcall hn os _ _ _ _ _ r (hs.put hn hd _) hx hk⟩
            · simp at hx
      · rename_i hg
        rw [hg]
        exact xdraw_sound hcall hn os _ _ _ _ _ r (hs.put hn hd _) hx hk
      · simp at hx

theorem Tsame.ext {T T' : Tm} {tt : Tt} (hs : Tsame T tt) (he : ∀ t, Tm.get T t = Tm.get T' t) : Tsame T' tt := fun t => (he t).symm.trans (hs t)

theorem xcode_sound (hmix : cx.P.follows .mixedOrders = true) (hcall : ∀ f args h r, call f args h = some r → FCall cx f args h r.1 r.2.1 r.2.2) (hn : n ≤ 4095) : ∀ (c : Code) (tt : Tt) (h : AHeap) (T : Tm) (e : Exit) (tt' : Tt) (h' : AHeap) (Q : APost), Tsame T tt →
    xcode cx.P cx.G call n lf c tt h = some (e, tt', h') → (∀ T', Tsame T' tt' → Q e T' h') → wpA cx n m c Q T h
  | .skip, tt, h, T, e, tt', h', Q, hs, hx, hq => by simp [xcode] at hx; obtain ⟨rfl, rfl, rfl⟩ := hx; exact wpA_skip (hq T hs)
  | .ret, tt, h, T, e, tt', h', Q, hs, hx, hq => by simp [xcode] at hx; obtain ⟨rfl, rfl, rfl⟩ := hx; exact wpA_ret (hq T hs)
  | .exit id, tt, h, T, e, tt', h', Q, hs, hx, hq => by simp [xcode] at hx; obtain ⟨rfl, rfl, rfl⟩ := hx; exact wpA_exit (hq T hs)
  | .seq a b, tt, h, T, e, tt', h', Q, hs, hx, hq => by
    simp only [xcode] at hx
    refine wpA_seq ?_
    split at hx
    · rename_i T1 h1 hr
      exact xcode_sound hmix hcall hn a tt h T _ _ _ _ hs hr fun T' hT' => xcode_sound hmix hcall hn b _ _ T' _ _ _ Q hT' hx hq
    · rename_i r hne
      refine xcode_sound hmix hcall hn a tt h T _ _ _ _ hs hx ?_
      intro T' hT'
      cases e with
      | normal => exact (hne _ _ hx).elim
      | _ => exact hq T' hT'
  | .cond c a b, tt, h, T, e, tt', h', Q, hs, hx, hq => by
    simp only [xcode, tev_eq hs] at hx
    split at hx
    · rename_i hc; exact wpA_condT hc (xcode_sound hmix hcall hn a tt h T _ _ _ Q hs hx hq)
    · rename_i hc; exact wpA_condF hc (xcode_sound hmix hcall hn b tt h T _ _ _ Q hs hx hq)
    · simp at hx
  | .block id c, tt, h, T, e, tt', h', Q, hs, hx, hq => by
    simp only [xcode] at hx
    refine wpA_block ?_
    split at hx
    · rename_i id' T1 h1 hr
      refine xcode_sound hmix hcall hn c tt h T _ _ _ _ hs hr ?_
      intro T' hT'
      by_cases hid : id' = id
      · subst hid
        simp at hx
        obtain ⟨rfl, rfl, rfl⟩ := hx
        exact AIn_exit (hq T' hT')
      · have hb : Nat.beq id' id = false := nb_f hid
        rw [hb] at hx
        simp at hx
        obtain ⟨rfl, rfl, rfl⟩ := hx
        exact AIn_other hid (hq T' hT')
    · rename_i r hne
      refine xcode_sound hmix hcall hn c tt h T _ _ _ _ hs hx ?_
      intro T' hT'
      cases e with
      | exit id' => exact (hne _ _ _ hx).elim
      | _ => exact hq T' hT'
  | .loop c, tt, h, T, e, tt', h', Q, hs, hx, hq => by
    simp only [xcode] at hx
    refine wpA_loop (fun k T1 h1 => ∃ tt1, Tsame T1 tt1 ∧ xloop (xcode cx.P cx.G call n lf c) k tt1 h1 = some (e, tt', h')) lf ⟨tt, hs, hx⟩ ?_
    rintro k T1 h1 ⟨tt1, hs1, hx1⟩
    cases k with
    | zero => simp [xloop] at hx1
    | succ k =>
      simp only [xloop] at hx1
      split at hx1
      · rename_i T2 h2 hr
        exact xcode_sound hmix hcall hn c tt1 h1 T1 _ _ _ _ hs1 hr fun T' hT' => ⟨k, Nat.lt_succ_self k, T2, hT', hx1⟩
      · rename_i r hne
        refine xcode_sound hmix hcall hn c tt1 h1 T1 _ _ _ _ hs1 hx1 ?_
        intro T' hT'
        cases e with
        | normal => exact (hne _ _ hx1).elim
        | _ => exact hq T' hT'
  | .region id ops false, tt, h, T, e, tt', h', Q, hs, hx, hq => by
    simp only [xcode] at hx
    split at hx <;> simp at hx
    rename_i T1 h1 hr
    obtain ⟨rfl, rfl, rfl⟩ := hx
    exact wpA_region (xops_sound hcall hn _ tt h T _ hs hr hq)
  | .region id ops true, tt, h, T, e, tt', h', Q, hs, hx, hq => by
    simp only [xcode] at hx
    split at hx <;> try (simp at hx; done)
    rename_i rs T1 h1 hr
    cases hok : xdrawOk ops rs with
    | false => rw [hok] at hx; simp at hx
    | true =>
      rw [hok] at hx
      simp at hx
      obtain ⟨rfl, rfl, rfl⟩ := hx
      obtain ⟨g1, g2⟩ := xdrawOk_spec hok
      refine wpA_mono (wpA_draw hmix g1 (Q := fun e T' h'' => e = .normal ∧ Tsame T' T1 ∧ h'' = h1) ?_ ?_) ?_
      · rintro T2 T3 h3 ht ⟨_, a, b⟩
        exact ⟨rfl, a.ext ht, b⟩
      · exact xdraw_sound hcall hn _ _ tt _ [] T _ hs hr fun T' hT' => ⟨g2, rfl, hT', rfl⟩
      · rintro e T' h'' ⟨rfl, a, rfl⟩
        exact hq T' a
  | .rangeFunc _ _ _ _, tt, h, T, e, tt', h', Q, hs, hx, hq => by simp [xcode] at hx
  | .scope c, tt, h, T, e, tt', h', Q, hs, hx, hq => by
    simp only [xcode] at hx
    split at hx
    · simp at hx
    · rename_i r hne
      refine wpA_scope (xcode_sound hmix hcall hn c tt h T _ _ _ _ hs hx ?_)
      intro T' hT'
      cases e with
      | goto l => exact (hne _ _ _ hx).elim
      | _ => exact hq T' hT'
  | .label _, tt, h, T, e, tt', h', Q, hs, hx, hq => by simp [xcode] at hx; obtain ⟨rfl, rfl, rfl⟩ := hx; exact wpA_label (hq T hs)
  | .goto _, tt, h, T, e, tt', h', Q, hs, hx, hq => by simp [xcode] at hx
  | .refuse _, tt, h, T, e, tt', h', Q, hs, hx, hq => by simp [xcode] at hx

end
end Go.Proofs.YtindpcpdkikdmaaGreatDoor.Abs
namespace Go.Proofs.YtindpcpdkikdmaaGreatDoor.Abs

def idx : List Nat → Nat → Nat
  | [], _ => 0
  | x :: L, o => bif Nat.beq x o then 0 else idx L o + 1
def memB : List Nat → Nat → Bool
  | [], _ => false
  | x :: L, o => bif Nat.beq x o then true else memB L o
def nodupB : List Nat → Bool
  | [] => true
  | x :: L => bif memB L x then false else nodupB L

theorem memB_iff : ∀ (L : List Nat) (o : Nat), memB L o = true ↔ o ∈ L
  | [], o => by simp [memB]
  | x :: L, o => by
    simp only [memB]
    by_cases e : x = o
    · subst e; simp
    · have : Nat.beq x o = false := nb_f e
      rw [this, cond_false, memB_iff L o, List.mem_cons]
      exact ⟨.inr, fun h => h.resolve_left (fun h => e h.symm)⟩
theorem nodupB_spec : ∀ (L : List Nat), nodupB L = true → L.Nodup
  | [], _ => .nil
  | x :: L, h => by
    simp only [nodupB] at h
    cases hm : memB L x with
    | true => rw [hm] at h; simp at h
    | false =>
      rw [hm] at h
      refine List.nodup_cons.2 ⟨fun hx => ?_, nodupB_spec L (by simpa using h)⟩
      rw [(memB_iff L x).2 hx] at hm; simp at hm
theorem idx_get : ∀ (L : List Nat) (o : Nat), o ∈ L → L[idx L o]? = some o
  | [], o, h => by simp at h
  | x :: L, o, h => by
    simp only [idx]
    by_cases e : x = o
    · subst e; simp
    · have hb : Nat.beq x o = false := nb_f e
      rw [hb, cond_false, List.getElem?_cons_succ]
      exact idx_get L o (by simpa [Ne.symm e] using h)
theorem idx_lt {L : List Nat} {o : Nat} (h : memB L o = true) : idx L o < L.length := by
  have := idx_get L o ((memB_iff L o).1 h)
  exact (List.getElem?_eq_some_iff.1 this).1
theorem lendR_idx {L : List Nat} {o : Nat} (m : Nat) (h : memB L o = true) : lendR L m (idx L o) = o := lendR_lt m (idx_get L o ((memB_iff L o).1 h))

mutual
/-- All objects that a value names are in the list. -/
def AVal.win (L : List Nat) : AVal → Bool
  | .agg cs => winL L cs
  | .tup cs => winL L cs
  | .ptr o _ => memB L o
  | .pimm cs _ => winL L cs
  | .pown o _ _ _ => memB L o
  | .imm l => winL L l
  | .full l => winL L l
  | .own o _ _ => memB L o
  | .map o => memB L o
  | .fn _ xs ys => winL L xs && winL L ys
  | .itr o => memB L o
  | .iface _ v => v.win L
  | .any => true
  | .bool _ => true
  | .int _ _ => true
  | .str _ => true
  | .nilp => true
  | .nilm => true
  | .nilfn => true
  | .nili => true
def winL (L : List Nat) : List AVal → Bool
  | [] => true
  | x :: xs => x.win L && winL L xs
end
def winE (L : List Nat) : List (AVal × AVal) → Bool
  | [] => true
  | e :: es => e.1.win L && e.2.win L && winE L es
def AObj.winO (L : List Nat) : AObj → Bool
  | .hole => true
  | .box cs => winL L cs
  | .arr _ es _ => winL L es
  | .map es => winE L es
  | .iter m _ => memB L m

mutual
theorem win_ren (L : List Nat) (m : Nat) : ∀ x : AVal, x.win L = true → (x.ren (idx L)).ren (lendR L m) = x
  | .agg cs, h => by simp only [AVal.ren, winL_ren L m cs h]
  | .tup cs, h => by simp only [AVal.ren, winL_ren L m cs h]
  | .ptr o _, h => by simp only [AVal.ren, lendR_idx m h]
  | .pimm cs _, h => by simp only [AVal.ren, winL_ren L m cs h]
  | .pown o _ _ _, h => by simp only [AVal.ren, lendR_idx m h]
  | .imm l, h => by simp only [AVal.ren, winL_ren L m l h]
  | .full l, h => by simp only [AVal.ren, winL_ren L m l h]
  | .own o _ _, h => by simp only [AVal.ren, lendR_idx m h]
  | .map o, h => by simp only [AVal.ren, lendR_idx m h]
  | .fn _ xs ys, h => by
    simp only [AVal.win, Bool.and_eq_true] at h
    simp only [AVal.ren, winL_ren L m xs h.1, winL_ren L m ys h.2]
  | .itr o, h => by simp only [AVal.ren, lendR_idx m h]
  | .iface _ v, h => by simp only [AVal.ren, win_ren L m v h]
  | .any, _ => rfl
  | .bool _, _ => rfl
  | .int _ _, _ => rfl
  | .str _, _ => rfl
  | .nilp, _ => rfl
  | .nilm, _ => rfl
  | .nilfn, _ => rfl
  | .nili, _ => rfl
theorem winL_ren (L : List Nat) (m : Nat) : ∀ xs : List AVal, winL L xs = true → renL (lendR L m) (renL (idx L) xs) = xs
  | [], _ => rfl
  | x :: xs, h => by
    simp only [winL, Bool.and_eq_true] at h
    simp only [renL, win_ren L m x h.1, winL_ren L m xs h.2]
end
mutual
theorem win_bel (L : List Nat) : ∀ x : AVal, x.win L = true → (x.ren (idx L)).bel L.length = true
  | .agg cs, h => by simp only [AVal.ren, AVal.bel]; exact winL_bel L cs h
  | .tup cs, h => by simp only [AVal.ren, AVal.bel]; exact winL_bel L cs h
  | .ptr o _, h => by simp only [AVal.ren, AVal.bel]; simpa using idx_lt h
  | .pimm cs _, h => by simp only [AVal.ren, AVal.bel]; exact winL_bel L cs h
  | .pown o _ _ _, h => by simp only [AVal.ren, AVal.bel]; simpa using idx_lt h
  | .imm l, h => by simp only [AVal.ren, AVal.bel]; exact winL_bel L l h
  | .full l, h => by simp only [AVal.ren, AVal.bel]; exact winL_bel L l h
  | .own o _ _, h => by simp only [AVal.ren, AVal.bel]; simpa using idx_lt h
  | .map o, h => by simp only [AVal.ren, AVal.bel]; simpa using idx_lt h
  | .fn _ xs ys, h => by
    simp only [AVal.win, Bool.and_eq_true] at h
    simp only [AVal.ren, AVal.bel, winL_bel L xs h.1, winL_bel L ys h.2, Bool.and_self]
  | .itr o, h => by simp only [AVal.ren, AVal.bel]; simpa using idx_lt h
  | .iface _ v, h => by simp only [AVal.ren, AVal.bel]; exact win_bel L v h
  | .any, _ => rfl
  | .bool _, _ => rfl
  | .int _ _, _ => rfl
  | .str _, _ => rfl
  | .nilp, _ => rfl
  | .nilm, _ => rfl
  | .nilfn, _ => rfl
  | .nili, _ => rfl
theorem winL_bel (L : List Nat) : ∀ xs : List AVal, winL L xs = true → belL L.length (renL (idx L) xs) = true
  | [], _ => rfl
  | x :: xs, h => by
    simp only [winL, Bool.and_eq_true] at h
    simp only [renL, belL, win_bel L x h.1, winL_bel L xs h.2, Bool.and_self]
end
theorem winE_ren (L : List Nat) (m : Nat) : ∀ es, winE L es = true → renE (lendR L m) (renE (idx L) es) = es
  | [], _ => rfl
  | e :: es, h => by
    simp only [winE, Bool.and_eq_true] at h
    simp only [renE, win_ren L m _ h.1.1, win_ren L m _ h.1.2, winE_ren L m es h.2]
theorem winE_bel (L : List Nat) : ∀ es, winE L es = true → ((renE (idx L) es).all fun e => e.1.bel L.length && e.2.bel L.length) = true
  | [], _ => rfl
  | e :: es, h => by
    simp only [winE, Bool.and_eq_true] at h
    have := winE_bel L es h.2
    simp only [renE, List.all_cons, win_bel L _ h.1.1, win_bel L _ h.1.2, Bool.and_self, Bool.true_and]
    exact this
theorem winO_ren (L : List Nat) (m : Nat) (x : AObj) (h : x.winO L = true) : (x.ren (idx L)).ren (lendR L m) = x := by
  cases x <;> simp only [AObj.ren, AObj.winO] at h ⊢
  · rw [winL_ren L m _ h]
  · rw [winL_ren L m _ h]
  · rw [winE_ren L m _ h]
  · rw [lendR_idx m h]
theorem winO_bel (L : List Nat) (x : AObj) (h : x.winO L = true) : (x.ren (idx L)).belO L.length = true := by
  cases x <;> simp only [AObj.ren, AObj.winO, AObj.belO] at h ⊢
  · exact winL_bel L _ h
  · exact winL_bel L _ h
  · exact winE_bel L _ h
  · simpa using idx_lt h

mutual
def AVal.objs : AVal → List Nat
  | .agg cs => objsL cs
  | .tup cs => objsL cs
  | .ptr o _ => [o]
  | .pimm cs _ => objsL cs
  | .pown o _ _ _ => [o]
  | .imm l => objsL l
  | .full l => objsL l
  | .own o _ _ => [o]
  | .map o => [o]
  | .fn _ xs ys => objsL xs ++ objsL ys
  | .itr o => [o]
  | .iface _ v => v.objs
  | .any => []
  | .bool _ => []
  | .int _ _ => []
  | .str _ => []
  | .nilp => []
  | .nilm => []
  | .nilfn => []
  | .nili => []
def objsL : List AVal → List Nat
  | [] => []
  | x :: xs => x.objs ++ objsL xs
end
def objsE : List (AVal × AVal) → List Nat
  | [] => []
  | e :: es => e.1.objs ++ (e.2.objs ++ objsE es)
def AObj.objsO : AObj → List Nat
  | .hole => []
  | .box cs => objsL cs
  | .arr _ es _ => objsL es
  | .map es => objsE es
  | .iter m _ => [m]

def reachF (h : AHeap) : Nat → List Nat → List Nat → List Nat
  | 0, _, acc => acc
  | _ + 1, [], acc => acc
  | n + 1, o :: todo, acc => bif memB acc o then reachF h n todo acc else
      match h[o]? with
      | some x => reachF h n (x.objsO ++ todo) (acc ++ [o])
      | none => reachF h n todo (acc ++ [o])

def lendHs (h : AHeap) (L : List Nat) : List Nat → Option AHeap
  | [] => some []
  | o :: os => match h[o]? with
    | some x => bif x.winO L then
        match lendHs h L os with
        | some xs => some (x.ren (idx L) :: xs)
        | none => none
      else none
    | none => none

def iterOk (L : List Nat) : Nat → AHeap → Bool
  | _, [] => true
  | o, x :: h => (match x with
    | .iter m _ => memB L o || !(memB L m)
    | _ => true) && iterOk L (o + 1) h

theorem lendHs_spec {h : AHeap} {L : List Nat} : ∀ {os : List Nat} {hs : AHeap}, lendHs h L os = some hs → hs.length = os.length ∧
    (∀ (i : Nat) o x, os[i]? = some o → hs[i]? = some x → h[o]? = some (x.ren (lendR L h.length))) ∧ hs.all (AObj.belO L.length) = true
  | [], hs, hx => by simp [lendHs] at hx; subst hx; simp
  | o :: os, hs, hx => by
    simp only [lendHs] at hx
    split at hx <;> try (simp at hx; done)
    rename_i x ho
    cases hw : x.winO L with
    | false => rw [hw] at hx; simp at hx
    | true =>
      rw [hw] at hx
      simp only [cond_true] at hx
      split at hx <;> simp at hx
      rename_i xs hxs
      subst hx
      obtain ⟨g1, g2, g3⟩ := lendHs_spec hxs
      refine ⟨by simp [g1], ?_, ?_⟩
      · intro i p y hp hy
        cases i with
        | zero =>
          simp at hp hy
          subst hp hy
          rw [winO_ren L _ x hw]; exact ho
        | succ i => simp at hp hy; exact g2 i p y hp hy
      · simp only [List.all_cons, winO_bel L x hw, Bool.true_and]; exact g3

theorem iterOk_spec {L : List Nat} : ∀ {h : AHeap} {k : Nat}, iterOk L k h = true → ∀ (o m : Nat) left, h[o]? = some (.iter m left) → (k + o) ∉ L → m ∉ L
  | [], k, _, o, m, left, ho => by simp at ho
  | x :: h, k, hk, o, m, left, ho => by
    simp only [iterOk, Bool.and_eq_true] at hk
    cases o with
    | zero =>
      simp at ho
      subst ho
      intro hn hm
      have h1 := hk.1
      simp only [Bool.or_eq_true, Bool.not_eq_true'] at h1
      rcases h1 with h1 | h1
      · exact hn (by simpa using (memB_iff L k).1 h1)
      · rw [(memB_iff L m).2 hm] at h1; simp at h1
    | succ o =>
      simp at ho
      have := iterOk_spec hk.2 o m left ho
      rwa [show k + 1 + o = k + (o + 1) by omega] at this

section
variable {cx : Cx}

/-- A call on frozen arguments. -/
theorem CallsA_frz {f : FuncId} {args : List AVal} {h : AHeap} {K : AVal → AHeap → Prop} (hc : CallsA cx f (frzL h args) (frzH h (ownsL args)) K) : CallsA cx f args h K := by
  refine ⟨hc.1, fun ρ w cargs wf hg hv => ?_⟩
  obtain ⟨ρ1, q1, q2, q3, q4⟩ := freeze_all (ownsL args) wf (Fr.refl ρ h w)
  have hv1 : VRs ρ1 (frzH h (ownsL args)) w (frzL h args) cargs := by
    refine ⟨by rw [hv.1, frzL_map]; simp, fun i x u hx hu => ?_⟩
    rw [frzL_map] at hx
    simp at hx
    obtain ⟨y, hy, rfl⟩ := hx
    exact (hv.2 i y u hy hu).frz q2 q4 (fun o ho => ownsL_mem hy o ho)
  refine (hc.2 ρ1 w cargs q1 (fun g cs hg' => (hg g cs hg').nil_mono q2) hv1).mono ?_
  rintro e w' ⟨ρ2, cv, v', h', rfl, hk, r1, r2, r3, r4⟩
  exact ⟨ρ2, cv, v', h', rfl, hk, r1, r2, q2.trans r3, q3.comp r4⟩

mutual
theorem frz_indep (g h : AHeap) : ∀ x : AVal, x.owns = [] → x.frz g = x.frz h
  | .agg cs, e => by simp only [AVal.frz, frzL_indep g h cs e]
  | .tup cs, e => by simp only [AVal.frz, frzL_indep g h cs e]
  | .ptr _ _, _ => rfl
  | .pimm _ _, _ => rfl
  | .pown _ _ _ _, _ => rfl
  | .imm l, e => by simp only [AVal.frz, frzL_indep g h l e]
  | .full l, e => by simp only [AVal.frz, frzL_indep g h l e]
  | .own o _ _, e => by simp [AVal.owns] at e
  | .map _, _ => rfl
  | .fn _ xs ys, e => by
    simp only [AVal.owns, List.append_eq_nil_iff] at e
    simp only [AVal.frz, frzL_indep g h xs e.1, frzL_indep g h ys e.2]
  | .itr _, _ => rfl
  | .iface _ v, e => by simp only [AVal.frz, frz_indep g h v e]
  | .any, _ => rfl
  | .bool _, _ => rfl
  | .int _ _, _ => rfl
  | .str _, _ => rfl
  | .nilp, _ => rfl
  | .nilm, _ => rfl
  | .nilfn, _ => rfl
  | .nili, _ => rfl
theorem frzL_indep (g h : AHeap) : ∀ xs : List AVal, ownsL xs = [] → frzL g xs = frzL h xs
  | [], _ => rfl
  | x :: xs, e => by
    simp only [ownsL, List.append_eq_nil_iff] at e
    simp only [frzL, frz_indep g h x e.1, frzL_indep g h xs e.2]
end
mutual
theorem bel_ren (r : Nat → Nat) : ∀ x : AVal, x.bel 0 = true → x.ren r = x
  | .agg cs, h => by simp only [AVal.ren, belL_ren r cs h]
  | .tup cs, h => by simp only [AVal.ren, belL_ren r cs h]
  | .ptr o _, h => by simp [AVal.bel] at h
  | .pimm cs _, h => by simp only [AVal.ren, belL_ren r cs h]
  | .pown o _ _ _, h => by simp [AVal.bel] at h
  | .imm l, h => by simp only [AVal.ren, belL_ren r l h]
  | .full l, h => by simp only [AVal.ren, belL_ren r l h]
  | .own o _ _, h => by simp [AVal.bel] at h
  | .map o, h => by simp [AVal.bel] at h
  | .fn _ xs ys, h => by
    simp only [AVal.bel, Bool.and_eq_true] at h
    simp only [AVal.ren, belL_ren r xs h.1, belL_ren r ys h.2]
  | .itr o, h => by simp [AVal.bel] at h
  | .iface _ v, h => by simp only [AVal.ren, bel_ren r v h]
  | .any, _ => rfl
  | .bool _, _ => rfl
  | .int _ _, _ => rfl
  | .str _, _ => rfl
  | .nilp, _ => rfl
  | .nilm, _ => rfl
  | .nilfn, _ => rfl
  | .nili, _ => rfl
theorem belL_ren (r : Nat → Nat) : ∀ xs : List AVal, belL 0 xs = true → renL r xs = xs
  | [], _ => rfl
  | x :: xs, h => by
    simp only [belL, Bool.and_eq_true] at h
    simp only [renL, bel_ren r x h.1, belL_ren r xs h.2]
end
theorem frzH_other : ∀ (os : List Nat) (h : AHeap) (o : Nat), o ∉ os → (frzH h os)[o]? = h[o]?
  | [], h, o, _ => rfl
  | p :: os, h, o, ho => by
    simp only [List.mem_cons, not_or] at ho
    simp only [frzH]
    split
    · rw [frzH_other os _ o ho.2, List.getElem?_set_ne (fun e => ho.1 e.symm)]
    · exact frzH_other os h o ho.2

abbrev XRun := FuncId → List AVal → AHeap → Option (AVal × AHeap)

def xlend (run : XRun) (f : FuncId) (owns : List Nat) (args : List AVal) (h : AHeap) : Option (List Nat × AVal × AHeap) :=
  let L := reachF h 100000 (objsL args) []
  bif nodupB L && winL L args && iterOk L 0 h then
    match lendHs h L L with
    | some hs => match run f (renL (idx L) args) hs with
      | some (v, hs') => bif (owns ++ L ++ List.range' h.length (hs'.length - L.length)).isEmpty && !(v.bel 0 && hs'.isEmpty) then none else
          some (owns ++ L ++ List.range' h.length (hs'.length - L.length), v.ren (lendR L h.length), lendH h L hs')
      | none => none
    | none => none
  else none

def xcall (hook : XCall) (run : XRun) (raw : FuncId → Bool) (f : FuncId) (args : List AVal) (h : AHeap) : Option (List Nat × AVal × AHeap) :=
  match hook f args h with
  | some r => some r
  | none => bif raw f then xlend run f [] args h else xlend run f (ownsL args) (frzL h args) (frzH h (ownsL args))

def RunOk (cx : Cx) (run : XRun) : Prop := ∀ f args h r, run f args h = some r → CallsA cx f args h fun v h' => v = r.1 ∧ h' = r.2

theorem xlend_sound {run : XRun} (hrun : RunOk cx run) {f : FuncId} {owns : List Nat} {args : List AVal} {h : AHeap} {r : List Nat × AVal × AHeap} (hx : xlend run f owns args h = some r) :
    (∀ o, o ∉ r.1 → r.2.2[o]? = h[o]?) ∧ (∀ o ∈ owns, o ∈ r.1) ∧ (CallsA cx f args h fun v' g' => v' = r.2.1 ∧ g' = r.2.2) ∧ (r.1 = [] → CallsP cx f args r.2.1 ∧ belL 0 args = true ∧ r.2.1.bel 0 = true) := by
  unfold xlend at hx
  dsimp only at hx
  generalize hL : reachF h 100000 (objsL args) [] = L at hx
  cases hc : nodupB L && winL L args && iterOk L 0 h with
  | false => rw [hc] at hx; simp at hx
  | true =>
    rw [hc] at hx
    simp only [cond_true] at hx
    simp only [Bool.and_eq_true] at hc
    obtain ⟨⟨c1, c2⟩, c3⟩ := hc
    split at hx <;> try (simp at hx; done)
    rename_i hs hhs
    split at hx <;> try (simp at hx; done)
    rename_i v hs' hr
    obtain ⟨g1, g2, g3⟩ := lendHs_spec hhs
    have le : Lend h L hs := ⟨g1, nodupB_spec L c1, g2, by rw [g1]; exact g3, fun o m left ho hn => iterOk_spec c3 o m left ho (by simpa using hn)⟩
    have hA := hrun _ _ _ _ hr
    cases hz : (owns ++ L ++ List.range' h.length (hs'.length - L.length)).isEmpty && !(v.bel 0 && hs'.isEmpty) with
    | true => rw [hz] at hx; simp at hx
    | false =>
      rw [hz] at hx
      simp only [cond_false, Option.some.injEq] at hx
      subst hx
      have hcall : CallsA cx f args h fun v' g' => v' = v.ren (lendR L h.length) ∧ g' = lendH h L hs' := by
        have := CallsA_lend (K := fun v' g' => v' = v.ren (lendR L h.length) ∧ g' = lendH h L hs') le hA (by rw [g1]; exact winL_bel L args c2) (by
          rintro v' hs1 _ ⟨rfl, rfl⟩; exact ⟨rfl, rfl⟩)
        rwa [winL_ren L h.length args c2] at this
      refine ⟨?_, fun o ho => by simp [ho], hcall, ?_⟩
      · intro o ho
        simp only [List.mem_append, not_or, List.mem_range'_1] at ho
        by_cases hlt : o < h.length
        · exact lendH_other ho.1.2 hlt
        · have hge : h.length + (hs'.length - L.length) ≤ o := by omega
          rw [List.getElem?_eq_none (l := h) (by omega), List.getElem?_eq_none]
          unfold lendH
          rw [List.length_append, setAll_length, renH_map]
          simp; omega
      · intro he
        dsimp only at he
        have hL0 : L = [] := by
          simp only [List.append_eq_nil_iff] at he; exact he.1.2
        rw [show (owns ++ L ++ List.range' h.length (hs'.length - L.length)).isEmpty = true from by rw [he]; rfl] at hz
        simp only [Bool.true_and, Bool.not_eq_false', Bool.and_eq_true, List.isEmpty_iff] at hz
        subst hL0
        have hb : belL 0 (renL (idx []) args) = true := winL_bel [] args c2
        have hba : renL (idx []) args = args := by
          have e1 := winL_ren [] 0 args c2
          rw [belL_ren _ _ hb] at e1
          exact e1
        rw [hba] at hb hr hA
        obtain ⟨hv, hs0⟩ := hz
        subst hs0
        have hsnil : hs = [] := by simpa using g1
        subst hsnil
        refine ⟨?_, hb, by dsimp only; rw [bel_ren _ _ hv]; exact hv⟩
        dsimp only
        rw [bel_ren _ _ hv]
        exact hA

theorem xcall_sound {hook : XCall} {run : XRun} {raw : FuncId → Bool} (hhook : ∀ f args h r, hook f args h = some r → FCall cx f args h r.1 r.2.1 r.2.2) (hrun : RunOk cx run) :
    ∀ f args h r, xcall hook run raw f args h = some r → FCall cx f args h r.1 r.2.1 r.2.2 := by
  intro f args h r hx
  unfold xcall at hx
  split at hx
  · rename_i q hq
    simp at hx; subst hx
    exact hhook _ _ _ _ hq
  · cases hraw : raw f with
    | true =>
      rw [hraw] at hx
      obtain ⟨h1, h2, h3, h4⟩ := xlend_sound hrun hx
      refine ⟨h1, h3, fun e => ?_⟩
      obtain ⟨h5, h6, h7⟩ := h4 e
      intro g
      -- no object is named, so nothing is frozen but what is fresh
      have key := CallsA_lend (cx := cx) (h := g) (L := []) (hs := []) (args := args) (Q := fun v' g' => v' = r.2.1 ∧ g' = []) (K := fun v' g' => v' = r.2.1 ∧ g' = g) ⟨rfl, .nil, by simp, rfl, by simp⟩ h5 h6 (by
        rintro v' hs' _ ⟨rfl, rfl⟩
        refine ⟨?_, by simp [lendH, setAll, renH]⟩
        exact bel_ren _ _ h7)
      rwa [belL_ren _ _ h6] at key
    | false =>
      rw [hraw] at hx
      obtain ⟨h1, h2, h3, h4⟩ := xlend_sound hrun hx
      refine ⟨fun o ho => ?_, CallsA_frz h3, fun e => ?_⟩
      · rw [h1 o ho, frzH_other _ _ _ (fun hin => ho (h2 o hin))]
      · obtain ⟨h5, h6, h7⟩ := h4 e
        have ho : ownsL args = [] := by
          rcases hoo : ownsL args with _ | ⟨o, os⟩
          · rfl
          · have := h2 o (by rw [hoo]; simp); rw [e] at this; simp at this
        intro g
        refine CallsA_pure (by rw [frzL_indep g h args ho]; exact h5) (by rw [frzL_indep g h args ho]; exact h6) ?_
        rw [ho]
        exact ⟨rfl, rfl⟩

end
end Go.Proofs.YtindpcpdkikdmaaGreatDoor.Abs
namespace Go.Proofs.YtindpcpdkikdmaaGreatDoor.Abs

def tres (P : Program) (T : Tt) (h : AHeap) : List ResultVar → Option (List AVal)
  | [] => some []
  | .tmp t :: rs => match tres P T h rs with
    | some l => some (T.get t :: l)
    | none => none
  | .cell a t :: rs => match aview h (T.get a) with
    | some r => match aload P t r.1 r.2 with
      | some x => match tres P T h rs with
        | some l => some (x :: l)
        | none => none
      | none => none
    | none => none

theorem tres_eq {P : Program} {T : Tm} {tt : Tt} (hs : Tsame T tt) (h : AHeap) : ∀ rs, tres P tt h rs = ares P T h rs
  | [] => rfl
  | .tmp t :: rs => by
    simp only [tres, ares, tres_eq hs h rs]
    cases ares P T h rs with
    | none => rfl
    | some l => dsimp only; rw [hs t]
  | .cell a t :: rs => by
    simp only [tres, ares, tres_eq hs h rs, hs a]
    cases aview h (tt.get a) with
    | none => rfl
    | some r =>
      dsimp only
      cases aload P t r.1 r.2 with
      | none => rfl
      | some x =>
        dsimp only
        cases ares P T h rs <;> rfl

def ttOf : Nat → List AVal → Tt → Tt
  | _, [], T => T
  | k, x :: xs, T => ttOf (k + 1) xs (T.setF 12 k x)

theorem ttOf_get : ∀ (xs : List AVal) (k : Nat) (T : Tt) (t : Nat), k + xs.length ≤ 4095 → (ttOf k xs T).get t = if k ≤ t ∧ t < k + xs.length then (xs[t - k]?).getD .any else T.get t
  | [], k, T, t, _ => by simp [ttOf]; intro h1 h2; omega
  | x :: xs, k, T, t, h => by
    simp only [List.length_cons] at h ⊢
    rw [ttOf, ttOf_get xs (k + 1) _ t (by omega), Tt.get_set 12 T k x t (by show k + 1 < 4096; omega)]
    by_cases e : t = k
    · subst e
      rw [if_neg (by omega), if_pos rfl, if_pos (by omega)]; simp
    · rw [if_neg e]
      by_cases h1 : k + 1 ≤ t ∧ t < k + 1 + xs.length
      · rw [if_pos h1, if_pos (by omega), show t - k = (t - (k + 1)) + 1 by omega]; simp
      · rw [if_neg h1, if_neg (by omega)]

theorem ttOf_same (xs : List AVal) (h : xs.length ≤ 4095) : Tsame (atmps 0 xs) (ttOf 0 xs .e) := by
  intro t
  rw [atmps_get, ttOf_get xs 0 .e t (by omega), Tt.get_e]
  simp only [Nat.zero_le, if_true, Nat.sub_zero, true_and, Nat.zero_add]
  by_cases e : t < xs.length
  · rw [if_pos e]
  · rw [if_neg e, List.getElem?_eq_none (by omega)]; rfl

def jOk (v : AVal) (h : AHeap) (j : Nat) : Bool := v.bel j && (h.take j).all (AObj.belO j)
def firstJ (v : AVal) (h : AHeap) : Nat → Nat → Option Nat
  | 0, j => bif jOk v h j then some j else none
  | c + 1, j => bif jOk v h j then some j else firstJ v h c (j + 1)
theorem firstJ_spec {v : AVal} {h : AHeap} : ∀ {c j k : Nat}, firstJ v h c j = some k → j ≤ k ∧ jOk v h k = true
  | 0, j, k, hx => by
    simp only [firstJ] at hx
    cases hj : jOk v h j with
    | false => rw [hj] at hx; simp at hx
    | true => rw [hj] at hx; simp at hx; subst hx; exact ⟨Nat.le_refl _, hj⟩
  | c + 1, j, k, hx => by
    simp only [firstJ] at hx
    cases hj : jOk v h j with
    | false =>
      rw [hj] at hx; simp at hx
      obtain ⟨h1, h2⟩ := firstJ_spec hx
      exact ⟨by omega, h2⟩
    | true => rw [hj] at hx; simp at hx; subst hx; exact ⟨Nat.le_refl _, hj⟩

def Exit.fine : Exit → Bool
  | .normal => true
  | .ret => true
  | _ => false

def xfin (raw : Bool) (m : Nat) (v : AVal) (h : AHeap) : Option (AVal × AHeap) :=
  bif raw then (match firstJ v h (h.length - m) m with
    | some j => some (v, h.take j)
    | none => none)
  else match firstJ (v.frz h) (frzH h v.owns) (h.length - m) m with
    | some j => some (v.frz h, (frzH h v.owns).take j)
    | none => none

structure XP where
  lf : Nat
  rawArg : FuncId → Bool
  rawRes : FuncId → FuncId → Bool

def xfun (P : Program) (G : Nat → Option (List AVal)) (hook : XCall) (p : XP) : Nat → Bool → XRun
  | 0, _, _, _, _ => none
  | n + 1, raw, f, args, h => match P.funcs[f]? with
    | some fn => match fn.body with
      | some c => bif Nat.ble args.length fn.ntmps && Nat.ble fn.ntmps 4095 then
          match xcode P G (xcall hook (fun g => xfun P G hook p n (p.rawRes f g) g) p.rawArg) fn.ntmps p.lf c (ttOf 0 args .e) h with
          | some (e, T, h') => bif Exit.fine e then
              match tres P T h' fn.results.toList with
              | some l => xfin raw h.length (awrap l) h'
              | none => none
            else none
          | none => none
        else none
      | none => none
    | none => none

section
variable {cx : Cx}

theorem xfun_sound (hmix : cx.P.follows .mixedOrders = true) (hname : ∀ (f : FuncId) (fn : Func), cx.P.funcs[f]? = some fn → (fn.name == "runtime.NumGoroutine") = false) {hook : XCall} (hhook : ∀ f args h r, hook f args h = some r → FCall cx f args h r.1 r.2.1 r.2.2) {p : XP} : ∀ n raw, RunOk cx (xfun cx.P cx.G hook p n raw)
  | 0, _ => fun f args h r hx => by simp [xfun] at hx
  | n + 1, raw => fun f args h r hx => by
    simp only [xfun] at hx
    split at hx <;> try (simp at hx; done)
    rename_i fn hf
    split at hx <;> try (simp at hx; done)
    rename_i c hb
    cases hc : Nat.ble args.length fn.ntmps && Nat.ble fn.ntmps 4095 with
    | false => rw [hc] at hx; simp at hx
    | true =>
      rw [hc] at hx
      simp only [Bool.and_eq_true, Nat.ble_eq] at hc
      simp only [cond_true] at hx
      split at hx <;> try (simp at hx; done)
      rename_i e T h' hr
      cases he : Exit.fine e with
      | false => rw [he] at hx; simp at hx
      | true =>
        rw [he] at hx
        simp only [cond_true] at hx
        split at hx <;> try (simp at hx; done)
        rename_i l hl
        have hcall := xcall_sound (raw := p.rawArg) (run := fun g => xfun cx.P cx.G hook p n (p.rawRes f g) g) hhook (fun g args h r hx => xfun_sound hmix hname hhook (p := p) n _ g args h r hx)
        have hfine : e = .normal ∨ e = .ret := by cases e <;> simp [Exit.fine] at he <;> simp
        unfold xfin at hx
        cases raw with
        | true =>
          simp only [cond_true] at hx
          split at hx <;> simp at hx
          rename_i j hj
          subst hx
          obtain ⟨j1, j2⟩ := firstJ_spec hj
          simp only [jOk, Bool.and_eq_true] at j2
          refine CallsA_of_body_raw hf hb (hname f fn hf) hc.1 ?_
          refine xcode_sound hmix hcall hc.2 c _ h _ _ _ _ _ (ttOf_same args (Nat.le_trans hc.1 hc.2)) hr ?_
          intro T' hT'
          exact ⟨hfine, l, by rw [← tres_eq hT']; exact hl, j, j1, j2.1, j2.2, rfl, rfl⟩
        | false =>
          simp only [cond_false] at hx
          split at hx <;> simp at hx
          rename_i j hj
          subst hx
          obtain ⟨j1, j2⟩ := firstJ_spec hj
          simp only [jOk, Bool.and_eq_true] at j2
          refine CallsA_of_body hf hb (hname f fn hf) hc.1 ?_
          refine xcode_sound hmix hcall hc.2 c _ h _ _ _ _ _ (ttOf_same args (Nat.le_trans hc.1 hc.2)) hr ?_
          intro T' hT'
          exact ⟨hfine, l, by rw [← tres_eq hT']; exact hl, j, j1, j2.1, j2.2, rfl, rfl⟩

end
end Go.Proofs.YtindpcpdkikdmaaGreatDoor.Abs
namespace Go.Proofs.YtindpcpdkikdmaaGreatDoor.Abs

def child (i : Nat) : Code → Code
  | .seq a b => bif Nat.beq i 0 then a else b
  | .cond _ a b => bif Nat.beq i 0 then a else b
  | .block _ c => c
  | .loop c => c
  | c => c
/-- The code at a place; the innermost step stands first. -/
def at_ (c : Code) : List Nat → Code
  | [] => c
  | i :: p => child i (at_ c p)
def kindOf : Code → Nat
  | .seq _ _ => 1
  | .cond _ _ _ => 2
  | .block _ _ => 3
  | .loop _ => 4
  | .skip => 7
  | .ret => 8
  | .exit _ => 9
  | _ => 0
def condOp : Code → Operand
  | .cond o _ _ => o
  | _ => .const (.bool false)
def idOf : Code → Nat
  | .block id _ => id
  | .exit id => id
  | _ => 0
def opsOf : Code → Array Oper
  | .region _ ops _ => ops
  | _ => #[]
def bOf (n : Nat) (c : Code) : List BOp := match cOps n (opsOf c) (opsOf c).toList with
  | some l => l
  | none => []
def ordOk (n : Nat) : Code → Bool
  | .region _ ops false => (cOps n ops ops.toList).isSome
  | _ => false
def drwOk (n : Nat) : Code → Bool
  | .region _ ops true => (cOps n ops ops.toList).isSome && edgesOk 0 ops.toList
  | _ => false

def ExtQ (Q : APost) : Prop := ∀ T T' h, (∀ t, Tm.get T t = Tm.get T' t) → Q .normal T h → Q .normal T' h
def ExtK (K : Tm → AHeap → Prop) : Prop := ∀ T T' h, (∀ t, Tm.get T t = Tm.get T' t) → K T h → K T' h

section
variable {cx : Cx} {n m : Nat} {Q : APost} {T : Tm} {h : AHeap} {c : Code} {p : List Nat}

theorem wSeq (hk : kindOf (at_ c p) = 1) (hw : wpA cx n m (at_ c (0 :: p)) (AThen (wpA cx n m (at_ c (1 :: p)) Q) Q) T h) : wpA cx n m (at_ c p) Q T h := by
  simp only [at_] at hw
  generalize at_ c p = d at hk hw
  cases d <;> simp [kindOf] at hk
  exact wpA_seq hw
theorem wIf (hk : kindOf (at_ c p) = 2) (b : Bool) (hb : aev cx.G T (condOp (at_ c p)) = .bool b) (h1 : b = true → wpA cx n m (at_ c (0 :: p)) Q T h) (h2 : b = false → wpA cx n m (at_ c (1 :: p)) Q T h) : wpA cx n m (at_ c p) Q T h := by
  simp only [at_] at h1 h2
  generalize at_ c p = d at hk hb h1 h2
  cases d <;> simp [kindOf] at hk
  exact wpA_condB b hb h1 h2
theorem wIfT (hk : kindOf (at_ c p) = 2) (hb : aev cx.G T (condOp (at_ c p)) = .bool true) (h1 : wpA cx n m (at_ c (0 :: p)) Q T h) : wpA cx n m (at_ c p) Q T h :=
  wIf hk true hb (fun _ => h1) (fun e => by cases e)
theorem wIfF (hk : kindOf (at_ c p) = 2) (hb : aev cx.G T (condOp (at_ c p)) = .bool false) (h2 : wpA cx n m (at_ c (1 :: p)) Q T h) : wpA cx n m (at_ c p) Q T h :=
  wIf hk false hb (fun e => by cases e) (fun _ => h2)
theorem wBlock (id : Nat) (hk : kindOf (at_ c p) = 3) (hid : idOf (at_ c p) = id) (hw : wpA cx n m (at_ c (0 :: p)) (AIn id Q) T h) : wpA cx n m (at_ c p) Q T h := by
  simp only [at_] at hw
  generalize at_ c p = d at hk hid hw
  cases d <;> simp [kindOf] at hk
  simp only [idOf] at hid
  subst hid
  exact wpA_block hw
theorem wSkip (hk : kindOf (at_ c p) = 7) (hq : Q .normal T h) : wpA cx n m (at_ c p) Q T h := by
  generalize at_ c p = d at hk
  cases d <;> simp [kindOf] at hk
  exact wpA_skip hq
theorem wRet (hk : kindOf (at_ c p) = 8) (hq : Q .ret T h) : wpA cx n m (at_ c p) Q T h := by
  generalize at_ c p = d at hk
  cases d <;> simp [kindOf] at hk
  exact wpA_ret hq
theorem wExit (id : Nat) (hk : kindOf (at_ c p) = 9) (hid : idOf (at_ c p) = id) (hq : Q (.exit id) T h) : wpA cx n m (at_ c p) Q T h := by
  generalize at_ c p = d at hk hid
  cases d <;> simp [kindOf] at hk
  simp only [idOf] at hid
  subst hid
  exact wpA_exit hq
theorem wOrd (hk : ordOk n (at_ c p) = true) (hw : bops cx (bOf n (at_ c p)) T h (fun T' h' => Q .normal T' h')) : wpA cx n m (at_ c p) Q T h := by
  generalize at_ c p = d at hk hw
  unfold ordOk at hk
  split at hk <;> try (simp at hk; done)
  rename_i id ops
  obtain ⟨l, hl⟩ := Option.isSome_iff_exists.1 hk
  simp only [bOf, opsOf, hl] at hw
  exact wpA_region (bops_aops _ _ _ _ hl hw)
theorem wDrw (hm : cx.P.follows .mixedOrders = true) (hk : drwOk n (at_ c p) = true) (hq : ExtQ Q)
    (hw : bdraw cx (bOf n (at_ c p)) h.length T (h ++ holes (nAl (opsOf (at_ c p)).toList)) [] (fun rs T' h' => drawAll (opsOf (at_ c p)) rs = true ∧ Q .normal T' h')) : wpA cx n m (at_ c p) Q T h := by
  generalize at_ c p = d at hk hw
  unfold drwOk at hk
  split at hk <;> try (simp at hk; done)
  rename_i id ops
  rw [Bool.and_eq_true] at hk
  obtain ⟨l, hl⟩ := Option.isSome_iff_exists.1 hk.1
  simp only [bOf, opsOf, hl] at hw
  exact wpA_draw hm hk.2 hq (bdraw_adraw _ _ _ _ _ _ hl hw)
theorem wLoop {σ : Type} (S : σ → Tm) (H : σ → AHeap) (I : σ → Prop) (μ : σ → Nat) (s0 : σ) (hk : kindOf (at_ c p) = 4) (i0 : I s0) (h0 : Forget m T h (S s0) (H s0))
    (round : ∀ s, I s → wpA cx n m (at_ c (0 :: p)) (AThen (fun T' h' => ∃ s', μ s' < μ s ∧ I s' ∧ Forget m T' h' (S s') (H s')) Q) (S s) (H s)) : wpA cx n m (at_ c p) Q T h := by
  simp only [at_] at round
  generalize at_ c p = d at hk round
  cases d <;> simp [kindOf] at hk
  exact wpA_states S H I μ s0 i0 h0 round
/-- The state as it is written. -/
theorem wSt (L : List Nat) (T' : Tm) (h' : AHeap) (hT : prune L T = T') (hh : h = h') {d : Code} (hw : wpA cx n m d Q T' h') : wpA cx n m d Q T h := by
  subst hT hh
  exact wpA_weak (fun t => prune_get L T t) hw
/-- The empty slice as an array of one's own. -/
theorem wOwn (d sz : Nat) (hsz : 0 < sz) (hT : Tm.get T d = .full []) {d' : Code} (hw : wpA cx n m d' Q ((d, .own h.length 0 0) :: T) (h ++ [.arr sz [] 0])) : wpA cx n m d' Q T h := by
  intro E B ρ a w hm hr
  have hst := step_gen (h' := h ++ [.arr sz [] 0]) (w' := w) hr.wf hr.fr h.length (.arr sz [] 0) ⟨0, 0, 0⟩ ρ.I (getElem?_append_one _ _) (fun o' ho => get_append_other _ _ _ ho)
    rfl rfl rfl (Nat.le_refl _) (fun _ _ _ => rfl) (by simp) (fun b j hI => ⟨hI, rfl⟩) (fun b j hI => .inl hI)
    (fun hb => by simp [AObj.hasBlk] at hb) (fun j hb => by simp [AObj.hasBlk] at hb) (no_iter_of_new hr.wf)
    (fun _ => ⟨Nat.le_refl _, Nat.le_refl _, hsz, by simp, fun hc => by simp at hc⟩)
  have hr2 := hr.step hst.1 hst.2.1 hst.2.2
  refine hw E B _ a w hm ⟨fun t => ?_, hr2.size, hr2.defers, hr2.glob, hr2.wf, hr2.fr, hr2.le⟩
  simp only [Tm.get]
  by_cases e : d = t
  · subst e
    rw [if_pos rfl]
    have hv := hr.tm d
    rw [hT] at hv
    obtain ⟨ad, hv2⟩ : ∃ ad, a.tmps.getD d undef = .slice ad 0 0 := by
      cases hce : a.tmps.getD d undef <;> rw [hce] at hv <;> cases hv
      exact ⟨_, rfl⟩
    rw [hv2]
    refine .own _ _ _ _ _ _ sz [] 0 (getElem?_append_one _ _) ⟨by simp, fun _ => ⟨rfl, ?_, fun h0 => by simp at h0⟩⟩
    rw [Ren.put_same]
  · rw [if_neg e]; exact hr2.tm t
theorem extThen {d : Code} {Q' : APost} : ExtQ (AThen (wpA cx n m d Q) Q') := fun _ _ _ he hw => wpA_ext he hw
theorem extIn {id : Nat} (hq : ExtQ Q) : ExtQ (AIn id Q) := fun T T' h he hw => hq T T' h he hw
theorem LeL.ext {T T' : Tm} (he : ∀ t, Tm.get T t = Tm.get T' t) : ∀ {S : Tm}, LeL T S → LeL T' S
  | [], _ => trivial
  | p :: S, hl => ⟨(he p.1).symm.trans hl.1, LeL.ext he hl.2⟩
theorem Forget.ext {T T' S : Tm} {g : AHeap} (he : ∀ t, Tm.get T t = Tm.get T' t) (hf : Forget m T h S g) : Forget m T' h S g := ⟨hf.le.ext he, hf.bel, hf.len, hf.heap, hf.objs⟩
/-! Regions. -/
def hdB : List BOp → BOp
  | o :: _ => o
  | [] => ⟨none, none, .move (.const (.bool false))⟩
def isCons : List BOp → Bool
  | _ :: _ => true
  | [] => false
abbrev RSt := Tm × AHeap
def run1 (P : Program) (G : Nat → Option (List AVal)) (o : BOp) (S : RSt) : Option RSt := match bguard S.1 o.g with
  | some true => match aop P S.2 (aev G S.1) o.op with
    | some r => some (aput S.1 o.dst r.1, r.2)
    | none => none
  | some false => some (aput S.1 o.dst (.tup []), S.2)
  | none => none
def runN (P : Program) (G : Nat → Option (List AVal)) : Nat → List BOp → RSt → Option RSt
  | 0, _, S => some S
  | j + 1, o :: os, S => match run1 P G o S with
    | some r => runN P G j os r
    | none => none
  | _ + 1, [], _ => none
def rS : Option RSt → RSt
  | some r => r
  | none => ([], [])
/-- One slot is written. -/
def putS (S : RSt) (d : Option Nat) (v : AVal) : RSt := (aput S.1 d v, S.2)
/-- One slot is written, one object changes. -/
def putO (S : RSt) (d : Option Nat) (v : AVal) (o : Nat) (x : AObj) : RSt := (aput S.1 d v, S.2.set o x)
/-- One slot is written, arrays are frozen. -/
def putF (S : RSt) (d : Option Nat) (v : AVal) (os : List Nat) : RSt := (aput S.1 d v, frzH S.2 os)
def setS (S : RSt) (d : Nat) (y : AVal) : RSt := ((d, y) :: S.1, S.2)
structure bS (cx : Cx) (l : List BOp) (S : RSt) (K : Tm → AHeap → Prop) : Prop where
  out : bops cx l S.1 S.2 K

variable {l : List BOp} {K : Tm → AHeap → Prop} {S : RSt}

theorem vstart (hk : bS cx l (T, h) K) : bops cx l T h K := hk.out
theorem vrun (j : Nat) (ho : (runN cx.P cx.G j l S).isSome = true) (hk : bS cx (l.drop j) (rS (runN cx.P cx.G j l S)) K) : bS cx l S K := by
  induction j generalizing l S with
  | zero => simpa [runN, rS] using hk
  | succ j ih =>
    cases l with
    | nil => simp [runN] at ho
    | cons o os =>
      simp only [runN] at ho hk
      cases h1 : run1 cx.P cx.G o S with
      | none => rw [h1] at ho; simp at ho
      | some r =>
        rw [h1] at ho hk
        have := (ih ho (by simpa using hk)).out
        unfold run1 at h1
        refine ⟨?_⟩
        simp only [bops]
        split at h1
        · rename_i hg
          rw [hg]
          split at h1 <;> simp at h1
          rename_i q hq
          simp only [gsel, hq, osel]
          subst h1
          exact this
        · rename_i hg
          rw [hg]
          simp at h1
          subst h1
          exact this
        · simp at h1
theorem vsymH {v : AVal} {h' : AHeap} (hc : isCons l = true) (hg : bguard S.1 (hdB l).g = some true) (ho : aop cx.P S.2 (aev cx.G S.1) (hdB l).op = some (v, h')) (hk : bS cx l.tail (aput S.1 (hdB l).dst v, h') K) : bS cx l S K := by
  cases l with
  | nil => simp [isCons] at hc
  | cons o os =>
    refine ⟨?_⟩
    simp only [hdB] at hg ho
    simp only [bops, hg, gsel, ho, osel]
    exact hk.out
theorem vsym {v : AVal} (hc : isCons l = true) (hg : bguard S.1 (hdB l).g = some true) (ho : aop cx.P S.2 (aev cx.G S.1) (hdB l).op = some (v, S.2)) (hk : bS cx l.tail (putS S (hdB l).dst v) K) : bS cx l S K := vsymH hc hg ho hk
theorem vsymO {v : AVal} {o : Nat} {x : AObj} (hc : isCons l = true) (hg : bguard S.1 (hdB l).g = some true) (ho : aop cx.P S.2 (aev cx.G S.1) (hdB l).op = some (v, S.2.set o x)) (hk : bS cx l.tail (putO S (hdB l).dst v o x) K) : bS cx l S K := vsymH hc hg ho hk
theorem vcall {f : FuncId} {args : List AVal} {q : AVal → AHeap → Prop} (hc : isCons l = true) (hg : bguard S.1 (hdB l).g = some true) (ho : aop cx.P S.2 (aev cx.G S.1) (hdB l).op = none) (ha : acallee (aev cx.G S.1) (hdB l).op = some (f, args)) (hq : CallsA cx f args S.2 q)
    (hk : ∀ v h', q v h' → bS cx l.tail (aput S.1 (hdB l).dst v, h') K) : bS cx l S K := by
  cases l with
  | nil => simp [isCons] at hc
  | cons o os =>
    simp only [hdB] at hg ho ha
    refine ⟨?_⟩
    simp only [bops, hg, gsel, ho, osel, ha, csel]
    exact hq.mono fun v h' q => (hk v h' q).out
theorem vcallF {f : FuncId} {args args' : List AVal} {v : AVal} (hc : isCons l = true) (hg : bguard S.1 (hdB l).g = some true) (ho : aop cx.P S.2 (aev cx.G S.1) (hdB l).op = none) (ha : acallee (aev cx.G S.1) (hdB l).op = some (f, args)) (hq : CallsP cx f args' v) (hf : frzL S.2 args = args') (hb : belL 0 args' = true)
    (hk : bS cx l.tail (putF S (hdB l).dst v (ownsL args)) K) : bS cx l S K :=
  vcall hc hg ho ha (callp (K := fun v' h' => v' = v ∧ h' = frzH S.2 (ownsL args)) hq hf hb ⟨rfl, rfl⟩) (by rintro v' h' ⟨rfl, rfl⟩; exact hk)
theorem vcallP {f : FuncId} {args args' : List AVal} {v : AVal} (hc : isCons l = true) (hg : bguard S.1 (hdB l).g = some true) (ho : aop cx.P S.2 (aev cx.G S.1) (hdB l).op = none) (ha : acallee (aev cx.G S.1) (hdB l).op = some (f, args)) (hq : CallsP cx f args' v) (hf : frzL S.2 args = args') (hb : belL 0 args' = true) (hw : ownsL args = [])
    (hk : bS cx l.tail (putS S (hdB l).dst v) K) : bS cx l S K :=
  vcallF hc hg ho ha hq hf hb (by rw [hw]; exact hk)
theorem vnext {L : List (AVal × AHeap)} (hc : isCons l = true) (hg : bguard S.1 (hdB l).g = some true) (ho : aop cx.P S.2 (aev cx.G S.1) (hdB l).op = none) (ha : acallee (aev cx.G S.1) (hdB l).op = none) (hx : anx cx.P S.2 (aev cx.G S.1) (hdB l).op = some L)
    (hk : ∀ r, r ∈ L → bS cx l.tail (aput S.1 (hdB l).dst r.1, r.2) K) : bS cx l S K := by
  cases l with
  | nil => simp [isCons] at hc
  | cons o os =>
    simp only [hdB] at hg ho ha hx
    refine ⟨?_⟩
    simp only [bops, hg, gsel, ho, osel, ha, csel, hx, nsel]
    exact fun r hr => (hk r hr).out
theorem vend (hc : isCons l = false) (hk : K S.1 S.2) : bS cx l S K := by
  cases l with
  | nil => exact ⟨hk⟩
  | cons o os => simp [isCons] at hc

theorem bguard_ext {T S : Tm} (he : ∀ t, Tm.get T t = Tm.get S t) (g : Option (Nat × Bool)) : bguard T g = bguard S g := by
  cases g with
  | none => rfl
  | some q => simp only [bguard, he]
theorem bops_ext (hx : ExtK K) : ∀ (l : List BOp) {T S : Tm} {h : AHeap}, (∀ t, Tm.get T t = Tm.get S t) → bops cx l T h K → bops cx l S h K
  | [], T, S, h, he, hb => hx T S h he hb
  | o :: os, T, S, h, he, hb => by
    have hp : ∀ v t, Tm.get (aput T o.dst v) t = Tm.get (aput S o.dst v) t := by
      intro v t
      rw [get_put, get_put, he]
    simp only [bops, bguard_ext he, aev_ext (cx := cx) he] at hb ⊢
    cases hg : bguard S o.g with
    | none => rw [hg] at hb; exact hb.elim
    | some t =>
      rw [hg] at hb
      cases t with
      | false => exact bops_ext hx os (hp _) hb
      | true =>
        simp only [gsel] at hb ⊢
        cases ho : aop cx.P h (aev cx.G S) o.op with
        | some r => rw [ho] at hb; exact bops_ext hx os (hp _) hb
        | none =>
          rw [ho] at hb
          simp only [osel] at hb ⊢
          cases hcl : acallee (aev cx.G S) o.op with
          | none =>
            rw [hcl] at hb
            simp only [csel] at hb ⊢
            cases hnx : anx cx.P h (aev cx.G S) o.op with
            | none => rw [hnx] at hb; exact hb.elim
            | some L => rw [hnx] at hb; exact fun r hr => bops_ext hx os (hp _) (hb r hr)
          | some q =>
            rw [hcl] at hb
            exact CallsA.mono hb fun v h' q => bops_ext hx os (hp _) q
/-- A slot's value in another spelling. -/
theorem vset (d : Nat) (x y : AVal) (hx : ExtK K) (hT : Tm.get S.1 d = x) (e : x = y) (hk : bS cx l (setS S d y) K) : bS cx l S K := by
  refine ⟨bops_ext hx l (fun t => ?_) hk.out⟩
  show Tm.get ((d, y) :: S.1) t = _
  simp only [Tm.get]
  by_cases hd : d = t
  · subst hd; rw [if_pos rfl, hT, e]
  · rw [if_neg hd]
/-! Drawn regions. -/
abbrev DSt := Nat × Tm × AHeap × List (List Nat × List Nat)
def drun1 (P : Program) (G : Nat → Option (List AVal)) (o : BOp) (s : DSt) : Option DSt := match bguard s.2.1 o.g with
  | some true => bif isAl o.op then
      (match apl P (aev G s.2.1) o.op with
      | some cs => bif isHole s.2.2.1 s.1 then some (s.1 + 1, aput s.2.1 o.dst (.ptr s.1 0), s.2.2.1.set s.1 (.box cs), s.2.2.2 ++ [([s.1], [s.1])]) else none
      | none => none)
    else match aop P s.2.2.1 (aev G s.2.1) o.op with
    | some r => some (s.1, aput s.2.1 o.dst r.1, r.2, s.2.2.2 ++ [(ard (aev G s.2.1) o.op, awr s.2.2.1 (aev G s.2.1) o.op)])
    | none => none
  | some false => some (bif isAl o.op then s.1 + 1 else s.1, aput s.2.1 o.dst (.tup []), s.2.2.1, s.2.2.2 ++ [([], [])])
  | none => none
def drunN (P : Program) (G : Nat → Option (List AVal)) : Nat → List BOp → DSt → Option DSt
  | 0, _, s => some s
  | j + 1, o :: os, s => match drun1 P G o s with
    | some r => drunN P G j os r
    | none => none
  | _ + 1, [], _ => none
def dS : Option DSt → DSt
  | some r => r
  | none => (0, [], [], [])
structure bdr (cx : Cx) (l : List BOp) (s : DSt) (K : List (List Nat × List Nat) → Tm → AHeap → Prop) : Prop where
  out : bdraw cx l s.1 s.2.1 s.2.2.1 s.2.2.2 K

variable {KD : List (List Nat × List Nat) → Tm → AHeap → Prop} {s : DSt}

theorem dstart {k : Nat} {rs : List (List Nat × List Nat)} (hk : bdr cx l (k, T, h, rs) KD) : bdraw cx l k T h rs KD := hk.out
theorem drun (j : Nat) (ho : (drunN cx.P cx.G j l s).isSome = true) (hk : bdr cx (l.drop j) (dS (drunN cx.P cx.G j l s)) KD) : bdr cx l s KD := by
  induction j generalizing l s with
  | zero => simpa [drunN, dS] using hk
  | succ j ih =>
    cases l with
    | nil => simp [drunN] at ho
    | cons o os =>
      simp only [drunN] at ho hk
      cases h1 : drun1 cx.P cx.G o s with
      | none => rw [h1] at ho; simp at ho
      | some r =>
        rw [h1] at ho hk
        have := (ih ho (by simpa using hk)).out
        unfold drun1 at h1
        refine ⟨?_⟩
        simp only [bdraw]
        split at h1
        · rename_i hg
          rw [hg]
          cases hal : isAl o.op with
          | true =>
            rw [hal] at h1
            simp only [cond_true] at h1
            split at h1 <;> try (simp at h1; done)
            rename_i cs hcs
            cases hh : isHole s.2.2.1 s.1 with
            | false => rw [hh] at h1; simp at h1
            | true =>
              rw [hh] at h1
              simp at h1
              subst h1
              simp only [gsel, hcs, psel]
              exact ⟨trivial, this⟩
          | false =>
            rw [hal] at h1
            simp only [cond_false] at h1
            split at h1 <;> simp at h1
            rename_i q hq
            simp only [gsel, hq, osel]
            subst h1
            exact this
        · rename_i hg
          rw [hg]
          simp at h1
          subst h1
          exact this
        · simp at h1
def dputH (cx : Cx) (s : DSt) (o : BOp) (v : AVal) (h' : AHeap) : DSt := (s.1, aput s.2.1 o.dst v, h', s.2.2.2 ++ [(ard (aev cx.G s.2.1) o.op, awr s.2.2.1 (aev cx.G s.2.1) o.op)])
def dputS (cx : Cx) (s : DSt) (o : BOp) (v : AVal) : DSt := dputH cx s o v s.2.2.1
def dputO (cx : Cx) (s : DSt) (o : BOp) (v : AVal) (ob : Nat) (x : AObj) : DSt := dputH cx s o v (s.2.2.1.set ob x)
def dputP (s : DSt) (o : BOp) (v : AVal) : DSt := (s.1, aput s.2.1 o.dst v, s.2.2.1, s.2.2.2 ++ [([], [])])
def dsetS (s : DSt) (d : Nat) (y : AVal) : DSt := (s.1, (d, y) :: s.2.1, s.2.2.1, s.2.2.2)
theorem dsymH {v : AVal} {h' : AHeap} (hc : isCons l = true) (hg : bguard s.2.1 (hdB l).g = some true) (hal : isAl (hdB l).op = false) (ho : aop cx.P s.2.2.1 (aev cx.G s.2.1) (hdB l).op = some (v, h'))
    (hk : bdr cx l.tail (dputH cx s (hdB l) v h') KD) : bdr cx l s KD := by
  cases l with
  | nil => simp [isCons] at hc
  | cons o os =>
    simp only [hdB] at hg ho hal
    refine ⟨?_⟩
    simp only [bdraw, hg, gsel, hal, ho, osel]
    exact hk.out
theorem dsym {v : AVal} (hc : isCons l = true) (hg : bguard s.2.1 (hdB l).g = some true) (hal : isAl (hdB l).op = false) (ho : aop cx.P s.2.2.1 (aev cx.G s.2.1) (hdB l).op = some (v, s.2.2.1)) (hk : bdr cx l.tail (dputS cx s (hdB l) v) KD) : bdr cx l s KD := dsymH hc hg hal ho hk
theorem dsymO {v : AVal} {ob : Nat} {x : AObj} (hc : isCons l = true) (hg : bguard s.2.1 (hdB l).g = some true) (hal : isAl (hdB l).op = false) (ho : aop cx.P s.2.2.1 (aev cx.G s.2.1) (hdB l).op = some (v, s.2.2.1.set ob x)) (hk : bdr cx l.tail (dputO cx s (hdB l) v ob x) KD) : bdr cx l s KD := dsymH hc hg hal ho hk
theorem dcall {f : FuncId} {args : List AVal} {L : List Nat} {v : AVal} {h' : AHeap} (hc : isCons l = true) (hg : bguard s.2.1 (hdB l).g = some true) (hal : isAl (hdB l).op = false) (ho : aop cx.P s.2.2.1 (aev cx.G s.2.1) (hdB l).op = none) (ha : acallee (aev cx.G s.2.1) (hdB l).op = some (f, args))
    (hq : FCall cx f args s.2.2.1 L v h') (hk : bdr cx l.tail (s.1, aput s.2.1 (hdB l).dst v, h', s.2.2.2 ++ [(L, L)]) KD) : bdr cx l s KD := by
  cases l with
  | nil => simp [isCons] at hc
  | cons o os =>
    simp only [hdB] at hg ho ha hal
    refine ⟨?_⟩
    simp only [bdraw, hg, gsel, hal, ho, osel, ha, csel]
    exact ⟨L, v, h', hq, hk.out⟩
theorem dcallP {f : FuncId} {args args' : List AVal} {v : AVal} (hc : isCons l = true) (hg : bguard s.2.1 (hdB l).g = some true) (hal : isAl (hdB l).op = false) (ho : aop cx.P s.2.2.1 (aev cx.G s.2.1) (hdB l).op = none) (ha : acallee (aev cx.G s.2.1) (hdB l).op = some (f, args))
    (hq : CallsP cx f args' v) (hf : ∀ g, frzL g args = args') (hb : belL 0 args' = true) (hw : ownsL args = []) (hk : bdr cx l.tail (dputP s (hdB l) v) KD) : bdr cx l s KD :=
  dcall hc hg hal ho ha (FCall_pure hf hq hb hw) hk
theorem dend (hc : isCons l = false) (hk : KD s.2.2.2 s.2.1 s.2.2.1) : bdr cx l s KD := by
  cases l with
  | nil => exact ⟨hk⟩
  | cons o os => simp [isCons] at hc
theorem bdraw_ext (hx : ∀ rs, ExtK (KD rs)) : ∀ (l : List BOp) {k : Nat} {T S : Tm} {h : AHeap} {rs : List (List Nat × List Nat)}, (∀ t, Tm.get T t = Tm.get S t) → bdraw cx l k T h rs KD → bdraw cx l k S h rs KD
  | [], k, T, S, h, rs, he, hb => hx rs T S h he hb
  | o :: os, k, T, S, h, rs, he, hb => by
    have hp : ∀ v t, Tm.get (aput T o.dst v) t = Tm.get (aput S o.dst v) t := by
      intro v t
      rw [get_put, get_put, he]
    simp only [bdraw, bguard_ext he, aev_ext (cx := cx) he] at hb ⊢
    cases hg : bguard S o.g with
    | none => rw [hg] at hb; exact hb.elim
    | some t =>
      rw [hg] at hb
      cases t with
      | false => exact bdraw_ext hx os (hp _) hb
      | true =>
        simp only [gsel] at hb ⊢
        cases hal : isAl o.op with
        | true =>
          rw [hal] at hb
          simp only at hb ⊢
          cases hpl : apl cx.P (aev cx.G S) o.op with
          | none => rw [hpl] at hb; exact hb.elim
          | some cs => rw [hpl] at hb; exact ⟨hb.1, bdraw_ext hx os (hp _) hb.2⟩
        | false =>
          rw [hal] at hb
          simp only at hb ⊢
          cases ho : aop cx.P h (aev cx.G S) o.op with
          | some r => rw [ho] at hb; exact bdraw_ext hx os (hp _) hb
          | none =>
            rw [ho] at hb
            simp only [osel] at hb ⊢
            cases hcl : acallee (aev cx.G S) o.op with
            | none => rw [hcl] at hb; exact hb.elim
            | some q =>
              rw [hcl] at hb
              obtain ⟨L, v, h', q1, q2⟩ := hb
              exact ⟨L, v, h', q1, bdraw_ext hx os (hp _) q2⟩
theorem dset (d : Nat) (x y : AVal) (hx : ∀ rs, ExtK (KD rs)) (hT : Tm.get s.2.1 d = x) (e : x = y) (hk : bdr cx l (dsetS s d y) KD) : bdr cx l s KD := by
  refine ⟨bdraw_ext hx l (fun t => ?_) hk.out⟩
  show Tm.get ((d, y) :: s.2.1) t = _
  simp only [Tm.get]
  by_cases hd : d = t
  · subst hd; rw [if_pos rfl, hT, e]
  · rw [if_neg hd]
theorem extD {ops : Array Oper} (hq : ExtQ Q) : ∀ rs, ExtK (fun T' h' => drawAll ops rs = true ∧ Q .normal T' h') := fun _ T T' h he ⟨h1, h2⟩ => ⟨h1, hq T T' h he h2⟩
theorem extO (hq : ExtQ Q) : ExtK (fun T' h' => Q .normal T' h') := fun T T' h he h2 => hq T T' h he h2

end
end Go.Proofs.YtindpcpdkikdmaaGreatDoor.Abs
namespace Go.Proofs.YtindpcpdkikdmaaGreatDoor.Abs

def vIxA (ev : Operand → AVal) : Op → Option (Nat × AVal × AVal)
  | .indexAddr t x i => some (t, ev x, ev i)
  | _ => none
def vBin (ev : Operand → AVal) : Op → Option (BinOp × AVal × AVal)
  | .binOp op _ x y _ => some (op, ev x, ev y)
  | _ => none
def vNeg (ev : Operand → AVal) : Op → Option AVal
  | .unOp .neg _ x => some (ev x)
  | _ => none
def vSlc (ev : Operand → AVal) : Op → Option (Nat × AVal × Option AVal × Option AVal)
  | .slice t x lo hi none => some (t, ev x, aevo ev lo, aevo ev hi)
  | _ => none
def vBlt (ev : Operand → AVal) : Op → Option (Builtin × List Nat × List AVal)
  | .call { callee := .builtin b, args, argTypes } => some (b, argTypes.toList, aevs ev args.toList)
  | _ => none
section
variable {P : Program} {h : AHeap} {ev : Operand → AVal} {op : Op}

theorem vIxA_spec {t : Nat} {x : AVal} {k : IntKind} {n : Int} (hv : vIxA ev op = some (t, x, .int k n)) : aop P h ev op = put1 h (aindexAddr P h t x n) := by
  unfold vIxA at hv
  split at hv <;> simp at hv
  obtain ⟨rfl, rfl, h3⟩ := hv
  simp only [aop, h3]


theorem getD_of_lt {α : Type} (l : List α) (k : Nat) (d : α) (h : k < l.length) : l[k]? = some (l.getD k d) := by
  rw [List.getElem?_eq_getElem h, List.getD_eq_getElem?_getD, List.getElem?_eq_getElem h]; rfl

/-- An element of a slice, by its address. -/
theorem o_ixmap {α : Type} {t e : Nat} {enc : α → AVal} {l : List α} {k : IntKind} {i : Int} {a b a' b' : Nat} {z z' : AVal} {ek : TyK} (d : α) (hv : vIxA ev op = some (t, .imm (l.map enc), .int k i)) (ht : tyOf P t = some ⟨.slice e, a, b, z⟩) (he : tyOf P e = some ⟨ek, a', b', z'⟩)
    (hs : ∀ x, (enc x).cells.length = a') (h0 : 0 ≤ i) (h1 : i < l.length) : aop P h ev op = some (.pimm (enc (l.getD i.toNat d)).cells 0, h) := by
  rw [vIxA_spec hv]
  have hlt : i.toNat < l.length := by omega
  have hc : 0 ≤ i ∧ i < ((l.map enc).length : Nat) := by rw [List.length_map]; exact ⟨h0, h1⟩
  simp only [aindexAddr, ht, he, if_pos hc, List.getElem?_map, getD_of_lt l i.toNat d hlt, Option.map_some, hs, if_true, put1]
theorem vBlt_spec {b : Builtin} {ats : List Nat} {xs : List AVal} (hv : vBlt ev op = some (b, ats, xs)) : aop P h ev op = abuiltin P h b ats xs := by
  unfold vBlt at hv
  split at hv <;> simp at hv
  obtain ⟨rfl, rfl, rfl⟩ := hv
  rfl
theorem o_lenmap {α : Type} {t e : Nat} {enc : α → AVal} {l : List α} {a b : Nat} {z : AVal} (hv : vBlt ev op = some (.len, [t], [.imm (l.map enc)])) (ht : tyOf P t = some ⟨.slice e, a, b, z⟩) : aop P h ev op = some (.int .i64 (l.length : Nat), h) := by
  rw [vBlt_spec hv]
  simp [abuiltin, ht, TyK.lenOk, alen]
theorem o_appown {t t' e : Nat} {o len : Nat} {a b a' b' a2 b2 sz fr : Nat} {es src : List AVal} {z z' z2 : AVal} {ek k2 : TyK} {e2 : Nat} {x : AVal} (hv : vBlt ev op = some (.append, [t, t'], [.own o 0 len, x])) (ht : tyOf P t = some ⟨.slice e, a, b, z⟩) (he : tyOf P e = some ⟨ek, a', b', z'⟩) (ht' : tyOf P t' = some ⟨k2, a2, b2, z2⟩) (hk2 : k2 = .slice e2)
    (ho : h[o]? = some (.arr sz es fr)) (hsz : sz = a') (hl : len = es.length) (hx : aelems h x = some src) (hc : 0 < a' ∧ z'.cells.length = a' ∧ rowOk a' src = true) (hf : fits (len + src.length) b' = true) :
    aop P h ev op = some (.own o 0 (len + src.length), h.set o (.arr sz (es ++ src) fr)) := by
  rw [vBlt_spec hv]
  subst hk2
  simp only [abuiltin, aappend, ht, he, ht', hx]
  rw [if_pos hc]
  simp only [ho]
  rw [if_pos ⟨hl, hsz, hf⟩]

theorem o_appmap {α : Type} {enc : α → AVal} {l xs : List α} {t t' e : Nat} {o len : Nat} {a b a' b' a2 b2 sz fr : Nat} {z z' z2 : AVal} {ek k2 : TyK} {e2 : Nat} {x : AVal} (hv : vBlt ev op = some (.append, [t, t'], [.own o 0 len, x])) (ht : tyOf P t = some ⟨.slice e, a, b, z⟩) (he : tyOf P e = some ⟨ek, a', b', z'⟩) (ht' : tyOf P t' = some ⟨k2, a2, b2, z2⟩) (hk2 : k2 = .slice e2)
    (ho : h[o]? = some (.arr sz (l.map enc) fr)) (hsz : sz = a') (hl : len = l.length) (hx : aelems h x = some (xs.map enc)) (hz : 0 < a' ∧ z'.cells.length = a') (hok : ∀ q, ((enc q).cells.length == a' && (enc q).cells.all AVal.cellOk) = true) (hf : (l.length + xs.length) * b' ≤ 140737488355328) (hf2 : l.length + xs.length ≤ 140737488355328) :
    aop P h ev op = some (.own o 0 (l ++ xs).length, h.set o (.arr sz ((l ++ xs).map enc) fr)) := by
  have := o_appown (h := h) hv ht he ht' hk2 ho hsz (by rw [hl, List.length_map]) hx ⟨hz.1, hz.2, by
    unfold rowOk
    rw [List.all_eq_true]
    intro q hq
    obtain ⟨r, _, rfl⟩ := List.mem_map.1 hq
    exact hok r⟩ (by rw [List.length_map, hl]; simp [fits]; exact ⟨hf, hf2⟩)
  rw [this]
  simp [hl]
theorem vBin_spec {b : BinOp} {x y : AVal} (hv : vBin ev op = some (b, x, y)) (hx : ∀ t, abinX P b t x y = abin P b t x y := by intro _; rfl) : ∃ t, aop P h ev op = put1 h (abin P b t x y) := by
  unfold vBin at hv
  split at hv <;> simp at hv
  obtain ⟨rfl, rfl, rfl⟩ := hv
  exact ⟨_, congrArg (put1 h) (hx _)⟩
theorem wrap_i64 (n : Int) (h0 : -9223372036854775808 ≤ n) (h1 : n ≤ 9223372036854775807) : IntKind.i64.wrap n = n := by
  unfold IntKind.wrap IntKind.bits IntKind.signed
  simp
  omega
theorem o_add {a b : Int} (hv : vBin ev op = some (.add, .int .i64 a, .int .i64 b)) (h0 : -9223372036854775808 ≤ a + b) (h1 : a + b ≤ 9223372036854775807) : aop P h ev op = some (.int .i64 (a + b), h) := by
  obtain ⟨t, e⟩ := vBin_spec (P := P) (h := h) hv
  rw [e]; simp [abin, wrap_i64 _ h0 h1, put1]
theorem o_rem {a b : Int} (hv : vBin ev op = some (.rem, .int .i64 a, .int .i64 b)) (hb : b ≠ 0) : aop P h ev op = some (.int .i64 (a.tmod b), h) := by
  obtain ⟨t, e⟩ := vBin_spec (P := P) (h := h) hv
  rw [e]; simp [abin, hb, put1]
theorem o_neg {a : Int} (hv : vNeg ev op = some (.int .i64 a)) (h0 : -9223372036854775808 ≤ -a) (h1 : -a ≤ 9223372036854775807) : aop P h ev op = some (.int .i64 (-a), h) := by
  unfold vNeg at hv
  split at hv <;> simp at hv
  have : (0 - a) = -a := by omega
  simp [aop, hv, aun, this, wrap_i64 _ h0 h1, put1]
theorem vSlc_spec {t : Nat} {x : AVal} {lo hi : Option AVal} (hv : vSlc ev op = some (t, x, lo, hi)) : aop P h ev op = put1 h (aslice P h t x lo hi) := by
  unfold vSlc at hv
  split at hv <;> simp at hv
  obtain ⟨rfl, rfl, rfl, rfl⟩ := hv
  rfl
def loOf : Option AVal → Option Int
  | none => some 0
  | some (.int _ n) => some n
  | _ => none
def hiOf (len : Nat) : Option AVal → Option Int
  | none => some len
  | some (.int _ n) => some n
  | _ => none
theorem abounds_of {len : Nat} {lo hi : Option AVal} {a b : Int} (hlo : loOf lo = some a) (hhi : hiOf len hi = some b) (h0 : 0 ≤ a) (h1 : a ≤ b) (h2 : b ≤ len) : abounds len lo hi = some (a.toNat, b.toNat) := by
  have c1 : (hi = none ∧ b = len) ∨ ∃ k, hi = some (.int k b) := by
    cases hi with
    | none => simp [hiOf] at hhi; exact .inl ⟨rfl, hhi.symm⟩
    | some v => cases v <;> simp [hiOf] at hhi; subst hhi; exact .inr ⟨_, rfl⟩
  have c2 : (lo = none ∧ a = 0) ∨ ∃ k, lo = some (.int k a) := by
    cases lo with
    | none => simp [loOf] at hlo; exact .inl ⟨rfl, hlo.symm⟩
    | some v => cases v <;> simp [loOf] at hlo; subst hlo; exact .inr ⟨_, rfl⟩
  have g1 : 0 ≤ b ∧ b ≤ len := ⟨by omega, h2⟩
  have g2 : 0 ≤ a ∧ a ≤ (b.toNat : Nat) := ⟨h0, by omega⟩
  have g3 : 0 ≤ a ∧ a ≤ len := ⟨h0, by omega⟩
  rcases c1 with ⟨rfl, rfl⟩ | ⟨k, rfl⟩ <;> rcases c2 with ⟨rfl, rfl⟩ | ⟨k', rfl⟩ <;> simp only [abounds, if_pos g1, if_pos g2, if_pos g3, Int.toNat_natCast, Int.toNat_zero]
theorem o_slcstr {t a b : Nat} {z : AVal} {s : List UInt8} {lo hi : Option AVal} {x y : Int} (hv : vSlc ev op = some (t, .str s, lo, hi)) (ht : tyOf P t = some ⟨.str, a, b, z⟩) (hlo : loOf lo = some x) (hhi : hiOf s.length hi = some y) (h0 : 0 ≤ x) (h1 : x ≤ y) (h2 : y ≤ s.length) :
    aop P h ev op = some (.str ((s.take y.toNat).drop x.toNat), h) := by
  rw [vSlc_spec hv]
  simp [aslice, ht, abounds_of hlo hhi h0 h1 h2, put1]
theorem o_slcto {t a b : Nat} {z : AVal} {s : List UInt8} {hi : Option AVal} {y : Int} (hv : vSlc ev op = some (t, .str s, none, hi)) (ht : tyOf P t = some ⟨.str, a, b, z⟩) (hhi : hiOf s.length hi = some y) (h1 : 0 ≤ y) (h2 : y ≤ s.length) :
    aop P h ev op = some (.str (s.take y.toNat), h) := by
  have := o_slcstr (h := h) (x := 0) hv ht rfl hhi (Int.le_refl _) h1 h2
  simpa using this
end

theorem leafP {cx : Cx} {T : Tm} {h : AHeap} {rs : List ResultVar} {e : Exit} {l : List AVal} {v : AVal} (he : e = .normal ∨ e = .ret) (hl : ares cx.P T h rs = some l) (hv : (awrap l).frz h = v ∧ v.bel 0 = true) :
    Fin cx rs 0 (fun v' h' => v' = v ∧ h' = []) e T h := fin_pure he hl hv.1 hv.2
section
variable {cx : Cx} {T : Tm} {h : AHeap} {rs : List ResultVar} {e : Exit}
theorem leafB {b b' : Bool} (he : e = .normal ∨ e = .ret) (hl : ares cx.P T h rs = some [.bool b]) (hv : b = b') : Fin cx rs 0 (fun v' h' => v' = .bool b' ∧ h' = []) e T h := fin_pure he hl (by rw [hv]; rfl) rfl
theorem leafI {k : IntKind} {n n' : Int} (he : e = .normal ∨ e = .ret) (hl : ares cx.P T h rs = some [.int k n]) (hv : n = n') : Fin cx rs 0 (fun v' h' => v' = .int k n' ∧ h' = []) e T h := fin_pure he hl (by rw [hv]; rfl) rfl
theorem leafS {s s' : List UInt8} (he : e = .normal ∨ e = .ret) (hl : ares cx.P T h rs = some [.str s]) (hv : s = s') : Fin cx rs 0 (fun v' h' => v' = .str s' ∧ h' = []) e T h := fin_pure he hl (by rw [hv]; rfl) rfl
end
section
variable {a b : UInt8} {x y : Int} (ha : ((a.toNat : Nat) : Int) = x) (hb : ((b.toNat : Nat) : Int) = y)
include ha hb
end
theorem frzL_map_same {α : Type} {enc : α → AVal} (h : AHeap) (he : ∀ x, (enc x).frz h = enc x) : ∀ l : List α, frzL h (l.map enc) = l.map enc
  | [] => rfl
  | x :: l => by simp [frzL, he, frzL_map_same h he l]
theorem belL_map {α : Type} {enc : α → AVal} (k : Nat) (he : ∀ x, (enc x).bel k = true) : ∀ l : List α, belL k (l.map enc) = true
  | [] => rfl
  | x :: l => by simp [belL, he, belL_map k he l]
theorem ownsL_map {α : Type} {enc : α → AVal} (he : ∀ x, (enc x).owns = []) : ∀ l : List α, ownsL (l.map enc) = []
  | [] => rfl
  | x :: l => by simp [ownsL, he, ownsL_map he l]
@[simp] theorem frzL_strs (h : AHeap) (l : List (List UInt8)) : frzL h (l.map .str) = l.map .str := frzL_map_same h (fun _ => rfl) l
@[simp] theorem belL_strs (k : Nat) (l : List (List UInt8)) : belL k (l.map .str) = true := belL_map k (fun _ => rfl) l
@[simp] theorem ownsL_strs (l : List (List UInt8)) : ownsL (l.map .str) = [] := ownsL_map (fun _ => rfl) l
@[simp] theorem frzL_nums (h : AHeap) (k : IntKind) (l : List Int) : frzL h (l.map (.int k)) = l.map (.int k) := frzL_map_same h (fun _ => rfl) l
@[simp] theorem belL_nums (j : Nat) (k : IntKind) (l : List Int) : belL j (l.map (.int k)) = true := belL_map j (fun _ => rfl) l
@[simp] theorem ownsL_nums (k : IntKind) (l : List Int) : ownsL (l.map (.int k)) = [] := ownsL_map (fun _ => rfl) l
attribute [simp] frzL AVal.frz belL AVal.bel ownsL AVal.owns frzH
end Go.Proofs.YtindpcpdkikdmaaGreatDoor.Abs
namespace Go.Proofs.YtindpcpdkikdmaaGreatDoor.Abs

/-! Maps as lists of pairs. -/
section
variable {κ α : Type} [DecidableEq κ] {ek : κ → AVal} {ev : α → AVal}

variable {P : Program} {h : AHeap} {env : Operand → AVal} {op : Op}

end
/-! Calls on the first objects of a heap. -/
section
variable {cx : Cx}
variable {l : List BOp} {K : Tm → AHeap → Prop} {S : RSt}
end
/-! Walking over a map. -/
section
variable {cx : Cx} {bl : List BOp} {K : Tm → AHeap → Prop} {S : RSt} {κ α : Type} {ek : κ → AVal} {ev : α → AVal} {l : List (κ × α)}
end
end Go.Proofs.YtindpcpdkikdmaaGreatDoor.Abs
namespace Go.Proofs.YtindpcpdkikdmaaGreatDoor.Abs
open Go
section
variable {cx : Cx} {n m : Nat} {T : Tm} {h : AHeap} {Q : APost}
/-- The value of a slot without arrays of one's own is frozen. -/
theorem wFrzT (t : Nat) (x y : AVal) (hx : Tm.get T t = x) (hw : x.owns = []) (he : x.frz [] = y) {d : Code} (hk : wpA cx n m d Q ((t, y) :: T) h) : wpA cx n m d Q T h := by
  intro E B ρ a w hm hr
  refine hk E B ρ a w hm ⟨fun t' => ?_, hr.size, hr.defers, hr.glob, hr.wf, hr.fr, hr.le⟩
  simp only [Tm.get]
  by_cases e : t = t'
  · subst e
    rw [if_pos rfl, ← he, ← frz_indep h [] x hw, ← hx]
    exact VR.frz (ids := []) (Le.refl _ _ _) (by simp) (hr.tm t) (by rw [hx, hw]; simp)
  · rw [if_neg e]; exact hr.tm t'
end
end Go.Proofs.YtindpcpdkikdmaaGreatDoor.Abs
namespace Go.Proofs.YtindpcpdkikdmaaGreatDoor.Abs
open Go
section
variable {cx : Cx} {h : AHeap}
variable {l : List BOp} {K : Tm → AHeap → Prop} {S : RSt}
variable {KD : List (List Nat × List Nat) → Tm → AHeap → Prop} {s : DSt}
end

/-! The heap in another order, and without what nothing refers to. -/
mutual
def AVal.refs : AVal → List Nat
  | .agg cs => refsL cs
  | .tup cs => refsL cs
  | .ptr o _ => [o]
  | .pimm cs _ => refsL cs
  | .pown o _ _ _ => [o]
  | .imm l => refsL l
  | .full l => refsL l
  | .own o _ _ => [o]
  | .map o => [o]
  | .fn _ xs ys => refsL xs ++ refsL ys
  | .itr o => [o]
  | .iface _ v => v.refs
  | _ => []
def refsL : List AVal → List Nat
  | [] => []
  | x :: xs => x.refs ++ refsL xs
end
def AObj.refs : AObj → List Nat
  | .box cs => refsL cs
  | .arr _ es _ => refsL es
  | .map es => es.flatMap fun e => e.1.refs ++ e.2.refs
  | _ => []
section
variable {ρ ρ' : Ren} {g h : AHeap} {w : World} {r : Nat → Nat}
end
end Go.Proofs.YtindpcpdkikdmaaGreatDoor.Abs
namespace Go.Proofs.YtindpcpdkikdmaaGreatDoor.Abs
open Go
section
variable {cx : Cx} {n m : Nat} {T : Tm} {h : AHeap} {Q : APost}
/-- A cell of a box in weaker words. -/
theorem Rel.box {E : Ent} {B : Base} {ρ ρ1 : Ren} {h1 : AHeap} {a : Act} {w : World} {b i : Nat} {cs : List AVal} {y y' : AVal} (hr : Rel cx E B n ρ T h a w) (hr1 : Rel cx E B n ρ1 T h1 a w) (ho : h[b]? = some (.box cs)) (ho1 : h1[b]? = some (.box cs)) (le : Le ρ h w ρ1 h1 w) (hy : cs[i]? = some y) (hsp : ∀ v, VR ρ h w y v → VR ρ1 h1 w y' v) :
    ∃ ρ', Rel cx E B n ρ' T (h1.set b (.box (cs.set i y'))) a w := by
  have hlt := (List.getElem?_eq_some_iff.1 ho1).1
  have hst := step_gen (h' := h1.set b (.box (cs.set i y'))) (w' := w) hr1.wf hr1.fr b (.box (cs.set i y')) (ρ1.loc b) ρ1.I (by rw [List.getElem?_set_self hlt]) (fun o' ho' => get_set_other _ _ _ _ ho')
    rfl rfl rfl (Nat.le_refl _) (fun _ _ _ => rfl) (fun x hx => by rw [ho1] at hx; cases hx; rfl)
    (fun b j hI => ⟨hI, rfl⟩) (fun b j hI => .inl hI)
    (fun hb => .inr ⟨_, ho1, hb, rfl⟩) (fun j hb hI => hr1.wf.imm b (.box cs) j ho1 hb hI)
    (fun o' m' left _ hi => by
      rintro rfl
      obtain ⟨_, _, _, _, es0, _, _, h2, _⟩ := hr1.wf.obj o' _ hi
      rw [ho1] at h2; cases h2)
    (fun le2 => by
      obtain ⟨c, t, g1, g2, g3⟩ := hr1.wf.obj b _ ho1
      obtain ⟨c', t', f1, f2, f3⟩ := hr.wf.obj b _ ho
      have hloc : ρ1.loc b = ρ.loc b := by
        obtain ⟨x', q1, q2⟩ := le.obj b _ ho
        rw [ho1] at q1; cases q1; exact q2
      rw [← hloc, g1] at f1
      cases f1
      refine ⟨c, t, g1, by rw [g2, List.length_set], fun j x v hx hv => ?_⟩
      by_cases e : j = i
      · subst e
        rw [List.getElem?_set_self (List.getElem?_eq_some_iff.1 hy).1] at hx
        cases hx
        exact (hsp v (f3 j y v hy hv)).mono le2
      · rw [List.getElem?_set_ne (fun q => e q.symm)] at hx
        exact (g3 j x v hx hv).mono le2)
  exact ⟨_, hr1.step hst.1 hst.2.1 hst.2.2⟩
/-- An array of one's own in a box, frozen. -/
theorem wFrzC (b i o : Nat) {cs es : List AVal} {off len sz fr : Nat} (cs' es' : List AVal) (hbo : b ≠ o) (hb : h[b]? = some (.box cs)) (hi : cs[i]? = some (.own o off len)) (ho : h[o]? = some (.arr sz es fr)) (htip : off + len = es.length) (hes : es.drop off = es') (he : cs.set i (.imm es') = cs') {d : Code}
    (hk : wpA cx n m d Q T ((h.set o (.arr sz es es.length)).set b (.box cs'))) : wpA cx n m d Q T h := by
  intro E B ρ a w hm hr
  obtain ⟨ρ1, g1, g2, g3, g4⟩ := freeze_obj hr.wf hr.fr ho
  obtain ⟨ρ2, q1⟩ := Rel.box hr (hr.step g1 g2 g3) hb (by rw [get_set_other _ _ _ _ hbo]; exact hb) g2 hi (y' := .imm es') (fun v hv => by rw [← hes]; exact g4 off len v htip hv)
  rw [he] at q1
  exact hk E B ρ2 a w hm q1
end
end Go.Proofs.YtindpcpdkikdmaaGreatDoor.Abs
namespace Go.Proofs.YtindpcpdkikdmaaGreatDoor.Abs
open Go
section
variable {cx : Cx} {n m : Nat} {T : Tm} {h : AHeap} {Q : APost}
/-- What a call has answered is frozen after it. -/
theorem CallsA_post {f : FuncId} {args : List AVal} {Q Q' : AVal → AHeap → Prop} (hc : CallsA cx f args [] Q) (hq : ∀ v h', Q v h' → Q' v h' ∨ ((v.frz h').bel 0 = true ∧ Q' (v.frz h') [])) : CallsA cx f args [] Q' := by
  refine ⟨hc.1, fun ρ w cargs wf hg hv => ?_⟩
  refine (hc.2 ρ w cargs wf hg hv).mono ?_
  rintro e w' ⟨ρ', cv, v, h', rfl, hQ, r1, r2, r3, r4⟩
  rcases hq v h' hQ with h1 | ⟨h1, h2⟩
  · exact ⟨ρ', cv, v, h', rfl, h1, r1, r2, r3, r4⟩
  · obtain ⟨ρ2, q1, q2, q3, q4⟩ := freeze_all v.owns r2 r4
    have g3 := (r1.frz q2 q4 (fun o ho => ho)).take h1
    have g4 := q1.take 0 (by simp)
    have g5 := (r3.trans q2).take 0 (by simp)
    have g6 := q3.take 0
    simp only [List.take_zero] at g3 g4 g5 g6
    exact ⟨ρ2, cv, _, [], rfl, h2, g3, g4, g5, g6⟩
theorem CallsP_post {f : FuncId} {args : List AVal} {Q : AVal → AHeap → Prop} {V : AVal} (hc : CallsA cx f args [] Q) (hq : ∀ v h', Q v h' → v.frz h' = V) (hb : V.bel 0 = true) : CallsP cx f args V :=
  CallsA_post hc fun v h' h1 => .inr (by rw [hq v h' h1]; exact ⟨hb, rfl, rfl⟩)
/-- A cell of a box without arrays of one's own, frozen. -/
theorem wImmB (b i : Nat) {cs : List AVal} {y : AVal} (cs' : List AVal) (hb : h[b]? = some (.box cs)) (hi : cs[i]? = some y) (hw : y.owns = []) (he : cs.set i (y.frz []) = cs') {d : Code} (hk : wpA cx n m d Q T (h.set b (.box cs'))) : wpA cx n m d Q T h := by
  intro E B ρ a w hm hr
  obtain ⟨ρ2, q1⟩ := Rel.box hr hr hb hb (Le.refl _ _ _) hi (y' := y.frz []) (fun v hv => by
    rw [← frz_indep h [] y hw]
    exact VR.frz (ids := []) (Le.refl _ _ _) (by simp) hv (by rw [hw]; simp))
  rw [he] at q1
  exact hk E B ρ2 a w hm q1
end
end Go.Proofs.YtindpcpdkikdmaaGreatDoor.Abs
namespace Go.Proofs.YtindpcpdkikdmaaGreatDoor.Abs
open Go
section
variable {cx : Cx} {l : List BOp} {K : Tm → AHeap → Prop} {S : RSt} {KD : List (List Nat × List Nat) → Tm → AHeap → Prop} {s : DSt}
end
end Go.Proofs.YtindpcpdkikdmaaGreatDoor.Abs
namespace Go.Proofs.YtindpcpdkikdmaaGreatDoor.Abs
open Go
section
variable {cx : Cx} {l : List BOp} {K : Tm → AHeap → Prop} {S : RSt}
end
end Go.Proofs.YtindpcpdkikdmaaGreatDoor.Abs
namespace Go.Proofs.YtindpcpdkikdmaaGreatDoor.Abs
open Go.RowKit

section
variable {cx : Cx}

/-- A call that leaves all that was there, and answers a value that lies in what was there or in new memory. -/
theorem CallsA_of_below {f : FuncId} {args : List AVal} {h : AHeap} {v : AVal} {K : AVal → AHeap → Prop} (hb : Bodied cx.P f) (hk : K v h)
    (hc : ∀ (ρ : Ren) (w : World) (cargs : Array Value), WF ρ h w → Globs cx ρ w → VRs ρ h w args cargs → Calls cx.P f cargs w fun e w' => ∃ cv I', e = .returned cv ∧ Below w.heap.size w w' ∧
      (∀ b j, ρ.I b j → I' b j) ∧ (∀ b j, I' b j → ρ.I b j ∨ (w.heap.size ≤ b ∧ b < w'.heap.size)) ∧ (Le ρ h w ⟨ρ.loc, I'⟩ h w' → VR ⟨ρ.loc, I'⟩ h w' v cv)) : CallsA cx f args h K := by
  refine ⟨hb, fun ρ w cargs wf hg hv => (hc ρ w cargs wf hg hv).mono ?_⟩
  rintro e w' ⟨cv, I', rfl, hbel, h1, h2, h3⟩
  have hst := step_imm (w' := w') wf (Fr.refl ρ h w) I' hbel.os hbel.tape hbel.output hbel.size hbel.block h1 h2
  exact ⟨⟨ρ.loc, I'⟩, cv, v, h, rfl, hk, h3 hst.2.1, hst.1, hst.2.1, hst.2.2⟩

/-- The same, where the answer is a plain value. -/
theorem CallsP_of_below {f : FuncId} {args : List AVal} {v : AVal} {cv : Value} (hb : Bodied cx.P f) (hf : v.flat = some cv)
    (hc : ∀ (ρ : Ren) (w : World) (cargs : Array Value), VRs ρ [] w args cargs → Calls cx.P f cargs w fun e w' => e = .returned cv ∧ Below w.heap.size w w') : CallsP cx f args v := by
  refine CallsA_of_below (v := v) hb ⟨rfl, rfl⟩ fun ρ w cargs _ _ hv => (hc ρ w cargs hv).mono ?_
  rintro e w' ⟨rfl, hbel⟩
  exact ⟨cv, ρ.I, rfl, hbel, fun _ _ h => h, fun _ _ h => .inl h, fun _ => flat_VR hf _ _ _⟩

theorem VRs.two {ρ : Ren} {h : AHeap} {w : World} {x y : AVal} {vs : Array Value} (hv : VRs ρ h w [x, y] vs) : ∃ u v, vs = #[u, v] ∧ VR ρ h w x u ∧ VR ρ h w y v := by
  obtain ⟨h1, h2⟩ := hv
  obtain ⟨l⟩ := vs
  match l, h1 with
  | [u, v], _ => exact ⟨u, v, rfl, h2 0 x u rfl rfl, h2 1 y v rfl rfl⟩
theorem VRs.one {ρ : Ren} {h : AHeap} {w : World} {x : AVal} {vs : Array Value} (hv : VRs ρ h w [x] vs) : ∃ u, vs = #[u] ∧ VR ρ h w x u := by
  obtain ⟨h1, h2⟩ := hv
  obtain ⟨l⟩ := vs
  match l, h1 with
  | [u], _ => exact ⟨u, rfl, h2 0 x u rfl rfl⟩
end
end Go.Proofs.YtindpcpdkikdmaaGreatDoor.Abs
namespace Go.Proofs.YtindpcpdkikdmaaGreatDoor.Abs
section
variable {cx : Cx} {n m : Nat} {Q Q' : APost} {T : Tm} {h : AHeap} {c d : Code} {p : List Nat} {l : List BOp} {S : RSt}

def sl : Tm → List Nat
  | [] => []
  | x :: r => x.1 :: sl r
/-- A sequence whose first part is a region in order. -/
theorem wO (hk : (Nat.beq (kindOf (at_ c p)) 1 && ordOk n (at_ c (0 :: p))) = true) (hw : bS cx (bOf n (at_ c (0 :: p))) (T, h) (fun T' h' => AThen (wpA cx n m (at_ c (1 :: p)) Q) Q .normal T' h')) : wpA cx n m (at_ c p) Q T h := by
  simp only [Bool.and_eq_true] at hk
  exact wSeq (Nat.eq_of_beq_eq_true hk.1) (wOrd hk.2 (vstart hw))
theorem wV (j : Nat) (hk : (Nat.beq (kindOf (at_ c p)) 1 && ordOk n (at_ c (0 :: p)) && (runN cx.P cx.G j (bOf n (at_ c (0 :: p))) (T, h)).isSome) = true)
    (hw : bS cx ((bOf n (at_ c (0 :: p))).drop j) (rS (runN cx.P cx.G j (bOf n (at_ c (0 :: p))) (T, h))) (fun T' h' => AThen (wpA cx n m (at_ c (1 :: p)) Q) Q .normal T' h')) : wpA cx n m (at_ c p) Q T h := by
  rw [Bool.and_eq_true] at hk
  exact wO hk.1 (vrun j hk.2 hw)
/-- The end of a region, and the state as it is written. -/
theorem vN (T' : Tm) (h' : AHeap) (hf : (isCons l, prune (sl T') S.1, S.2) = (false, T', h')) (hw : wpA cx n m d Q T' h') : bS cx l S (fun T h => AThen (wpA cx n m d Q) Q' .normal T h) := by
  simp only [Prod.mk.injEq] at hf
  exact vend hf.1 (AThen_normal (wSt (sl T') T' h' hf.2.1 hf.2.2 hw))
theorem vR (j : Nat) (T' : Tm) (h' : AHeap) (hf : ((runN cx.P cx.G j l S).isSome, isCons (l.drop j), prune (sl T') (rS (runN cx.P cx.G j l S)).1, (rS (runN cx.P cx.G j l S)).2) = (true, false, T', h')) (hw : wpA cx n m d Q T' h') :
    bS cx l S (fun T h => AThen (wpA cx n m d Q) Q' .normal T h) := by
  simp only [Prod.mk.injEq] at hf
  exact vrun j hf.1 (vN T' h' (by simp only [Prod.mk.injEq]; exact hf.2) hw)
def wWf (cx : Cx) (n : Nat) (c : Code) (p : List Nat) (j : Nat) (T' : Tm) (T : Tm) (h : AHeap) : Bool × Bool × Tm × AHeap :=
  let r := runN cx.P cx.G j (bOf n (at_ c (0 :: p))) (T, h)
  (Nat.beq (kindOf (at_ c p)) 1 && ordOk n (at_ c (0 :: p)) && r.isSome, isCons ((bOf n (at_ c (0 :: p))).drop j), prune (sl T') (rS r).1, (rS r).2)
/-- A region that runs, and the state as it is written. -/
theorem wW (j : Nat) (T' : Tm) (h' : AHeap) (hf : wWf cx n c p j T' T h = (true, false, T', h')) (hw : wpA cx n m (at_ c (1 :: p)) Q T' h') : wpA cx n m (at_ c p) Q T h := by
  simp only [wWf, Prod.mk.injEq] at hf
  exact wV j hf.1 (vN T' h' (by simp only [Prod.mk.injEq]; exact hf.2) hw)
/-- The same, where no object changes. -/
theorem wU (j : Nat) (T' : Tm) (hf : wWf cx n c p j T' T h = (true, false, T', h)) (hw : wpA cx n m (at_ c (1 :: p)) Q T' h) : wpA cx n m (at_ c p) Q T h := wW j T' h hf hw
/-- The end of a region, and a return behind it. -/
theorem vT (hf : (Nat.beq (kindOf (at_ c p)) 8 && !(isCons l)) = true) (hw : Q .ret S.1 S.2) : bS cx l S (fun T h => AThen (wpA cx n m (at_ c p) Q) Q' .normal T h) := by
  simp only [Bool.and_eq_true, Bool.not_eq_true'] at hf
  exact vend hf.2 (AThen_normal (wRet (Nat.eq_of_beq_eq_true hf.1) hw))
theorem vX (j : Nat) (hf : (Nat.beq (kindOf (at_ c p)) 8 && (runN cx.P cx.G j l S).isSome && !(isCons (l.drop j))) = true) (hw : Q .ret (rS (runN cx.P cx.G j l S)).1 (rS (runN cx.P cx.G j l S)).2) : bS cx l S (fun T h => AThen (wpA cx n m (at_ c p) Q) Q' .normal T h) := by
  simp only [Bool.and_eq_true] at hf
  exact vrun j hf.1.2 (vT (by simp only [Bool.and_eq_true]; exact ⟨hf.1.1, hf.2⟩) hw)
/-- A slot whose truth is known. -/
theorem vs (e : Nat) {x y : Bool} (he : x = y) (hT : Tm.get S.1 e = .bool x) (hk : bS cx l (setS S e (.bool y)) (fun T h => AThen (wpA cx n m d Q) Q' .normal T h)) : bS cx l S (fun T h => AThen (wpA cx n m d Q) Q' .normal T h) :=
  vset e (.bool x) (.bool y) (extO extThen) hT (congrArg AVal.bool he) hk
theorem wT {x : Bool} (he : x = true) (hf : (kindOf (at_ c p), aev cx.G T (condOp (at_ c p))) = (2, .bool x)) (hw : wpA cx n m (at_ c (0 :: p)) Q T h) : wpA cx n m (at_ c p) Q T h := by
  simp only [Prod.mk.injEq] at hf
  exact wIfT hf.1 (hf.2.trans (congrArg AVal.bool he)) hw
theorem wF {x : Bool} (he : x = false) (hf : (kindOf (at_ c p), aev cx.G T (condOp (at_ c p))) = (2, .bool x)) (hw : wpA cx n m (at_ c (1 :: p)) Q T h) : wpA cx n m (at_ c p) Q T h := by
  simp only [Prod.mk.injEq] at hf
  exact wIfF hf.1 (hf.2.trans (congrArg AVal.bool he)) hw
/-- Nothing to do. -/
theorem wK (hk : kindOf (at_ c p) = 7) (hw : wpA cx n m d Q T h) : wpA cx n m (at_ c p) (AThen (wpA cx n m d Q) Q') T h := wSkip hk (AThen_normal hw)
theorem wZ (T' : Tm) (h' : AHeap) (hf : (prune (sl T') T, h) = (T', h')) (hw : wpA cx n m d Q T' h') : wpA cx n m d Q T h := by
  simp only [Prod.mk.injEq] at hf
  exact wSt (sl T') T' h' hf.1 hf.2 hw
theorem wZs (T' : Tm) (hf : prune (sl T') T = T') (hw : wpA cx n m d Q T' h) : wpA cx n m d Q T h := wSt (sl T') T' h hf rfl hw
/-- A pure call. -/
theorem vc (args : List AVal) {f : FuncId} {args' : List AVal} {v : AVal} {K : Tm → AHeap → Prop} (hq : CallsP cx f args' v)
    (hf : (isCons l, bguard S.1 (hdB l).g, (aop cx.P S.2 (aev cx.G S.1) (hdB l).op).isNone, acallee (aev cx.G S.1) (hdB l).op, frzL S.2 args, belL 0 args', (ownsL args).isEmpty) = (true, some true, true, some (f, args), args', true, true))
    (hk : bS cx l.tail (putS S (hdB l).dst v) K) : bS cx l S K := by
  simp only [Prod.mk.injEq, Option.isNone_iff_eq_none, List.isEmpty_iff] at hf
  exact vcallP hf.1 hf.2.1 hf.2.2.1 hf.2.2.2.1 hq hf.2.2.2.2.1 hf.2.2.2.2.2.1 hf.2.2.2.2.2.2 hk
theorem aR {K : Tm → AHeap → Prop} (q : Q .ret T h) : AThen K Q .ret T h := q
theorem iR {id : Nat} (q : Q .ret T h) : AIn id Q .ret T h := q
end
end Go.Proofs.YtindpcpdkikdmaaGreatDoor.Abs
namespace Go.Proofs.YtindpcpdkikdmaaGreatDoor.Abs
section
variable {cx : Cx} {n m : Nat} {Q Q' : APost} {T : Tm} {h : AHeap} {c d : Code} {p : List Nat} {l : List BOp} {S : RSt} {K : Tm → AHeap → Prop} {KD : List (List Nat × List Nat) → Tm → AHeap → Prop} {s : DSt}
def qSeq (hw : _) (hk : _) := wSeq (cx := cx) (n := n) (m := m) (Q := Q) (T := T) (h := h) (c := c) (p := p) hk hw
def qO (hw : _) (hk : _) := wO (cx := cx) (n := n) (m := m) (Q := Q) (T := T) (h := h) (c := c) (p := p) hk hw
def qV (j : Nat) (hw : _) (hk : _) := wV (cx := cx) (n := n) (m := m) (Q := Q) (T := T) (h := h) (c := c) (p := p) j hk hw
def qW (j : Nat) (T' : Tm) (h' : AHeap) (hw : _) (hk : _) := wW (cx := cx) (n := n) (m := m) (Q := Q) (T := T) (h := h) (c := c) (p := p) j T' h' hk hw
def qU (j : Nat) (T' : Tm) (hw : _) (hk : _) := wU (cx := cx) (n := n) (m := m) (Q := Q) (T := T) (h := h) (c := c) (p := p) j T' hk hw
def qN (T' : Tm) (h' : AHeap) (hw : _) (hk : _) := vN (cx := cx) (n := n) (m := m) (Q := Q) (Q' := Q') (d := d) (l := l) (S := S) T' h' hk hw
def qR (j : Nat) (T' : Tm) (h' : AHeap) (hw : _) (hk : _) := vR (cx := cx) (n := n) (m := m) (Q := Q) (Q' := Q') (d := d) (l := l) (S := S) j T' h' hk hw
def qT (hw : _) (hk : _) := vT (cx := cx) (n := n) (m := m) (Q := Q) (Q' := Q') (c := c) (p := p) (l := l) (S := S) hk hw
def qX (j : Nat) (hw : _) (hk : _) := vX (cx := cx) (n := n) (m := m) (Q := Q) (Q' := Q') (c := c) (p := p) (l := l) (S := S) j hk hw
def qs (e : Nat) {x y : Bool} (he : x = y) (hw : _) (hk : _) := vs (cx := cx) (n := n) (m := m) (Q := Q) (Q' := Q') (d := d) (l := l) (S := S) e he hk hw
def setM (S : RSt) (v : AVal) : List Nat → RSt
  | [] => S
  | e :: es => setM (setS S e v) v es
theorem qm (es : List Nat) {x y : Bool} (he : x = y) (hw : bS cx l (setM S (.bool y) es) (fun T h => AThen (wpA cx n m d Q) Q' .normal T h)) (hk : (es.map fun e => Tm.get S.1 e) = es.map fun _ => .bool x) : bS cx l S (fun T h => AThen (wpA cx n m d Q) Q' .normal T h) := by
  subst he
  induction es generalizing S with
  | nil => exact hw
  | cons e es ih =>
    simp only [List.map_cons, List.cons.injEq] at hk
    refine vs e rfl hk.1 (ih ?_ hw)
    refine List.map_congr_left fun e' he' => ?_
    have h1 : Tm.get S.1 e' = .bool x := (List.map_inj_left.1 hk.2) e' he'
    show Tm.get ((e, .bool x) :: S.1) e' = .bool x
    simp only [Tm.get]
    split
    · rfl
    · exact h1
def qt {x : Bool} (he : x = true) (hw : _) (hk : _) := wT (cx := cx) (n := n) (m := m) (Q := Q) (T := T) (h := h) (c := c) (p := p) he hk hw
def qf {x : Bool} (he : x = false) (hw : _) (hk : _) := wF (cx := cx) (n := n) (m := m) (Q := Q) (T := T) (h := h) (c := c) (p := p) he hk hw
def qK (hw : _) (hk : _) := wK (cx := cx) (n := n) (m := m) (Q := Q) (Q' := Q') (T := T) (h := h) (c := c) (d := d) (p := p) hk hw
def qZ (T' : Tm) (h' : AHeap) (hw : _) (hk : _) := wZ (cx := cx) (n := n) (m := m) (Q := Q) (T := T) (h := h) (d := d) T' h' hk hw
def qz (T' : Tm) (hw : _) (hk : _) := wZs (cx := cx) (n := n) (m := m) (Q := Q) (T := T) (h := h) (d := d) T' hk hw
def qc (args : List AVal) {f : FuncId} {args' : List AVal} {v : AVal} (hq : CallsP cx f args' v) (hw : _) (hk : _) := vc (cx := cx) (l := l) (S := S) (K := K) args hq hk hw
def qB (id : Nat) (hw : _) (hk : _) (hi : _) := wBlock (cx := cx) (n := n) (m := m) (Q := Q) (T := T) (h := h) (c := c) (p := p) id hk hi hw
def qo (hw : _) (hk : _) := wOrd (cx := cx) (n := n) (m := m) (Q := Q) (T := T) (h := h) (c := c) (p := p) hk (vstart hw)
def qr (j : Nat) (hw : _) (hk : _) := vrun (cx := cx) (l := l) (S := S) (K := K) j hk hw
def qe (hw : _) (hk : _) := vend (cx := cx) (l := l) (S := S) (K := K) hk hw
def qk (hw : _) (hk : _) := wSkip (cx := cx) (n := n) (m := m) (Q := Q) (T := T) (h := h) (c := c) (p := p) hk hw
def qy {v : AVal} (ho : aop cx.P S.2 (aev cx.G S.1) (hdB l).op = some (v, S.2)) (hw : _) (hc : _) (hg : _) := vsym (cx := cx) (l := l) (S := S) (K := K) hc hg ho hw
def qY {v : AVal} {o : Nat} {x : AObj} (ho : aop cx.P S.2 (aev cx.G S.1) (hdB l).op = some (v, S.2.set o x)) (hw : _) (hc : _) (hg : _) := vsymO (cx := cx) (l := l) (S := S) (K := K) hc hg ho hw
def qd {v : AVal} (ho : aop cx.P s.2.2.1 (aev cx.G s.2.1) (hdB l).op = some (v, s.2.2.1)) (hw : _) (hc : _) (hg : _) (ha : _) := dsym (cx := cx) (l := l) (s := s) (KD := KD) hc hg ha ho hw
def qD {v : AVal} {ob : Nat} {x : AObj} (ho : aop cx.P s.2.2.1 (aev cx.G s.2.1) (hdB l).op = some (v, s.2.2.1.set ob x)) (hw : _) (hc : _) (hg : _) (ha : _) := dsymO (cx := cx) (l := l) (s := s) (KD := KD) hc hg ha ho hw
def qu (j : Nat) (hw : _) (hk : _) := drun (cx := cx) (l := l) (s := s) (KD := KD) j hk hw
end
/-- Shorter words for printed states. -/
abbrev nI (k : Nat) : AVal := .int .i64 (k : Nat)
end Go.Proofs.YtindpcpdkikdmaaGreatDoor.Abs
namespace Go.Proofs.YtindpcpdkikdmaaGreatDoor.Abs

mutual
def dOf {H : Type} : DataW H → AVal
  | .lit (.bool b) => .bool b
  | .lit (.int k n) => .int k n
  | .lit (.string s) => .str s
  | .nil => .imm []
  | .slice elems _ => .imm (dOfL elems)
  | .agg parts => .agg (dOfC parts)
  | _ => .any
def dOfL {H : Type} : List (DataW H) → List AVal
  | [] => []
  | d :: r => dOf d :: dOfL r
def dOfC {H : Type} : List (DataW H) → List AVal
  | [] => []
  | d :: r => (dOf d).cells ++ dOfC r
end
theorem dOfL_map {H : Type} : ∀ l : List (DataW H), dOfL l = l.map dOf
  | [] => rfl
  | d :: r => by rw [dOfL, dOfL_map r]; rfl

theorem mapM_some {α β : Type} {f : α → Option β} : ∀ {l : List α} {r : List β}, l.mapM f = some r → r.length = l.length ∧ ∀ (i : Nat) x, l[i]? = some x → ∃ y, r[i]? = some y ∧ f x = some y
  | [], r, h => by simp at h; subst h; simp
  | x :: l, r, h => by
    simp only [List.mapM_cons, Option.bind_eq_bind, Option.bind_eq_some_iff, Option.pure_def, Option.some.injEq] at h
    obtain ⟨y, hy, r', hr, rfl⟩ := h
    obtain ⟨h1, h2⟩ := mapM_some hr
    refine ⟨by simp [h1], fun i z hz => ?_⟩
    cases i with
    | zero => simp at hz; subst hz; exact ⟨y, rfl, hy⟩
    | succ i => simp at hz; simpa using h2 i z hz

section
variable {H : Type} {enc : TypeId × Value → H} {P : Program} {w : World} {sp : Nat → Bool} {held : Bool}

/-- What is read of a slice. -/
theorem trod_slice {fuel : Nat} {t e : TypeId} {cs : List Value} {d : DataW H} {ps : List MemPlace} (ht : P.underlying t = some (.slice e)) (h : DataW.trod enc P w 0 sp held (fuel + 1) t cs = some (d, ps)) :
    (cs = [.slice none 0 0] ∧ d = .nil) ∨ ∃ a len cap elems spare, cs = [.slice (some a) len cap] ∧ d = .slice elems spare ∧ elems.length = len ∧ len ≤ cap ∧
      ∀ (i : Nat) x, elems[i]? = some x → ∃ cs' ps', w.cells? 0 (a.add (i * P.cellsOf e)) (P.cellsOf e) = some cs' ∧ DataW.trod enc P w 0 sp held fuel e cs' = some (x, ps') := by
  unfold DataW.trod at h
  rw [ht] at h
  split at h <;> try (simp at h; done)
  all_goals (rename_i heq; cases heq)
  · simp at h; exact .inl ⟨rfl, h.1.symm⟩
  · rename_i a len cap
    right
    split at h
    · rename_i hc
      simp only [Option.bind_eq_some_iff, Option.map_eq_some_iff] at h
      obtain ⟨elems, he, rest, _, hd⟩ := h
      simp only [Prod.mk.injEq] at hd
      obtain ⟨h1, h2⟩ := mapM_some he
      refine ⟨a, len, cap, _, _, rfl, hd.1.symm, by simpa using h1, hc.2.1, fun i x hx => ?_⟩
      simp only [List.getElem?_map, Option.map_eq_some_iff] at hx
      obtain ⟨y, hy, rfl⟩ := hx
      have hi : i < len := by
        have := (List.getElem?_eq_some_iff.1 hy).1
        simp at h1; omega
      obtain ⟨z, hz, hf⟩ := h2 i i (by simp [hi])
      rw [hy] at hz; cases hz
      simp only [Option.bind_eq_some_iff] at hf
      obtain ⟨cs', q1, q2⟩ := hf
      exact ⟨cs', _, q1, q2⟩
    · simp at h

/-- What is read of a struct. -/
theorem trod_struct {fuel : Nat} {t : TypeId} {fs : Array Field} {cs : List Value} {d : DataW H} {ps : List MemPlace} (ht : P.underlying t = some (.struct fs)) (h : DataW.trod enc P w 0 sp held (fuel + 1) t cs = some (d, ps)) :
    ∃ parts, d = .agg parts ∧ cs.length = P.cellsOf t ∧ parts.length = fs.toList.length ∧ ∀ (i : Nat) f, fs.toList[i]? = some f → ∃ x ps', parts[i]? = some x ∧ DataW.trod enc P w 0 sp held fuel f.type ((cs.drop f.offset).take (P.cellsOf f.type)) = some (x, ps') := by
  simp only [DataW.trod, ht] at h
  split at h
  · rename_i hc
    simp only [Option.map_eq_some_iff] at h
    obtain ⟨xs, hx, hd⟩ := h
    simp only [Prod.mk.injEq] at hd
    obtain ⟨h1, h2⟩ := mapM_some hx
    refine ⟨_, hd.1.symm, hc, by simpa using h1, fun i f hf => ?_⟩
    obtain ⟨y, hy, q⟩ := h2 i f hf
    exact ⟨y.1, y.2, by simp [hy], q⟩
  · simp at h

theorem trod_array {fuel : Nat} {t e : TypeId} {n : Nat} {cs : List Value} {d : DataW H} {ps : List MemPlace} (ht : P.underlying t = some (.array n e)) (h : DataW.trod enc P w 0 sp held (fuel + 1) t cs = some (d, ps)) :
    ∃ parts, d = .agg parts ∧ cs.length = P.cellsOf t ∧ parts.length = n ∧ ∀ (i : Nat), i < n → ∃ x ps', parts[i]? = some x ∧ DataW.trod enc P w 0 sp held fuel e ((cs.drop (i * P.cellsOf e)).take (P.cellsOf e)) = some (x, ps') := by
  simp only [DataW.trod, ht] at h
  split at h
  · rename_i hc
    simp only [Option.map_eq_some_iff] at h
    obtain ⟨xs, hx, hd⟩ := h
    simp only [Prod.mk.injEq] at hd
    obtain ⟨h1, h2⟩ := mapM_some hx
    refine ⟨_, hd.1.symm, hc, by simpa using h1, fun i hi => ?_⟩
    obtain ⟨y, hy, q⟩ := h2 i i (by simp [hi])
    exact ⟨y.1, y.2, by simp [hy], q⟩
  · simp at h

theorem trod_bool {fuel : Nat} {t : TypeId} {cs : List Value} {d : DataW H} {ps : List MemPlace} (ht : P.underlying t = some .bool) (h : DataW.trod enc P w 0 sp held (fuel + 1) t cs = some (d, ps)) : ∃ b, cs = [.bool b] ∧ d = .lit (.bool b) := by
  unfold DataW.trod at h
  rw [ht] at h
  split at h <;> try (simp at h; done)
  all_goals (rename_i heq; cases heq)
  simp at h
  exact ⟨_, rfl, h.1.symm⟩
theorem trod_int {fuel : Nat} {t : TypeId} {k : IntKind} {cs : List Value} {d : DataW H} {ps : List MemPlace} (ht : P.underlying t = some (.int k)) (h : DataW.trod enc P w 0 sp held (fuel + 1) t cs = some (d, ps)) : ∃ n, cs = [.int k n] ∧ d = .lit (.int k n) ∧ (Lit.int k n).wf = true := by
  unfold DataW.trod at h
  rw [ht] at h
  split at h <;> try (simp at h; done)
  all_goals (rename_i heq; cases heq)
  split at h
  · rename_i hc
    simp at h
    obtain ⟨rfl, hw⟩ := hc
    exact ⟨_, rfl, h.1.symm, hw⟩
  · simp at h
theorem trod_string {fuel : Nat} {t : TypeId} {cs : List Value} {d : DataW H} {ps : List MemPlace} (ht : P.underlying t = some .string) (h : DataW.trod enc P w 0 sp held (fuel + 1) t cs = some (d, ps)) : ∃ s : ByteArray, cs = [.string s] ∧ d = .lit (.string s.data.toList) := by
  unfold DataW.trod at h
  rw [ht] at h
  split at h <;> try (simp at h; done)
  all_goals (rename_i heq; cases heq)
  split at h
  · simp at h
    exact ⟨_, rfl, h.1.symm⟩
  · simp at h

/-- The fields of a struct lie one behind the other. -/
def fsOk (P : Program) (l : List TypeId) (total : Nat) : Nat → List Field → Bool
  | off, [] => Nat.beq off total
  | off, f :: r => Nat.beq f.offset off && l.contains f.type && fsOk P l total (off + P.cellsOf f.type) r
def plainT (P : Program) (l : List TypeId) (t : TypeId) : Bool := match P.underlying t with
  | some .bool => Nat.beq (P.cellsOf t) 1
  | some (.int _) => Nat.beq (P.cellsOf t) 1
  | some .string => Nat.beq (P.cellsOf t) 1
  | some (.slice e) => Nat.beq (P.cellsOf t) 1 && l.contains e && Nat.blt 0 (P.cellsOf e)
  | some (.struct fs) => fsOk P l (P.cellsOf t) 0 fs.toList
  | some (.array n e) => l.contains e && Nat.beq (P.cellsOf t) (n * P.cellsOf e)
  | _ => false
/-- A list of types of plain data that needs no other types. -/
def plainB (P : Program) (l : List TypeId) : Bool := l.all (plainT P l)

def CellsVR (ρ : Ren) (h : AHeap) (w : World) (xs : List AVal) (cs : List Value) : Prop := xs.length = cs.length ∧ ∀ (j : Nat) y v, xs[j]? = some y → cs[j]? = some v → VR ρ h w y v

theorem CellsVR.append {ρ : Ren} {h : AHeap} {w : World} {xs ys : List AVal} {cs ds : List Value} (h1 : CellsVR ρ h w xs cs) (h2 : CellsVR ρ h w ys ds) : CellsVR ρ h w (xs ++ ys) (cs ++ ds) := by
  refine ⟨by simp [h1.1, h2.1], fun j y v hy hv => ?_⟩
  by_cases hj : j < xs.length
  · rw [List.getElem?_append_left hj] at hy
    rw [List.getElem?_append_left (by rw [← h1.1]; exact hj)] at hv
    exact h1.2 j y v hy hv
  · rw [List.getElem?_append_right (by omega)] at hy
    rw [List.getElem?_append_right (by rw [← h1.1]; omega), ← h1.1] at hv
    exact h2.2 _ y v hy hv
theorem CellsVR.one {ρ : Ren} {h : AHeap} {w : World} {x : AVal} {v : Value} (hx : VR ρ h w x v) : CellsVR ρ h w [x] [v] := by
  refine ⟨rfl, fun j y u hy hu => ?_⟩
  cases j with
  | zero => simp at hy hu; subst hy hu; exact hx
  | succ j => simp at hy

theorem cells_get {a : Addr} {n : Nat} {cs : List Value} (h : w.cells? 0 a n = some cs) : cs.length = n ∧ ∀ j, j < n → ∃ v, cs[j]? = some v ∧ w.cell? (a.add j) = some v := by
  unfold World.cells? at h
  simp only [Nat.zero_le, if_true] at h
  obtain ⟨h1, h2⟩ := mapM_some h
  refine ⟨by simpa using h1, fun j hj => ?_⟩
  exact h2 j j (by simp [hj])
theorem cell_spot {a : Addr} {v : Value} (h : w.cell? a = some v) : a.spot = none ∧ a.block < w.heap.size := by
  unfold World.cell? at h
  split at h
  · rename_i c t f hb
    split at h
    · simp at h
    · rename_i hs
      exact ⟨by cases hq : a.spot <;> simp_all, (Array.getElem?_eq_some_iff.1 hb).1⟩
  · simp at h

theorem fsOk_cells {ρ : Ren} {hp : AHeap} {l : List TypeId} {total : Nat} {cs : List Value} (hc : cs.length = total) : ∀ (fs : List Field) (off : Nat) (parts : List (DataW H)), fsOk P l total off fs = true → off ≤ total → parts.length = fs.length →
    (∀ (i : Nat) f, fs[i]? = some f → ∃ x, parts[i]? = some x ∧ (l.contains f.type = true → CellsVR ρ hp w (dOf x).cells ((cs.drop f.offset).take (P.cellsOf f.type)) ∧ (dOf x).cells.length = P.cellsOf f.type)) →
    CellsVR ρ hp w (dOfC parts) (cs.drop off)
  | [], off, parts, h, ho, hl, _ => by
    have : parts = [] := List.eq_nil_of_length_eq_zero (by simpa using hl)
    subst this
    have e : off = total := Nat.eq_of_beq_eq_true h
    rw [List.drop_of_length_le (by omega)]
    exact ⟨rfl, by simp [dOfC]⟩
  | f :: fs, off, parts, h, ho, hl, hp' => by
    simp only [fsOk, Bool.and_eq_true] at h
    obtain ⟨⟨h1, h2⟩, h3⟩ := h
    obtain ⟨x, hx, hq⟩ := hp' 0 f rfl
    obtain ⟨q1, q2⟩ := hq h2
    cases parts with
    | nil => simp at hl
    | cons p parts =>
      simp at hx; subst hx
      have e : f.offset = off := Nat.eq_of_beq_eq_true h1
      rw [e] at q1
      have hle : off + P.cellsOf f.type ≤ total := by
        have := q1.1
        rw [q2] at this
        simp at this
        omega
      have ih := fsOk_cells hc fs (off + P.cellsOf f.type) parts h3 hle (by simpa using hl) (fun i g hg => by simpa using hp' (i + 1) g (by simpa using hg))
      simp only [dOfC]
      have := q1.append ih
      rwa [← List.drop_drop, List.take_append_drop] at this

theorem array_cells {ρ : Ren} {hp : AHeap} {sz : Nat} {cs : List Value} : ∀ (n i : Nat) (parts : List (DataW H)), parts.length = n → cs.length = (i + n) * sz →
    (∀ (j : Nat), j < n → ∃ x, parts[j]? = some x ∧ CellsVR ρ hp w (dOf x).cells ((cs.drop ((i + j) * sz)).take sz)) → CellsVR ρ hp w (dOfC parts) (cs.drop (i * sz))
  | 0, i, parts, hl, hc, _ => by
    have : parts = [] := List.eq_nil_of_length_eq_zero hl
    subst this
    rw [List.drop_of_length_le (by rw [hc, Nat.add_zero]; exact Nat.le_refl _)]
    exact ⟨rfl, by simp [dOfC]⟩
  | n + 1, i, parts, hl, hc, hq => by
    cases parts with
    | nil => simp at hl
    | cons p parts =>
      obtain ⟨x, hx, q⟩ := hq 0 (by omega)
      simp at hx; subst hx
      have ih := array_cells (ρ := ρ) (hp := hp) n (i + 1) parts (by simpa using hl) (by rw [hc]; congr 1; omega) (fun j hj => by
        obtain ⟨y, hy, q'⟩ := hq (j + 1) (by omega)
        exact ⟨y, by simpa using hy, by rw [show i + 1 + j = i + (j + 1) by omega]; exact q'⟩)
      have := q.append ih
      rw [Nat.add_zero, Nat.add_mul, Nat.one_mul, ← List.drop_drop, List.take_append_drop] at this
      simpa [dOfC] using this

/-- What is read of plain data is what lies there. -/
theorem trod_cells {ρ : Ren} {hp : AHeap} (hI : ∀ b j, b < w.heap.size → ρ.I b j) {l : List TypeId} (hl : plainB P l = true) : ∀ (fuel : Nat) (t : TypeId) (cs : List Value) (d : DataW H) (ps : List MemPlace), l.contains t = true → DataW.trod enc P w 0 sp held fuel t cs = some (d, ps) →
    CellsVR ρ hp w (dOf d).cells cs ∧ (dOf d).cells.length = P.cellsOf t
  | 0, t, cs, d, ps, _, h => by simp [DataW.trod] at h
  | fuel + 1, t, cs, d, ps, hm, h => by
    have hpl := List.all_eq_true.1 hl t (by simpa using hm)
    unfold plainT at hpl
    split at hpl <;> try (simp at hpl; done)
    · rename_i ht
      obtain ⟨b, rfl, rfl⟩ := trod_bool ht h
      rw [Nat.eq_of_beq_eq_true hpl]
      exact ⟨.one (.bool b), rfl⟩
    · rename_i k ht
      obtain ⟨n, rfl, rfl, _⟩ := trod_int ht h
      rw [Nat.eq_of_beq_eq_true hpl]
      exact ⟨.one (.int k n), rfl⟩
    · rename_i ht
      obtain ⟨s, rfl, rfl⟩ := trod_string ht h
      rw [Nat.eq_of_beq_eq_true hpl]
      exact ⟨.one (VR.str (ρ := ρ) (h := hp) (w := w) s.data.toList), rfl⟩
    · rename_i e ht
      simp only [Bool.and_eq_true, Nat.blt_eq] at hpl
      obtain ⟨⟨h1, h2⟩, h3⟩ := hpl
      rw [Nat.eq_of_beq_eq_true h1]
      rcases trod_slice ht h with ⟨rfl, rfl⟩ | ⟨a, len, cap, elems, spare, rfl, rfl, hlen, hcap, hel⟩
      · exact ⟨.one (.imm [] none 0 0 0 0 (fun _ _ => undef) (Nat.le_refl _) (by simp) (by simp) (by simp) (by simp)), rfl⟩
      · refine ⟨.one ?_, rfl⟩
        have ih : ∀ (i : Nat) x, elems[i]? = some x → ∃ cs', w.cells? 0 (a.add (i * P.cellsOf e)) (P.cellsOf e) = some cs' ∧ CellsVR ρ hp w (dOf x).cells cs' ∧ (dOf x).cells.length = P.cellsOf e := fun i x hx => by
          obtain ⟨cs', ps', q1, q2⟩ := hel i x hx
          exact ⟨cs', q1, trod_cells hI hl fuel e cs' x ps' h2 q2⟩
        simp only [dOf]
        have hll : (dOfL elems).length = elems.length := by rw [dOfL_map]; simp
        have spot0 : 0 < elems.length → a.spot = none ∧ a.block < w.heap.size := fun hpos => by
          obtain ⟨cs', q1, q2, q3⟩ := ih 0 elems[0] (List.getElem?_eq_getElem hpos)
          obtain ⟨g1, g2⟩ := cells_get q1
          obtain ⟨v, _, hcell⟩ := g2 0 h3
          have := cell_spot hcell
          simpa [Addr.add] using this
        have key : ∀ (i : Nat) x (j : Nat) y, (dOfL elems)[i]? = some x → x.cells[j]? = some y → a.spot = none ∧ a.block < w.heap.size ∧ ∃ v, w.cell? ⟨a.block, a.off + i * P.cellsOf e + j, none⟩ = some v ∧ VR ρ hp w y v := by
          intro i x j y hx hy
          rw [dOfL_map] at hx
          simp only [List.getElem?_map, Option.map_eq_some_iff] at hx
          obtain ⟨z, hz, rfl⟩ := hx
          obtain ⟨cs', q1, q2, q3⟩ := ih i z hz
          have hj : j < P.cellsOf e := by rw [← q3]; exact (List.getElem?_eq_some_iff.1 hy).1
          obtain ⟨g1, g2⟩ := cells_get q1
          obtain ⟨v, hv, hcell⟩ := g2 j hj
          obtain ⟨hs, hb⟩ := spot0 (by have := (List.getElem?_eq_some_iff.1 hz).1; omega)
          refine ⟨hs, hb, v, ?_, q2.2 j y v hy hv⟩
          have e' : (a.add (i * P.cellsOf e)).add j = ⟨a.block, a.off + i * P.cellsOf e + j, none⟩ := by
            rw [show a = ⟨a.block, a.off, none⟩ by cases a; simp_all, add_mk, add_mk]
          rw [← e']; exact hcell
        rw [show (Value.slice (some a) len cap) = Value.slice (some a) (dOfL elems).length cap by rw [hll, hlen]]
        refine .imm (dOfL elems) (some a) cap (P.cellsOf e) a.block a.off (fun i j => (w.cell? ⟨a.block, a.off + i * P.cellsOf e + j, none⟩).getD undef) (by rw [hll, hlen]; exact hcap) ?_ ?_ ?_ ?_
        · intro hpos
          obtain ⟨hs, _⟩ := spot0 (by rw [← hll]; exact hpos)
          rw [show a = ⟨a.block, a.off, none⟩ by cases a; simp_all]
        · intro i x hx
          rw [dOfL_map] at hx
          simp only [List.getElem?_map, Option.map_eq_some_iff] at hx
          obtain ⟨z, hz, rfl⟩ := hx
          obtain ⟨_, _, _, q3⟩ := ih i z hz
          exact q3
        · intro i x j y hx hy
          obtain ⟨_, hb, v, hv, _⟩ := key i x j y hx hy
          exact ⟨hI _ _ hb, by rw [hv]; rfl⟩
        · intro i x j y hx hy
          obtain ⟨_, hb, v, hv, hvr⟩ := key i x j y hx hy
          simp only [hv, Option.getD_some]
          exact hvr
    · rename_i fs ht
      obtain ⟨parts, rfl, hc, hpl', hel⟩ := trod_struct ht h
      have := fsOk_cells (P := P) (w := w) (ρ := ρ) (hp := hp) (l := l) (total := P.cellsOf t) hc fs.toList 0 parts hpl (Nat.zero_le _) hpl' (fun i f hf => by
        obtain ⟨x, ps', q1, q2⟩ := hel i f hf
        exact ⟨x, q1, fun hin => trod_cells hI hl fuel f.type _ x ps' hin q2⟩)
      simp only [List.drop_zero] at this
      refine ⟨by simpa [dOf, AVal.cells] using this, ?_⟩
      rw [← hc]; simpa [dOf, AVal.cells] using this.1
    · rename_i n e ht
      simp only [Bool.and_eq_true] at hpl
      obtain ⟨parts, rfl, hc, hpl', hel⟩ := trod_array ht h
      have := array_cells (w := w) (ρ := ρ) (hp := hp) (sz := P.cellsOf e) (cs := cs) n 0 parts hpl' (by rw [hc, Nat.zero_add]; exact Nat.eq_of_beq_eq_true hpl.2) (fun j hj => by
        obtain ⟨x, ps', q1, q2⟩ := hel j hj
        exact ⟨x, q1, by rw [Nat.zero_add]; exact (trod_cells hI hl fuel e _ x ps' hpl.1 q2).1⟩)
      simp only [Nat.zero_mul, List.drop_zero] at this
      refine ⟨by simpa [dOf, AVal.cells] using this, ?_⟩
      rw [← hc]; simpa [dOf, AVal.cells] using this.1
end
end Go.Proofs.YtindpcpdkikdmaaGreatDoor.Abs
namespace Go.Proofs.YtindpcpdkikdmaaGreatDoor.Abs
open Go.RowKit Go.ChangeShapes

/-- All that lies in a world is left alone. -/
def allI (W : World) : Ren := ⟨fun _ => ⟨0, 0, 0⟩, fun b _ => b < W.heap.size⟩
theorem allI_wf (W : World) : WF (allI W) [] W := ⟨by simp, by simp, by simp, fun _ _ h => h, by simp⟩

/-- A law's contract, at a world in which its arguments are read. -/
theorem calls_of_P {cx : Cx} {f : FuncId} {args : List AVal} (hc : CallsP cx f args (.bool true)) {W : World} {cargs : Array Value} (hv : VRs (allI W) [] W args cargs) (hg : Globs cx (allI W) W) :
    Calls cx.P f cargs W fun e W' => e = .returned (.bool true) ∧ Below W.heap.size W W' := by
  refine (hc.2 (allI W) W cargs (allI_wf W) hg hv).mono ?_
  rintro e W' ⟨ρ', cv, v, h', rfl, ⟨rfl, rfl⟩, r1, r2, r3, r4⟩
  refine ⟨by cases r1; rfl, r4.os, r4.tape, r4.output, r4.size, fun k hk => r4.keep k hk ?_⟩
  rintro ⟨o, x, hx, _⟩
  simp at hx

section
variable {H : Type} {enc : TypeId × Value → H} {P : Program}

theorem trodAll_below (hl : laidOutB P = true) {W W' : World} (hb : Below W.heap.size W W') : ∀ (ts : List TypeId) (vs : List Value) (ds : List (DataW H)) (ps : List MemPlace), (∀ t ∈ ts, P.readableRec t = true ∧ t < P.types.size) → (∀ p ∈ ps, p.block < W.heap.size) →
    DataW.TrodAll enc P W 0 (fun _ => true) true ts vs ds ps → DataW.TrodAll enc P W' 0 (fun b => decide (b < W.heap.size)) true ts vs ds ps
  | [], [], [], ps, _, _, h => h
  | t :: ts, v :: vs, d :: ds, ps, ht, hp, h => by
    obtain ⟨p, q, h1, h2, rfl⟩ := h
    exact ⟨p, q, Below.trod hl (ht t (by simp)).1 (ht t (by simp)).2 h1 hb (fun x hx => hp x (by simp [hx])), trodAll_below hl hb ts vs ds q (fun t' ht' => ht t' (by simp [ht'])) (fun x hx => hp x (by simp [hx])) h2, rfl⟩
  | [], _ :: _, _, _, _, _, h => by simp [DataW.TrodAll] at h
  | [], [], _ :: _, _, _, _, h => by simp [DataW.TrodAll] at h
  | _ :: _, [], _, _, _, _, h => by simp [DataW.TrodAll] at h
  | _ :: _, _ :: _, [], _, _, _, h => by simp [DataW.TrodAll] at h

/-- What a law's row says behind the call. -/
theorem post_true {f : Func} {s : ChangeSpec} {t4 : TypeId} {W W' : World} {args : Array Value} {ds gs : List (DataW H)} {before : List MemPlace} (hl : laidOutB P = true) (hs : s.vars = []) (hr : f.resultTypes = #[t4]) (h4 : P.underlying t4 = some .bool)
    (ht : ∀ t ∈ f.params.toList, P.readableRec t = true ∧ t < P.types.size) (hW : DataW.Whole enc P f.params.toList s.vars false W args.toList ds gs before) (hfn : s.fn H (ds ++ gs) = { results := [.lit (.bool true)], args := ds }) (hb : Below W.heap.size W W') :
    s.post enc P f false true false false W args (.bool true) W' := by
  have hW' := hW
  obtain ⟨p, q, hA, hV, rfl, hfz, hnd⟩ := hW
  refine ⟨ds, gs, p ++ q, [], p, [], hW', ?_, ?_, ?_, hb.frame _, fun h => by cases h⟩
  · rw [hfn, hr]
    exact trodAll_cons_mk (shut_bool h4 _) trodAll_mk0
  · rw [hfn]
    exact trodAll_below hl hb _ _ _ _ ht (fun x hx => hW'.lt x (by simp [hx])) hA
  · rw [hfn, hs]
    exact rfl

/-- One of the listed variables. -/
theorem laidVars_mem {w : World} {n : String} {d : DataW Unit} : ∀ {l : List (String × DataW Unit)} {ps : List MemPlace}, DataW.LaidVars P w l ps → (n, d) ∈ l →
    ∃ g t cs fuel p, P.globalNamed n = some g ∧ (P.globals[g]?).map (·.type) = some t ∧ w.var? P n = some cs ∧ DataW.trod (fun _ => ()) P w 0 (fun _ => true) false fuel t cs.toList = some (d, p)
  | [], ps, _, h => by simp at h
  | (n', d') :: l, ps, h, hm => by
    obtain ⟨g, t, cs, fuel, p, q, h1, h2, h3, h4, h5, _⟩ := h
    simp only [List.mem_cons, Prod.mk.injEq] at hm
    rcases hm with ⟨rfl, rfl⟩ | hm
    · exact ⟨g, t, cs, fuel, p, h1, h2, h3, h4⟩
    · exact laidVars_mem h5 hm

/-- A listed variable of plain data, as this layer has it. -/
theorem laid_glob {w : World} {laid : List (String × DataW Unit)} (hh : laid.filter (fun x => x.2.handleName?.isSome) = []) (hL : laidMetH P laid w) {n : String} {d : DataW Unit} (hm : (n, d) ∈ laid) {g : Nat} {t : TypeId} (hg : P.globalNamed n = some g)
    (ht : (P.globals[g]?).map (·.type) = some t) {l : List TypeId} (hl : plainB P l = true) (htl : l.contains t = true) : VR (allI w) [] w (.pimm (dOf d).cells 0) (.pointer (some ⟨g, 0, none⟩)) := by
  unfold laidMetH at hL
  rw [hh] at hL
  obtain ⟨ps, hv, _⟩ := hL
  obtain ⟨g', t', cs, fuel, p, h1, h2, h3, h4⟩ := laidVars_mem hv hm
  obtain rfl := Option.some.inj (hg.symm.trans h1)
  obtain rfl := Option.some.inj (ht.symm.trans h2)
  obtain ⟨hc, _⟩ := trod_cells (w := w) (ρ := allI w) (hp := []) (fun b _ hb => hb) hl fuel t cs.toList d p htl h4
  have hblk : ∃ t f, w.heap[g]? = some (.cells cs t f) := by
    unfold World.var? at h3
    rw [hg] at h3
    simp only [Option.bind_some] at h3
    split at h3
    · rename_i c t f hq
      simp only [Option.some.injEq] at h3
      subst h3
      exact ⟨t, f, hq⟩
    · simp at h3
  obtain ⟨ty, fr, hb⟩ := hblk
  have hcell : ∀ (j : Nat) y, (dOf d).cells[j]? = some y → ∃ v, cs[j]? = some v ∧ VR (allI w) [] w y v := fun j y hy => by
    have hj : j < cs.size := by
      have := (List.getElem?_eq_some_iff.1 hy).1
      rw [hc.1] at this
      simpa using this
    exact ⟨cs[j], Array.getElem?_eq_getElem hj, hc.2 j y cs[j] hy (by simp [hj])⟩
  refine .pimm _ 0 g 0 (fun j => (cs[j]?).getD undef) (fun j y hy => ⟨(Array.getElem?_eq_some_iff.1 hb).1, ?_⟩) (fun j y hy => ?_)
  · obtain ⟨v, hv, _⟩ := hcell j y hy
    simp [World.cell?, hb, hv]
  · obtain ⟨v, hv, hvr⟩ := hcell j y hy
    simp only [hv, Option.getD_some]
    exact hvr

/-- An argument of plain data. -/
theorem arg_VR {w : World} {l : List TypeId} (hl : plainB P l = true) {t : TypeId} (htl : l.contains t = true) {v : Value} {d : DataW H} {ps : List MemPlace} {base : Nat} (hok : Value.okWide P w .any base t v) (h : DataW.Trod enc P w 0 (fun _ => true) true t v d ps) : VR (allI w) [] w (dOf d) v := by
  obtain ⟨fuel, h⟩ := h
  have hc := (trod_cells (w := w) (ρ := allI w) (hp := []) (fun b _ hb => hb) hl fuel t _ d ps htl h).1
  cases fuel with
  | zero => simp [DataW.trod] at h
  | succ fuel =>
    have hpl := List.all_eq_true.1 hl t (by simpa using htl)
    have single : ∀ x : AVal, x.cells = [x] → dOf d = x → (∀ cs, v ≠ .agg cs) → VR (allI w) [] w (dOf d) v := by
      intro x hx hd hv
      have hvc : v.cells = #[v] := by cases v <;> first | rfl | exact absurd rfl (hv _)
      rw [hd] at hc ⊢
      rw [hx, hvc] at hc
      exact hc.2 0 x v rfl rfl
    have aggc : ∀ xs : List AVal, dOf d = .agg xs → (∃ cs, v = .agg cs) → VR (allI w) [] w (dOf d) v := by
      rintro xs hd ⟨cs, rfl⟩
      rw [hd] at hc ⊢
      refine .agg xs cs ?_ fun i x u hx hu => hc.2 i x u hx ?_
      · have := hc.1; simp [AVal.cells, Value.cells] at this; omega
      · simpa [Value.cells] using hu
    unfold plainT at hpl
    split at hpl <;> try (simp at hpl; done)
    · rename_i ht
      obtain ⟨b, hcs, rfl⟩ := trod_bool ht h
      exact single _ rfl rfl (by rintro cs rfl; simp [Value.okWide, ht, Cell.okWide, Cell.ok] at hok)
    · rename_i k ht
      obtain ⟨n, hcs, rfl, _⟩ := trod_int ht h
      exact single _ rfl rfl (by rintro cs rfl; simp [Value.okWide, ht, Cell.okWide, Cell.ok] at hok)
    · rename_i ht
      obtain ⟨s, hcs, rfl⟩ := trod_string ht h
      exact single _ rfl rfl (by rintro cs rfl; simp [Value.okWide, ht, Cell.okWide, Cell.ok] at hok)
    · rename_i e ht
      have hna : ∀ cs, v ≠ .agg cs := by rintro cs rfl; simp [Value.okWide, ht, Cell.okWide, Cell.ok] at hok
      rcases trod_slice ht h with ⟨_, rfl⟩ | ⟨a, len, cap, elems, spare, _, rfl, _⟩
      · exact single _ rfl rfl hna
      · exact single _ rfl rfl hna
    · rename_i fs ht
      obtain ⟨parts, rfl, _⟩ := trod_struct ht h
      simp only [Value.okWide, ht] at hok
      obtain ⟨cs, rfl, _⟩ := hok
      exact aggc _ rfl ⟨cs, rfl⟩
    · rename_i n e ht
      obtain ⟨parts, rfl, _⟩ := trod_array ht h
      simp only [Value.okWide, ht] at hok
      obtain ⟨cs, rfl, _⟩ := hok
      exact aggc _ rfl ⟨cs, rfl⟩
end
end Go.Proofs.YtindpcpdkikdmaaGreatDoor.Abs
