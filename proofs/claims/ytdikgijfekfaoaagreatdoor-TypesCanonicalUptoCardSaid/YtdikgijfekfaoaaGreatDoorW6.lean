/- The law TypesCanonical. Condition: sizes that can be had. -/
import Derived.Test.YtdikgijfekfaoaaGreatDoorW5
import Derived.Test.YtdikgijfekfaoaaGreatDoorT12
import Derived.Test.YtdikgijfekfaoaaGreatDoorH4
import Derived.Test.YtdikgijfekfaoaaGreatDoorAbsc
set_option linter.all false
set_option linter.unusedSimpArgs false
set_option linter.unusedVariables false
namespace Go.Proofs.YtdikgijfekfaoaaGreatDoor
open Go.Proofs.YtdikgijfekfaoaaGreatDoor.Abs
set_option maxRecDepth 20000
set_option maxHeartbeats 4000000
theorem occNL_mem {n : Int} : ∀ {l : List Ty}, n ∈ occNL l ↔ ∃ t ∈ l, n ∈ occN t
  | [] => by simp [occNL, occsL]
  | t :: l => by rw [occNL_cons, List.mem_append, occNL_mem (l := l)]; simp
theorem occN_kid {t : Ty} {n : Int} (h6 : ¬ t.kind = 6) (h5 : ¬ (t.kind = 5 ∧ t.n ≠ 0)) : n ∈ occN t ↔ n ∈ occNL t.kids := by
  rw [occN_eq, if_neg h6, if_neg h5, List.nil_append, List.append_nil]
theorem baseT_no {k : Int} (hk : k < 5) (n : Int) : n ∉ occN (baseT k) := by
  have e : ∀ x (j : Int), j < 5 → n ∉ occN (.mk j x 0 [] []) := by
    intro x j hj
    rw [occN_kid (by simp only [Ty.kind_mk]; omega) (by simp)]
    simp [occNL, occsL]
  unfold baseT
  split
  · exact e _ _ (by decide)
  · split
    · exact e _ _ (by decide)
    · exact e _ _ hk
theorem recF_no (kid : Nat → Ty) (hk : ∀ i n, n ∉ occN (kid i)) : ∀ f i w o, (o.kind = 5 ∧ o.n = 0 ∧ ∀ n, n ∉ occNL o.kids) → (recF kid f i w o).kind = 5 ∧ (recF kid f i w o).n = 0 ∧ ∀ n, n ∉ occNL (recF kid f i w o).kids
  | 0, i, w, o, h => h
  | f + 1, i, w, o, h => by
    simp only [recF]
    refine recF_no kid hk f _ _ _ ?_
    split
    · refine ⟨rfl, h.2.1, fun n hn => ?_⟩
      obtain ⟨t, ht, hn⟩ := occNL_mem.1 hn
      have ht : t ∈ o.kids.take (putAt o.names (nms.getD i [])) ++ [kid i] ++ o.kids.drop (putAt o.names (nms.getD i [])) := ht
      simp only [List.mem_append, List.mem_singleton] at ht
      rcases ht with (ht | ht) | ht
      · exact h.2.2 n (occNL_mem.2 ⟨t, List.mem_of_mem_take ht, hn⟩)
      · subst ht; exact hk i n hn
      · exact h.2.2 n (occNL_mem.2 ⟨t, List.mem_of_mem_drop ht, hn⟩)
    · exact h
theorem baseT_n (k : Int) : (baseT k).n = 0 := by
  unfold baseT; split
  · rfl
  · split <;> rfl
theorem closedT_no (l : List Int) : ∀ d q, (closedT l d q).n = 0 ∧ ∀ n, n ∉ occN (closedT l d q)
  | 0, q => by
    have := tmod_bd (pickI_bd l q 8 (by decide)).1 (show (0 : Int) < 5 by decide)
    exact ⟨baseT_n _, baseT_no this.2⟩
  | d + 1, q => by
    have ih := closedT_no l d
    unfold closedT
    split
    · rename_i h; exact ⟨baseT_n _, baseT_no h⟩
    · split
      · refine ⟨rfl, fun n hn => ?_⟩
        rw [occN_kid (by simp) (by simp), occNL_mem] at hn
        obtain ⟨t, ht, hn⟩ := hn
        simp only [Ty.kids_mk, List.mem_singleton] at ht
        subst ht; exact (ih _).2 n hn
      · have := recF_no (fun i => closedT l d (q + 2 + 3 * i)) (fun i => (ih _).2) 4 0 (pickI l (q + 1) 16) rec0 ⟨rfl, rfl, fun n hn => by simp [rec0, occNL, occsL] at hn⟩
        refine ⟨this.2.1, fun n hn => ?_⟩
        rw [occN_kid (by rw [this.1]; decide) (by rw [this.2.1]; simp)] at hn
        exact this.2.2 n hn
theorem opF_mask (names : List (List UInt8)) (kid : Nat → Ty) (ks : List Ty) : 0 ≤ (opF names kid 4 0 0 ks).1 ∧ (opF names kid 4 0 0 ks).1 ≤ 15 := by
  simp only [opF]
  repeat' split
  all_goals (simp only; omega)
theorem opF_occ {P : Int → Prop} (names : List (List UInt8)) (kid : Nat → Ty) (hk : ∀ i, ∀ n ∈ occN (kid i), P n) : ∀ f i m ks, (∀ n ∈ occNL ks, P n) → ∀ n ∈ occNL (opF names kid f i m ks).2, P n
  | 0, i, m, ks, h => h
  | f + 1, i, m, ks, h => by
    simp only [opF]
    split
    · refine opF_occ names kid hk f _ _ _ fun n hn => ?_
      obtain ⟨t, ht, hn⟩ := occNL_mem.1 hn
      rcases List.mem_or_eq_of_mem_set ht with ht | ht
      · exact h n (occNL_mem.2 ⟨t, ht, hn⟩)
      · subst ht; exact hk i n hn
    · exact opF_occ names kid hk f _ _ _ h
theorem openT_occ (l : List Int) : ∀ d q, ∀ n ∈ occN (openT l d q), 1 ≤ n ∧ n ≤ 29
  | 0, q, n, h => by
    unfold openT at h
    split at h
    · have := pickI_bd l (q + 8) 2 (by decide)
      rw [occN_eq] at h
      simp [occNL, occsL] at h
      omega
    · exact absurd h ((closedT_no l 0 q).2 n)
  | d + 1, q, n, h => by
    have ih := openT_occ l d
    have hc := closedT_no l (d + 1) q
    unfold openT at h
    split at h
    · have := pickI_bd l (q + 8) 2 (by decide)
      rw [occN_eq] at h
      simp [occNL, occsL] at h
      omega
    · split at h
      · rw [occN_kid (by simp) (by simp), occNL_mem] at h
        obtain ⟨t, ht, h⟩ := h
        simp only [Ty.kids_mk, List.mem_singleton] at ht
        subst ht; exact ih _ n h
      · split at h
        · rename_i h4 h5
          have hks : ∀ n ∈ occNL (closedT l (d + 1) q).kids, 1 ≤ n ∧ n ≤ 29 := fun m hm => by
            have := hc.2 m
            rw [occN_kid (by omega) (by rw [hc.1]; simp)] at this
            exact absurd hm this
          have hk := opF_occ (P := fun n => 1 ≤ n ∧ n ≤ 29) (closedT l (d + 1) q).names (fun i => openT l d (q + 3 + i)) (fun i n hn => ih _ n hn) 4 0 0 _ hks
          have hm := opF_mask (closedT l (d + 1) q).names (fun i => openT l d (q + 3 + i)) (closedT l (d + 1) q).kids
          rw [occN_mk, List.mem_append, List.mem_append] at h
          rcases h with (h | h) | h
          · rw [if_neg (by decide)] at h; simp at h
          · exact hk n h
          · by_cases hp : pickI l (q + 7) 5 < 3
            · rw [if_pos hp] at h
              split at h
              · rw [List.mem_singleton] at h; omega
              · simp at h
            · rw [if_neg hp, if_neg (fun h0 => h0.2 hc.1)] at h
              simp at h
        · exact absurd h (hc.2 n)
def toI (c : Int) (k : Nat) : List Int := (List.range k).map fun i => 100 + ((((i + 1 : Nat) : Int) * 7 + c).tmod 29)
theorem toI_len (c : Int) (k : Nat) : (toI c k).length = k := by simp [toI]
theorem toL_snoc (k : Nat) : toL k ++ [((k + 1 : Nat) : Int)] = toL (k + 1) := by unfold toL; rw [List.range_succ, List.map_append]; rfl
theorem toI_snoc (c : Int) (k : Nat) : toI c k ++ [100 + ((((k + 1 : Nat) : Int) * 7 + c).tmod 29)] = toI c (k + 1) := by unfold toI; rw [List.range_succ, List.map_append]; rfl
theorem toL_getD {k i : Nat} (h : i < k) : (toL k).getD i 0 = ((i + 1 : Nat) : Int) := by
  simp [toL, List.getD_eq_getElem?_getD, h]
theorem toI_getD {c : Int} {k i : Nat} (h : i < k) : (toI c k).getD i 0 = 100 + ((((i + 1 : Nat) : Int) * 7 + c).tmod 29) := by
  simp [toI, List.getD_eq_getElem?_getD, h]
theorem sh_val {c n : Int} (h : 1 ≤ n ∧ n ≤ 29) : refN (toL 29) (toI c 29) n = 100 + ((n * 7 + c).tmod 29) := by
  have hj : (n - 1).toNat < 29 := by omega
  rw [refN_at (toL 29) (toI c 29) (n - 1).toNat (fun i hi => by rw [toL_getD (by omega)]; omega) (by rw [toL_len]; omega) (by rw [toL_len, toI_len]; omega) (by rw [toL_getD hj]; omega), toI_getD hj]
  rw [show (((n - 1).toNat + 1 : Nat) : Int) = n by omega]
def shL (c : Int) (l : List Ty) (k : Nat) : List Ty := (l.take k).map (renT (refN (toL 29) (toI c 29)))
theorem shL_snoc {c : Int} {l : List Ty} {k : Nat} (h : k < l.length) : shL c l k ++ [renT (refN (toL 29) (toI c 29)) (l.getD k Ty.zero)] = shL c l (k + 1) := by
  unfold shL; rw [take_snocT _ _ h, List.map_append]; rfl
theorem shL_len (c : Int) (l : List Ty) (k : Nat) : (shL c l k).length ≤ k := by unfold shL; rw [List.length_map, List.length_take]; omega
theorem sh_same {c : Int} {l : List Ty} (hc : 0 ≤ c ∧ c < 29) (hl : ∀ n ∈ occNL (l.take 2), 1 ≤ n ∧ n ≤ 29) : canT (shL c l 2) = canT ((l.take 2).drop 0) := by
  rw [List.drop_zero]
  refine canT_ren (l.take 2) _ (fun n hn => ?_) fun a ha b hb e => ?_
  · rw [sh_val (hl n hn)]
    have := hl n hn
    have := tmod_bd (x := n * 7 + c) (m := 29) (by omega) (by decide)
    omega
  · have h1 := hl a ha
    have h2 := hl b hb
    rw [sh_val h1, sh_val h2, Int.tmod_eq_emod_of_nonneg (by omega), Int.tmod_eq_emod_of_nonneg (by omega)] at e
    omega
mutual
theorem renT_sz (f : Int → Int) : ∀ t : Ty, (renT f t).sz = t.sz
  | .mk k x n l ks => by rw [renT]; simp only [Ty.sz, renTL_sz f ks]
theorem renTL_sz (f : Int → Int) : ∀ l : List Ty, Ty.szL (renTL f l) = Ty.szL l
  | [] => rfl
  | t :: l => by rw [renTL]; simp only [Ty.szL, renT_sz f t, renTL_sz f l]
end
theorem okT_ren {l : List Ty} (h : okT l) (f : Int → Int) : okT (l.map (renT f)) := by
  refine ⟨by rw [List.length_map]; exact h.1, fun i => ?_⟩
  by_cases hi : i < l.length
  · have e : (l.map (renT f)).getD i Ty.zero = renT f (l.getD i Ty.zero) := by simp [List.getD_eq_getElem?_getD, hi]
    rw [e, renT_sz]; exact h.2 i
  · rw [List.getD_eq_getElem?_getD, List.getElem?_eq_none (by simp; omega)]; simp [Ty.zero, Ty.sz, szS, Ty.szL]
theorem okT_take {l : List Ty} (h : okT l) (k : Nat) : okT (l.take k) := by
  refine ⟨by have := h.1; rw [List.length_take]; omega, fun i => ?_⟩
  by_cases hi : i < (l.take k).length
  · have e : (l.take k).getD i Ty.zero = l.getD i Ty.zero := by
      have h2 : i < k := by rw [List.length_take] at hi; omega
      simp [List.getD_eq_getElem?_getD, List.getElem?_take, h2]
    rw [e]; exact h.2 i
  · rw [List.getD_eq_getElem?_getD, List.getElem?_eq_none (by omega)]; simp [Ty.zero, Ty.sz, szS, Ty.szL]
def all4c (l : List Int) (t u : Ty) : List Ty := [openT l 2 0, openT l 2 3, t, u]
theorem all4c_len (l : List Int) (t u : Ty) : (all4c l t u).length = 4 := rfl
theorem all4c_ok {l : List Int} {t u : Ty} (ht : t.sz < 100000000) (hu : u.sz < 100000000) : okT (all4c l t u) := by
  refine ⟨by rw [all4c_len]; decide, fun i => ?_⟩
  match i with
  | 0 => exact Nat.lt_of_le_of_lt (openT_small l 2 0 (by decide)) (by decide)
  | 1 => exact Nat.lt_of_le_of_lt (openT_small l 2 3 (by decide)) (by decide)
  | 2 => exact ht
  | 3 => exact hu
  | i + 4 => simp [all4c, Ty.zero, Ty.sz, szS, Ty.szL]
theorem all4c_occ (l : List Int) (t u : Ty) : ∀ n ∈ occNL ((all4c l t u).take 2), 1 ≤ n ∧ n ≤ 29 := by
  intro n hn
  obtain ⟨x, hx, hn⟩ := occNL_mem.1 hn
  have hx : x ∈ [openT l 2 0, openT l 2 3] := hx
  simp only [List.mem_cons, List.not_mem_nil, or_false] at hx
  rcases hx with rfl | rfl
  · exact openT_occ l 2 0 n hn
  · exact openT_occ l 2 3 n hn
mutual
theorem beq_refl : ∀ a : Ty, a.beq a = true
  | .mk k x n l ks => by
    rw [Ty.beq]; simp [beqL_refl ks]
theorem beqL_refl : ∀ a : List Ty, Ty.beqL a a = true
  | [] => rfl
  | x :: a => by
    simp only [Ty.beqL, Bool.and_eq_true]
    exact ⟨beq_refl x, beqL_refl a⟩
end
theorem beq_of {a b : Ty} (h : a = b) : a.beq b = true := by subst h; exact beq_refl a
theorem canT_len (l : List Ty) : (canT l).length = l.length := by simp [canT]
theorem okT_at {l : List Ty} (h : okT l) (i : Nat) : (l.getD i Ty.zero).sz < 100000000 := h.2 i
theorem open_q (l : List Int) (q : Nat) (hl : i64L l) (hq : q ≤ 100) : CallsP cx 12 [.imm (l.map (.int .i64)), .int .i64 (q : Nat), .int .i64 2] (openT l 2 q).v := open_spec l q 2 hl (by omega) (by decide)
noncomputable def c8 : Code := bodyOf Tryz.f8
theorem canlaw_spec (t u : Ty) (l : List Int) (b : Int) (ht : t.sz < 100000000) (hu : u.sz < 100000000) (hl : i64L l) (hb : -9223372036854775808 ≤ b ∧ b ≤ 9223372036854775807) : CallsP cx 8 [Ty.v t, Ty.v u, .imm (l.map (AVal.int .i64)), .int .i64 (b)] (.bool true) := by
 have hok := all4c_ok (l := l) ht hu
 have h4 := all4c_len l t u
 have hsi := okT_at hok
 have har := aroundI_bd b 29 (by decide)
 have hok2 : okT (canT (all4c l t u)) := okT_ren hok _
 have hok3 : okT (((all4c l t u).take 2).drop 0) := by rw [List.drop_zero]; exact okT_take hok 2
 have hok4 : ∀ j, okT (shL (aroundI b 29) (all4c l t u) j) := fun j => okT_ren (okT_take hok j) _
 have hok5 : okT (rcanT (all4c l t u)) := okT_ren hok _
 have hsame := sh_same har (all4c_occ l t u)
 have hs1 := okT_at hok2
 have hs2 := okT_at hok5
 have hs3 := okT_at (okT_ren hok2 (numF (canT (all4c l t u))))
 have hs4 := fun j => okT_at (okT_ren (hok4 j) (numF (shL (aroundI b 29) (all4c l t u) j)))
 have hs5 := okT_at (okT_ren hok3 (numF (((all4c l t u).take 2).drop 0)))
 have hl1 : (canT (all4c l t u)).length = 4 := by rw [canT_len]; rfl
 have hl2 : (canT (canT (all4c l t u))).length = 4 := by rw [canT_len, canT_len]; rfl
 have hl3 : (canT (((all4c l t u).take 2).drop 0)).length = 2 := by rw [canT_len]; rfl
 have hl4 : (canT (shL (aroundI b 29) (all4c l t u) 2)).length = 2 := by rw [canT_len]; rfl
 have hl5 : (rcanT (all4c l t u)).length = 4 := by rw [← canT_same]; exact hl1
 have hl6 : ∀ j, j = 2 → (canT (shL (aroundI b 29) (all4c l t u) j)).length = 2 := by rintro _ rfl; exact hl4
 refine func_intro (cx := cx) 134 0 [(ResultVar.tmp 8)] Tryz.func8 rfl rfl rfl rfl rfl (by simp) ?_
 show wpA cx 134 0 (at_ c8 []) _ _ _
 refine qZ [(0, Ty.v t), (1, Ty.v u), (2, .imm (l.map (AVal.int .i64))), (3, .int .i64 (b))] [] ?_ ?_
 refine qW 3 [(2, .imm (l.map (AVal.int .i64))), (3, .int .i64 (b)), (4, .ptr 0 0), (5, .ptr 1 0)] [t.bx, u.bx] ?_ ?_
 refine qSeq ?_ ?_
 refine wDrw cxM (by kernel_rfl) extThen (dstart ?_)
 refine qu 1 ?_ ?_
 refine dcallP (args := [.imm (l.map (AVal.int .i64)), .int .i64 0, .int .i64 2]) (by kernel_rfl) (by kernel_rfl) (by kernel_rfl) (by kernel_rfl) (by kernel_rfl) (open_q l 0 hl (by decide)) (by intro _; simp [Ty.v, -List.map_take, -List.map_drop, -List.drop_zero]) (by simp [Ty.v, -List.map_take, -List.map_drop, -List.drop_zero]) (by simp [Ty.v, -List.map_take, -List.map_drop, -List.drop_zero]) ?_
 refine qu 1 ?_ ?_
 refine dcallP (args := [.imm (l.map (AVal.int .i64)), .int .i64 3, .int .i64 2]) (by kernel_rfl) (by kernel_rfl) (by kernel_rfl) (by kernel_rfl) (by kernel_rfl) (open_q l 3 hl (by decide)) (by intro _; simp [Ty.v, -List.map_take, -List.map_drop, -List.drop_zero]) (by simp [Ty.v, -List.map_take, -List.map_drop, -List.drop_zero]) (by simp [Ty.v, -List.map_take, -List.map_drop, -List.drop_zero]) ?_
 refine qu 4 ?_ ?_
 refine dend (by kernel_rfl) ⟨(by kernel_rfl), ?_⟩
 refine AThen_normal ?_
 refine qZ [(3, .int .i64 (b)), (9, .full [Ty.v (openT l 2 0), Ty.v (openT l 2 3), .agg [.int .i64 (t.kind), .str t.name, .int .i64 (t.n), .imm (t.names.map AVal.str), .imm (t.kids.map Ty.enc)], .agg [.int .i64 (u.kind), .str u.name, .int .i64 (u.n), .imm (u.names.map AVal.str), .imm (u.kids.map Ty.enc)]])] [t.bx, u.bx] ?_ ?_
 refine wFrzT 9 (.full [Ty.v (openT l 2 0), Ty.v (openT l 2 3), .agg [.int .i64 (t.kind), .str t.name, .int .i64 (t.n), .imm (t.names.map AVal.str), .imm (t.kids.map Ty.enc)], .agg [.int .i64 (u.kind), .str u.name, .int .i64 (u.n), .imm (u.names.map AVal.str), .imm (u.kids.map Ty.enc)]]) (.imm ((all4c l t u).map Ty.enc)) (by kernel_rfl) (by simp [all4c, Ty.enc_v, Ty.v]) (by simp [AVal.frz, frzL, all4c, Ty.enc_v, Ty.v]) ?_
 refine qZ [(3, .int .i64 (b)), (9, .imm ((all4c l t u).map Ty.enc))] [t.bx, u.bx] ?_ ?_
 refine qV 1 ?_ ?_
 refine vcallP (args := [.imm ((all4c l t u).map Ty.enc)]) (by kernel_rfl) (by kernel_rfl) (by kernel_rfl) (by kernel_rfl) (canon_spec (all4c l t u) (by first | omega | assumption | exact hsi _ | exact hok4 _ | exact hs1 _ | exact hs2 _ | exact hs3 _ | exact hs4 _ _ | exact hs5 _ | (have := hl6 j (by omega); omega))) (by simp [Ty.v, -List.map_take, -List.map_drop, -List.drop_zero]) (by simp [Ty.v, -List.map_take, -List.map_drop, -List.drop_zero]) (by simp [Ty.v, -List.map_take, -List.map_drop, -List.drop_zero]) ?_
 refine qR 1 [(3, .int .i64 (b)), (9, .imm ((all4c l t u).map Ty.enc)), (10, .imm ((canT (all4c l t u)).map Ty.enc))] [t.bx, u.bx] ?_ ?_
 refine qV 1 ?_ ?_
 refine vcallP (args := [.imm ((all4c l t u).map Ty.enc)]) (by kernel_rfl) (by kernel_rfl) (by kernel_rfl) (by kernel_rfl) (rcanon_spec (all4c l t u) (by first | omega | assumption | exact hsi _ | exact hok4 _ | exact hs1 _ | exact hs2 _ | exact hs3 _ | exact hs4 _ _ | exact hs5 _ | (have := hl6 j (by omega); omega))) (by simp [Ty.v, -List.map_take, -List.map_drop, -List.drop_zero]) (by simp [Ty.v, -List.map_take, -List.map_drop, -List.drop_zero]) (by simp [Ty.v, -List.map_take, -List.map_drop, -List.drop_zero]) ?_
 refine qR 1 [(3, .int .i64 (b)), (9, .imm ((all4c l t u).map Ty.enc)), (10, .imm ((canT (all4c l t u)).map Ty.enc)), (11, .imm ((rcanT (all4c l t u)).map Ty.enc))] [t.bx, u.bx] ?_ ?_
 refine qV 1 ?_ ?_
 refine vcallP (args := [.imm ((canT (all4c l t u)).map Ty.enc)]) (by kernel_rfl) (by kernel_rfl) (by kernel_rfl) (by kernel_rfl) (canon_spec (canT (all4c l t u)) (by first | omega | assumption | exact hsi _ | exact hok4 _ | exact hs1 _ | exact hs2 _ | exact hs3 _ | exact hs4 _ _ | exact hs5 _ | (have := hl6 j (by omega); omega))) (by simp [Ty.v, -List.map_take, -List.map_drop, -List.drop_zero]) (by simp [Ty.v, -List.map_take, -List.map_drop, -List.drop_zero]) (by simp [Ty.v, -List.map_take, -List.map_drop, -List.drop_zero]) ?_
 refine qR 1 [(3, .int .i64 (b)), (9, .imm ((all4c l t u).map Ty.enc)), (10, .imm ((canT (all4c l t u)).map Ty.enc)), (11, .imm ((rcanT (all4c l t u)).map Ty.enc)), (12, .imm ((canT (canT (all4c l t u))).map Ty.enc))] [t.bx, u.bx] ?_ ?_
 refine qU 2 [(3, .int .i64 (b)), (9, .imm ((all4c l t u).map Ty.enc)), (10, .imm ((canT (all4c l t u)).map Ty.enc)), (11, .imm ((rcanT (all4c l t u)).map Ty.enc)), (12, .imm ((canT (canT (all4c l t u))).map Ty.enc)), (13, .full []), (14, .full [])] ?_ ?_
 refine wOwn 13 1 (by decide) (by kernel_rfl) ?_
 refine wOwn 14 1 (by decide) (by kernel_rfl) ?_
 refine qZ [(3, .int .i64 (b)), (9, .imm ((all4c l t u).map Ty.enc)), (10, .imm ((canT (all4c l t u)).map Ty.enc)), (11, .imm ((rcanT (all4c l t u)).map Ty.enc)), (12, .imm ((canT (canT (all4c l t u))).map Ty.enc)), (13, .own 2 0 0), (14, .own 3 0 0)] [t.bx, u.bx, .arr 1 (([] : List (Int)).map (AVal.int .i64)) 0, .arr 1 (([] : List (Int)).map (AVal.int .i64)) 0] ?_ ?_
 refine qSeq ?_ ?_
 refine qU 1 [(3, .int .i64 (b)), (9, .imm ((all4c l t u).map Ty.enc)), (10, .imm ((canT (all4c l t u)).map Ty.enc)), (11, .imm ((rcanT (all4c l t u)).map Ty.enc)), (12, .imm ((canT (canT (all4c l t u))).map Ty.enc)), (13, .own 2 0 0), (14, .own 3 0 0), (15, .int .i64 1)] ?_ ?_
 refine qB 0 ?_ ?_ ?_
 refine wLoop (σ := Nat) (fun k => [(3, .int .i64 (b)), (9, .imm ((all4c l t u).map Ty.enc)), (10, .imm ((canT (all4c l t u)).map Ty.enc)), (11, .imm ((rcanT (all4c l t u)).map Ty.enc)), (12, .imm ((canT (canT (all4c l t u))).map Ty.enc)), (13, .own 2 0 (toL k).length), (14, .own 3 0 (toI (aroundI b 29) k).length), (15, .int .i64 (((k + 1) : Nat) : Int))]) (fun k => [.box [.int .i64 (t.kind), .str t.name, .int .i64 (t.n), .imm (t.names.map AVal.str), .imm (t.kids.map Ty.enc)], .box [.int .i64 (u.kind), .str u.name, .int .i64 (u.n), .imm (u.names.map AVal.str), .imm (u.kids.map Ty.enc)], .arr 1 ((toL k).map (AVal.int .i64)) 0, .arr 1 ((toI (aroundI b 29) k).map (AVal.int .i64)) 0]) (fun k => k ≤ 29) (fun k => 29 - k) 0 (by kernel_rfl) (by exact Nat.zero_le _) ⟨⟨(by kernel_rfl), (by kernel_rfl), (by kernel_rfl), (by kernel_rfl), (by kernel_rfl), (by kernel_rfl), (by kernel_rfl), (by kernel_rfl), trivial⟩, by simp [BelL, AVal.bel], by simp, (by kernel_rfl), by simp [AObj.belO, -List.map_append]⟩ ?_
 rintro k hk
 have htl := toL_len k
 have hti := toI_len (aroundI b 29) k
 have htm := tmod_bd (x := ((k + 1 : Nat) : Int) * 7 + aroundI b 29) (m := 29) (by omega) (by decide)
 refine qSeq ?_ ?_
 refine qW 2 [(3, .int .i64 (b)), (9, .imm ((all4c l t u).map Ty.enc)), (10, .imm ((canT (all4c l t u)).map Ty.enc)), (11, .imm ((rcanT (all4c l t u)).map Ty.enc)), (12, .imm ((canT (canT (all4c l t u))).map Ty.enc)), (13, .own 2 0 (toL k).length), (14, .own 3 0 (toI (aroundI b 29) k).length), (15, nI (k + 1)), (35, .bool (decide ((((k + 1) : Nat) : Int) < 30)))] [t.bx, u.bx, .arr 1 ((toL k).map (AVal.int .i64)) 0, .arr 1 ((toI (aroundI b 29) k).map (AVal.int .i64)) 0] ?_ ?_
 by_cases hb1 : (((k + 1) : Nat) : Int) < 30
 refine qt (decide_eq_true hb1) ?_ ?_
 refine qK ?_ ?_
 refine qz [(3, .int .i64 (b)), (9, .imm ((all4c l t u).map Ty.enc)), (10, .imm ((canT (all4c l t u)).map Ty.enc)), (11, .imm ((rcanT (all4c l t u)).map Ty.enc)), (12, .imm ((canT (canT (all4c l t u))).map Ty.enc)), (13, .own 2 0 (toL k).length), (14, .own 3 0 (toI (aroundI b 29) k).length), (15, nI (k + 1))] ?_ ?_
 refine qSeq ?_ ?_
 refine qB 1 ?_ ?_ ?_
 refine qV 3 ?_ ?_
 refine qY (o_appmap (o := 2) (len := ((toL k).length)) (l := (toL k)) (xs := [(((k + 1) : Nat) : Int)]) (enc := (AVal.int .i64)) (sz := 1) (fr := 0) (x := (.full [.int .i64 (((k + 1) : Nat) : Int)])) (by kernel_rfl) ty26 ty3 ty26 rfl (by kernel_rfl) rfl (by first | rfl | simp) (by kernel_rfl) ⟨by decide, by kernel_rfl⟩ (fun _ => rfl) (by simp only [List.length_append, List.length_map, List.length_cons, List.length_nil]; omega) (by simp only [List.length_append, List.length_map, List.length_cons, List.length_nil]; omega)) ?_ ?_ ?_
 refine qR 1 [(3, .int .i64 (b)), (9, .imm ((all4c l t u).map Ty.enc)), (10, .imm ((canT (all4c l t u)).map Ty.enc)), (11, .imm ((rcanT (all4c l t u)).map Ty.enc)), (12, .imm ((canT (canT (all4c l t u))).map Ty.enc)), (13, .own 2 0 ((toL k) ++ [(((k + 1) : Nat) : Int)]).length), (14, .own 3 0 (toI (aroundI b 29) k).length), (15, nI (k + 1))] [t.bx, u.bx, .arr 1 (((toL k) ++ [(((k + 1) : Nat) : Int)]).map (AVal.int .i64)) 0, .arr 1 ((toI (aroundI b 29) k).map (AVal.int .i64)) 0] ?_ ?_
 refine qo ?_ ?_
 refine qr 2 ?_ ?_
 refine qy (o_mul (a := (((k + 1) : Nat) : Int)) (b := 7) (by kernel_rfl) (by first | omega | assumption | exact hsi _ | exact hok4 _ | exact hs1 _ | exact hs2 _ | exact hs3 _ | exact hs4 _ _ | exact hs5 _ | (have := hl6 j (by omega); omega)) (by first | omega | assumption | exact hsi _ | exact hok4 _ | exact hs1 _ | exact hs2 _ | exact hs3 _ | exact hs4 _ _ | exact hs5 _ | (have := hl6 j (by omega); omega))) ?_ ?_ ?_
 refine qr 1 ?_ ?_
 refine qc [.int .i64 (b), .int .i64 29] (around_spec (b) 29 (by first | omega | assumption | exact hsi _ | exact hok4 _ | exact hs1 _ | exact hs2 _ | exact hs3 _ | exact hs4 _ _ | exact hs5 _ | (have := hl6 j (by omega); omega)) (by first | omega | assumption | exact hsi _ | exact hok4 _ | exact hs1 _ | exact hs2 _ | exact hs3 _ | exact hs4 _ _ | exact hs5 _ | (have := hl6 j (by omega); omega))) ?_ ?_
 refine qy (o_add (a := ((((k + 1) : Nat) : Int) * 7)) (b := (aroundI (b) 29)) (by kernel_rfl) (by first | omega | assumption | exact hsi _ | exact hok4 _ | exact hs1 _ | exact hs2 _ | exact hs3 _ | exact hs4 _ _ | exact hs5 _ | (have := hl6 j (by omega); omega)) (by first | omega | assumption | exact hsi _ | exact hok4 _ | exact hs1 _ | exact hs2 _ | exact hs3 _ | exact hs4 _ _ | exact hs5 _ | (have := hl6 j (by omega); omega))) ?_ ?_ ?_
 refine qy (o_rem (a := (((((k + 1) : Nat) : Int) * 7) + (aroundI (b) 29))) (b := 29) (by kernel_rfl) (by decide)) ?_ ?_ ?_
 refine qy (o_add (a := 100) (b := ((((((k + 1) : Nat) : Int) * 7) + (aroundI (b) 29)).tmod 29)) (by kernel_rfl) (by first | omega | assumption | exact hsi _ | exact hok4 _ | exact hs1 _ | exact hs2 _ | exact hs3 _ | exact hs4 _ _ | exact hs5 _ | (have := hl6 j (by omega); omega)) (by first | omega | assumption | exact hsi _ | exact hok4 _ | exact hs1 _ | exact hs2 _ | exact hs3 _ | exact hs4 _ _ | exact hs5 _ | (have := hl6 j (by omega); omega))) ?_ ?_ ?_
 refine qr 1 ?_ ?_
 refine qY (o_appmap (o := 3) (len := ((toI (aroundI b 29) k).length)) (l := (toI (aroundI b 29) k)) (xs := [(100 + ((((((k + 1) : Nat) : Int) * 7) + (aroundI (b) 29)).tmod 29))]) (enc := (AVal.int .i64)) (sz := 1) (fr := 0) (x := (.full [.int .i64 (100 + ((((((k + 1) : Nat) : Int) * 7) + (aroundI (b) 29)).tmod 29))])) (by kernel_rfl) ty26 ty3 ty26 rfl (by kernel_rfl) rfl (by first | rfl | simp) (by kernel_rfl) ⟨by decide, by kernel_rfl⟩ (fun _ => rfl) (by simp only [List.length_append, List.length_map, List.length_cons, List.length_nil]; omega) (by simp only [List.length_append, List.length_map, List.length_cons, List.length_nil]; omega)) ?_ ?_ ?_
 refine qr 1 ?_ ?_
 refine qe ?_ ?_
 refine AIn_normal ?_
 refine AThen_normal ?_
 refine qZ [(3, .int .i64 (b)), (9, .imm ((all4c l t u).map Ty.enc)), (10, .imm ((canT (all4c l t u)).map Ty.enc)), (11, .imm ((rcanT (all4c l t u)).map Ty.enc)), (12, .imm ((canT (canT (all4c l t u))).map Ty.enc)), (13, .own 2 0 ((toL k) ++ [(((k + 1) : Nat) : Int)]).length), (14, .own 3 0 ((toI (aroundI b 29) k) ++ [(100 + ((((((k + 1) : Nat) : Int) * 7) + (aroundI (b) 29)).tmod 29))]).length), (15, nI (k + 1))] [t.bx, u.bx, .arr 1 (((toL k) ++ [(((k + 1) : Nat) : Int)]).map (AVal.int .i64)) 0, .arr 1 (((toI (aroundI b 29) k) ++ [(100 + ((((((k + 1) : Nat) : Int) * 7) + (aroundI (b) 29)).tmod 29))]).map (AVal.int .i64)) 0] ?_ ?_
 refine qo ?_ ?_
 refine qr 1 ?_ ?_
 refine qy (o_add (a := (((k + 1) : Nat) : Int)) (b := 1) (by kernel_rfl) (by first | omega | assumption | exact hsi _ | exact hok4 _ | exact hs1 _ | exact hs2 _ | exact hs3 _ | exact hs4 _ _ | exact hs5 _ | (have := hl6 j (by omega); omega)) (by first | omega | assumption | exact hsi _ | exact hok4 _ | exact hs1 _ | exact hs2 _ | exact hs3 _ | exact hs4 _ _ | exact hs5 _ | (have := hl6 j (by omega); omega))) ?_ ?_ ?_
 refine qr 1 ?_ ?_
 refine qe ?_ ?_
 refine AThen_normal ⟨k + 1, ?_, ?_, ⟨⟨(by kernel_rfl), (by kernel_rfl), (by kernel_rfl), (by kernel_rfl), (by kernel_rfl), (Eq.trans (b := .own 2 0 ((toL k) ++ [(((k + 1) : Nat) : Int)]).length) (by kernel_rfl) (by rw [toL_snoc])), (Eq.trans (b := .own 3 0 ((toI (aroundI b 29) k) ++ [(100 + ((((((k + 1) : Nat) : Int) * 7) + (aroundI (b) 29)).tmod 29))]).length) (by kernel_rfl) (by rw [toI_snoc])), (by kernel_rfl), trivial⟩, by simp [BelL, AVal.bel], by simp, (Eq.trans (b := [.box [.int .i64 (t.kind), .str t.name, .int .i64 (t.n), .imm (t.names.map AVal.str), .imm (t.kids.map Ty.enc)], .box [.int .i64 (u.kind), .str u.name, .int .i64 (u.n), .imm (u.names.map AVal.str), .imm (u.kids.map Ty.enc)], .arr 1 (((toL k) ++ [(((k + 1) : Nat) : Int)]).map (AVal.int .i64)) 0, .arr 1 (((toI (aroundI b 29) k) ++ [(100 + ((((((k + 1) : Nat) : Int) * 7) + (aroundI (b) 29)).tmod 29))]).map (AVal.int .i64)) 0]) (by kernel_rfl) (by rw [toL_snoc, toI_snoc])), by simp [AObj.belO, -List.map_append]⟩⟩
 · omega
 · omega
 iterate 34 kernel_rfl
 refine qf (decide_eq_false hb1) ?_ ?_
 refine wExit 0 (by kernel_rfl) (by kernel_rfl) ?_
 refine AThen_exit ?_
 refine AThen_exit ?_
 refine AIn_exit ?_
 refine AThen_normal ?_
 refine qz [(9, .imm ((all4c l t u).map Ty.enc)), (10, .imm ((canT (all4c l t u)).map Ty.enc)), (11, .imm ((rcanT (all4c l t u)).map Ty.enc)), (12, .imm ((canT (canT (all4c l t u))).map Ty.enc)), (13, .own 2 0 (toL k).length), (14, .own 3 0 (toI (aroundI b 29) k).length)] ?_ ?_
 refine qU 1 [(9, .imm ((all4c l t u).map Ty.enc)), (10, .imm ((canT (all4c l t u)).map Ty.enc)), (11, .imm ((rcanT (all4c l t u)).map Ty.enc)), (12, .imm ((canT (canT (all4c l t u))).map Ty.enc)), (13, .own 2 0 (toL k).length), (14, .own 3 0 (toI (aroundI b 29) k).length), (16, .full [])] ?_ ?_
 refine wOwn 16 5 (by decide) (by kernel_rfl) ?_
 refine wLock 2 [.box [.int .i64 (t.kind), .str t.name, .int .i64 (t.n), .imm (t.names.map AVal.str), .imm (t.kids.map Ty.enc)], .box [.int .i64 (u.kind), .str u.name, .int .i64 (u.n), .imm (u.names.map AVal.str), .imm (u.kids.map Ty.enc)], .arr 1 ((toL k).map (AVal.int .i64)) ((toL k).map (AVal.int .i64)).length, .arr 1 ((toI (aroundI b 29) k).map (AVal.int .i64)) 0, .arr 5 (([] : List (Ty)).map Ty.enc) 0] (by simp [frzH]) ?_
 refine wLock 3 [.box [.int .i64 (t.kind), .str t.name, .int .i64 (t.n), .imm (t.names.map AVal.str), .imm (t.kids.map Ty.enc)], .box [.int .i64 (u.kind), .str u.name, .int .i64 (u.n), .imm (u.names.map AVal.str), .imm (u.kids.map Ty.enc)], .arr 1 ((toL k).map (AVal.int .i64)) ((toL k).map (AVal.int .i64)).length, .arr 1 ((toI (aroundI b 29) k).map (AVal.int .i64)) ((toI (aroundI b 29) k).map (AVal.int .i64)).length, .arr 5 (([] : List (Ty)).map Ty.enc) 0] (by simp [frzH]) ?_
 refine qZ [(9, .imm ((all4c l t u).map Ty.enc)), (10, .imm ((canT (all4c l t u)).map Ty.enc)), (11, .imm ((rcanT (all4c l t u)).map Ty.enc)), (12, .imm ((canT (canT (all4c l t u))).map Ty.enc)), (13, .own 2 0 (toL k).length), (14, .own 3 0 (toI (aroundI b 29) k).length), (16, .own 4 0 0)] [t.bx, u.bx, .arr 1 ((toL k).map (AVal.int .i64)) ((toL k).map (AVal.int .i64)).length, .arr 1 ((toI (aroundI b 29) k).map (AVal.int .i64)) ((toI (aroundI b 29) k).map (AVal.int .i64)).length, .arr 5 (([] : List (Ty)).map Ty.enc) 0] ?_ ?_
 refine qSeq ?_ ?_
 refine qU 1 [(9, .imm ((all4c l t u).map Ty.enc)), (10, .imm ((canT (all4c l t u)).map Ty.enc)), (11, .imm ((rcanT (all4c l t u)).map Ty.enc)), (12, .imm ((canT (canT (all4c l t u))).map Ty.enc)), (13, .own 2 0 (toL k).length), (14, .own 3 0 (toI (aroundI b 29) k).length), (16, .own 4 0 0), (17, .int .i64 0)] ?_ ?_
 refine qB 2 ?_ ?_ ?_
 refine wLoop (σ := Nat) (fun j => [(9, .imm ((all4c l t u).map Ty.enc)), (10, .imm ((canT (all4c l t u)).map Ty.enc)), (11, .imm ((rcanT (all4c l t u)).map Ty.enc)), (12, .imm ((canT (canT (all4c l t u))).map Ty.enc)), (13, .own 2 0 (toL 29).length), (14, .own 3 0 (toI (aroundI b 29) 29).length), (16, .own 4 0 (shL (aroundI b 29) (all4c l t u) j).length), (17, .int .i64 ((j : Nat) : Int))]) (fun j => [.box [.int .i64 (t.kind), .str t.name, .int .i64 (t.n), .imm (t.names.map AVal.str), .imm (t.kids.map Ty.enc)], .box [.int .i64 (u.kind), .str u.name, .int .i64 (u.n), .imm (u.names.map AVal.str), .imm (u.kids.map Ty.enc)], .arr 1 ((toL 29).map (AVal.int .i64)) ((toL 29).map (AVal.int .i64)).length, .arr 1 ((toI (aroundI b 29) 29).map (AVal.int .i64)) ((toI (aroundI b 29) 29).map (AVal.int .i64)).length, .arr 5 ((shL (aroundI b 29) (all4c l t u) j).map Ty.enc) 0]) (fun j => j ≤ 2) (fun j => 2 - j) 0 (by kernel_rfl) (by exact Nat.zero_le _) ⟨⟨(by kernel_rfl), (by kernel_rfl), (by kernel_rfl), (by kernel_rfl), (Eq.trans (b := .own 2 0 (toL k).length) (by kernel_rfl) (by rw [show k = 29 by omega])), (Eq.trans (b := .own 3 0 (toI (aroundI b 29) k).length) (by kernel_rfl) (by rw [show k = 29 by omega])), (by kernel_rfl), (by kernel_rfl), trivial⟩, by simp [BelL, AVal.bel], by simp, (Eq.trans (b := [.box [.int .i64 (t.kind), .str t.name, .int .i64 (t.n), .imm (t.names.map AVal.str), .imm (t.kids.map Ty.enc)], .box [.int .i64 (u.kind), .str u.name, .int .i64 (u.n), .imm (u.names.map AVal.str), .imm (u.kids.map Ty.enc)], .arr 1 ((toL k).map (AVal.int .i64)) ((toL k).map (AVal.int .i64)).length, .arr 1 ((toI (aroundI b 29) k).map (AVal.int .i64)) ((toI (aroundI b 29) k).map (AVal.int .i64)).length, .arr 5 (([] : List (Ty)).map Ty.enc) 0]) (by kernel_rfl) (by rw [show k = 29 by omega]; rfl)), by simp [AObj.belO, belL_app, Ty.enc_v, -List.map_append]⟩ ?_
 rintro j hj
 have hsl := shL_len (aroundI b 29) (all4c l t u) j
 have htl := toL_len 29
 have hti := toI_len (aroundI b 29) 29
 refine qSeq ?_ ?_
 refine qW 2 [(9, .imm ((all4c l t u).map Ty.enc)), (10, .imm ((canT (all4c l t u)).map Ty.enc)), (11, .imm ((rcanT (all4c l t u)).map Ty.enc)), (12, .imm ((canT (canT (all4c l t u))).map Ty.enc)), (13, .own 2 0 (toL 29).length), (14, .own 3 0 (toI (aroundI b 29) 29).length), (16, .own 4 0 (shL (aroundI b 29) (all4c l t u) j).length), (17, nI j), (53, .bool (decide (((j : Nat) : Int) < 2)))] [t.bx, u.bx, .arr 1 ((toL 29).map (AVal.int .i64)) ((toL 29).map (AVal.int .i64)).length, .arr 1 ((toI (aroundI b 29) 29).map (AVal.int .i64)) ((toI (aroundI b 29) 29).map (AVal.int .i64)).length, .arr 5 ((shL (aroundI b 29) (all4c l t u) j).map Ty.enc) 0] ?_ ?_
 by_cases hb2 : ((j : Nat) : Int) < 2
 refine qt (decide_eq_true hb2) ?_ ?_
 refine qK ?_ ?_
 refine qz [(9, .imm ((all4c l t u).map Ty.enc)), (10, .imm ((canT (all4c l t u)).map Ty.enc)), (11, .imm ((rcanT (all4c l t u)).map Ty.enc)), (12, .imm ((canT (canT (all4c l t u))).map Ty.enc)), (13, .own 2 0 (toL 29).length), (14, .own 3 0 (toI (aroundI b 29) 29).length), (16, .own 4 0 (shL (aroundI b 29) (all4c l t u) j).length), (17, nI j)] ?_ ?_
 refine qSeq ?_ ?_
 refine qB 3 ?_ ?_ ?_
 refine qo ?_ ?_
 refine qr 3 ?_ ?_
 refine qy ((o_ixmap (k := .i64) (l := (all4c l t u)) (enc := Ty.enc) (i := ((j : Nat) : Int)) Ty.zero (by kernel_rfl) ty23 ty25 ty_size (by first | omega | assumption | exact hsi _ | exact hok4 _ | exact hs1 _ | exact hs2 _ | exact hs3 _ | exact hs4 _ _ | exact hs5 _ | (have := hl6 j (by omega); omega)) (by first | omega | assumption | exact hsi _ | exact hok4 _ | exact hs1 _ | exact hs2 _ | exact hs3 _ | exact hs4 _ _ | exact hs5 _ | (have := hl6 j (by omega); omega))).trans (congrArg (fun cs => some (AVal.pimm cs 0, _)) (ty_cells ((all4c l t u).getD j Ty.zero)))) ?_ ?_ ?_
 refine qr 3 ?_ ?_
 refine vZ (args := [.agg [.int .i64 (((all4c l t u).getD j Ty.zero).kind), .str ((all4c l t u).getD j Ty.zero).name, .int .i64 (((all4c l t u).getD j Ty.zero).n), .imm (((all4c l t u).getD j Ty.zero).names.map AVal.str), .imm (((all4c l t u).getD j Ty.zero).kids.map Ty.enc)], .own 2 0 (toL 29).length, .own 3 0 (toI (aroundI b 29) 29).length]) (F := [.box [.int .i64 (t.kind), .str t.name, .int .i64 (t.n), .imm (t.names.map AVal.str), .imm (t.kids.map Ty.enc)], .box [.int .i64 (u.kind), .str u.name, .int .i64 (u.n), .imm (u.names.map AVal.str), .imm (u.kids.map Ty.enc)], .arr 1 ((toL 29).map (AVal.int .i64)) ((toL 29).map (AVal.int .i64)).length, .arr 1 ((toI (aroundI b 29) 29).map (AVal.int .i64)) ((toI (aroundI b 29) 29).map (AVal.int .i64)).length, .arr 5 ((shL (aroundI b 29) (all4c l t u) j).map Ty.enc) 0]) (by kernel_rfl) (by kernel_rfl) (by kernel_rfl) (by kernel_rfl) (rrenum_spec ((all4c l t u).getD j Ty.zero) (toL 29) (toI (aroundI b 29) 29) (by first | omega | assumption | exact hsi _ | exact hok4 _ | exact hs1 _ | exact hs2 _ | exact hs3 _ | exact hs4 _ _ | exact hs5 _ | (have := hl6 j (by omega); omega)) (by first | omega | assumption | exact hsi _ | exact hok4 _ | exact hs1 _ | exact hs2 _ | exact hs3 _ | exact hs4 _ _ | exact hs5 _ | (have := hl6 j (by omega); omega)) (by first | omega | assumption | exact hsi _ | exact hok4 _ | exact hs1 _ | exact hs2 _ | exact hs3 _ | exact hs4 _ _ | exact hs5 _ | (have := hl6 j (by omega); omega))) [.box [.int .i64 (t.kind), .str t.name, .int .i64 (t.n), .imm (t.names.map AVal.str), .imm (t.kids.map Ty.enc)], .box [.int .i64 (u.kind), .str u.name, .int .i64 (u.n), .imm (u.names.map AVal.str), .imm (u.kids.map Ty.enc)], .arr 1 ((toL 29).map (AVal.int .i64)) ((toL 29).map (AVal.int .i64)).length, .arr 1 ((toI (aroundI b 29) 29).map (AVal.int .i64)) ((toI (aroundI b 29) 29).map (AVal.int .i64)).length, .arr 5 ((shL (aroundI b 29) (all4c l t u) j).map Ty.enc) 0] (by kernel_rfl) (by simp [frzL, frzH, ownsL, AVal.frz, AVal.owns, all4c, Ty.enc_v, Ty.v]) (by simp [Ty.v, -List.map_take, -List.map_drop, -List.drop_zero]) (by simp [frzL, frzH, ownsL, AVal.frz, AVal.owns, all4c, Ty.enc_v, Ty.v]) ?_
 refine qr 1 ?_ ?_
 refine qY (o_appmap (o := 4) (len := ((shL (aroundI b 29) (all4c l t u) j).length)) (l := (shL (aroundI b 29) (all4c l t u) j)) (xs := [(renT (refN (toL 29) (toI (aroundI b 29) 29)) ((all4c l t u).getD j Ty.zero))]) (enc := Ty.enc) (sz := 5) (fr := 0) (x := (.full [Ty.v (renT (refN (toL 29) (toI (aroundI b 29) 29)) ((all4c l t u).getD j Ty.zero))])) (by kernel_rfl) ty23 ty25 ty23 rfl (by kernel_rfl) rfl (by first | rfl | simp) (Eq.trans (b := some [Ty.v (renT (refN (toL 29) (toI (aroundI b 29) 29)) ((all4c l t u).getD j Ty.zero))]) (by kernel_rfl) (by simp [Ty.enc_v])) ⟨by decide, by kernel_rfl⟩ ty_ok (by simp only [List.length_append, List.length_map, List.length_cons, List.length_nil]; omega) (by simp only [List.length_append, List.length_map, List.length_cons, List.length_nil]; omega)) ?_ ?_ ?_
 refine qr 1 ?_ ?_
 refine qe ?_ ?_
 refine AIn_normal ?_
 refine AThen_normal ?_
 refine qZ [(9, .imm ((all4c l t u).map Ty.enc)), (10, .imm ((canT (all4c l t u)).map Ty.enc)), (11, .imm ((rcanT (all4c l t u)).map Ty.enc)), (12, .imm ((canT (canT (all4c l t u))).map Ty.enc)), (13, .own 2 0 (toL 29).length), (14, .own 3 0 (toI (aroundI b 29) 29).length), (16, .own 4 0 ((shL (aroundI b 29) (all4c l t u) j) ++ [(renT (refN (toL 29) (toI (aroundI b 29) 29)) ((all4c l t u).getD j Ty.zero))]).length), (17, nI j)] [t.bx, u.bx, .arr 1 ((toL 29).map (AVal.int .i64)) ((toL 29).map (AVal.int .i64)).length, .arr 1 ((toI (aroundI b 29) 29).map (AVal.int .i64)) ((toI (aroundI b 29) 29).map (AVal.int .i64)).length, .arr 5 (((shL (aroundI b 29) (all4c l t u) j) ++ [(renT (refN (toL 29) (toI (aroundI b 29) 29)) ((all4c l t u).getD j Ty.zero))]).map Ty.enc) 0] ?_ ?_
 refine qo ?_ ?_
 refine qr 1 ?_ ?_
 refine qy (o_add (a := ((j : Nat) : Int)) (b := 1) (by kernel_rfl) (by first | omega | assumption | exact hsi _ | exact hok4 _ | exact hs1 _ | exact hs2 _ | exact hs3 _ | exact hs4 _ _ | exact hs5 _ | (have := hl6 j (by omega); omega)) (by first | omega | assumption | exact hsi _ | exact hok4 _ | exact hs1 _ | exact hs2 _ | exact hs3 _ | exact hs4 _ _ | exact hs5 _ | (have := hl6 j (by omega); omega))) ?_ ?_ ?_
 refine qr 1 ?_ ?_
 refine qe ?_ ?_
 refine AThen_normal ⟨j + 1, ?_, ?_, ⟨⟨(by kernel_rfl), (by kernel_rfl), (by kernel_rfl), (by kernel_rfl), (by kernel_rfl), (by kernel_rfl), (Eq.trans (b := .own 4 0 ((shL (aroundI b 29) (all4c l t u) j) ++ [(renT (refN (toL 29) (toI (aroundI b 29) 29)) ((all4c l t u).getD j Ty.zero))]).length) (by kernel_rfl) (by rw [shL_snoc (by omega)])), (by kernel_rfl), trivial⟩, by simp [BelL, AVal.bel], by simp, (Eq.trans (b := [.box [.int .i64 (t.kind), .str t.name, .int .i64 (t.n), .imm (t.names.map AVal.str), .imm (t.kids.map Ty.enc)], .box [.int .i64 (u.kind), .str u.name, .int .i64 (u.n), .imm (u.names.map AVal.str), .imm (u.kids.map Ty.enc)], .arr 1 ((toL 29).map (AVal.int .i64)) ((toL 29).map (AVal.int .i64)).length, .arr 1 ((toI (aroundI b 29) 29).map (AVal.int .i64)) ((toI (aroundI b 29) 29).map (AVal.int .i64)).length, .arr 5 (((shL (aroundI b 29) (all4c l t u) j) ++ [(renT (refN (toL 29) (toI (aroundI b 29) 29)) ((all4c l t u).getD j Ty.zero))]).map Ty.enc) 0]) (by kernel_rfl) (by rw [shL_snoc (by omega)])), by simp [AObj.belO, belL_app, Ty.enc_v, -List.map_append]⟩⟩
 · omega
 · omega
 iterate 23 kernel_rfl
 refine qf (decide_eq_false hb2) ?_ ?_
 refine wExit 2 (by kernel_rfl) (by kernel_rfl) ?_
 refine AThen_exit ?_
 refine AThen_exit ?_
 refine AIn_exit ?_
 refine AThen_normal ?_
 refine qz [(9, .imm ((all4c l t u).map Ty.enc)), (10, .imm ((canT (all4c l t u)).map Ty.enc)), (11, .imm ((rcanT (all4c l t u)).map Ty.enc)), (12, .imm ((canT (canT (all4c l t u))).map Ty.enc)), (16, .own 4 0 (shL (aroundI b 29) (all4c l t u) j).length)] ?_ ?_
 refine qV 1 ?_ ?_
 refine vZ (args := [.own 4 0 (shL (aroundI b 29) (all4c l t u) j).length]) (F := [.box [.int .i64 (t.kind), .str t.name, .int .i64 (t.n), .imm (t.names.map AVal.str), .imm (t.kids.map Ty.enc)], .box [.int .i64 (u.kind), .str u.name, .int .i64 (u.n), .imm (u.names.map AVal.str), .imm (u.kids.map Ty.enc)], .arr 1 ((toL 29).map (AVal.int .i64)) ((toL 29).map (AVal.int .i64)).length, .arr 1 ((toI (aroundI b 29) 29).map (AVal.int .i64)) ((toI (aroundI b 29) 29).map (AVal.int .i64)).length, .arr 5 ((shL (aroundI b 29) (all4c l t u) j).map Ty.enc) ((shL (aroundI b 29) (all4c l t u) j).map Ty.enc).length]) (by kernel_rfl) (by kernel_rfl) (by kernel_rfl) (by kernel_rfl) (canon_spec (shL (aroundI b 29) (all4c l t u) j) (by first | omega | assumption | exact hsi _ | exact hok4 _ | exact hs1 _ | exact hs2 _ | exact hs3 _ | exact hs4 _ _ | exact hs5 _ | (have := hl6 j (by omega); omega))) [.box [.int .i64 (t.kind), .str t.name, .int .i64 (t.n), .imm (t.names.map AVal.str), .imm (t.kids.map Ty.enc)], .box [.int .i64 (u.kind), .str u.name, .int .i64 (u.n), .imm (u.names.map AVal.str), .imm (u.kids.map Ty.enc)], .arr 1 ((toL 29).map (AVal.int .i64)) ((toL 29).map (AVal.int .i64)).length, .arr 1 ((toI (aroundI b 29) 29).map (AVal.int .i64)) ((toI (aroundI b 29) 29).map (AVal.int .i64)).length, .arr 5 ((shL (aroundI b 29) (all4c l t u) j).map Ty.enc) 0] (by kernel_rfl) (by simp [frzL, frzH, ownsL, AVal.frz, AVal.owns, all4c, Ty.enc_v, Ty.v]) (by simp [Ty.v, -List.map_take, -List.map_drop, -List.drop_zero]) (by simp [frzL, frzH, ownsL, AVal.frz, AVal.owns, all4c, Ty.enc_v, Ty.v]) ?_
 refine qR 1 [(9, .imm ((all4c l t u).map Ty.enc)), (10, .imm ((canT (all4c l t u)).map Ty.enc)), (11, .imm ((rcanT (all4c l t u)).map Ty.enc)), (12, .imm ((canT (canT (all4c l t u))).map Ty.enc)), (18, .imm ((canT (shL (aroundI b 29) (all4c l t u) j)).map Ty.enc))] [t.bx, u.bx, .arr 1 ((toL 29).map (AVal.int .i64)) ((toL 29).map (AVal.int .i64)).length, .arr 1 ((toI (aroundI b 29) 29).map (AVal.int .i64)) ((toI (aroundI b 29) 29).map (AVal.int .i64)).length, .arr 5 ((shL (aroundI b 29) (all4c l t u) j).map Ty.enc) ((shL (aroundI b 29) (all4c l t u) j).map Ty.enc).length] ?_ ?_
 refine qV 1 ?_ ?_
 refine qy (o_slcmap (lo := none) (hi := (some (.int .i64 2))) (l := (all4c l t u)) (enc := Ty.enc) (x := 0) (y := 2) (by kernel_rfl) ty23 ty25 ty_size (by kernel_rfl) (by kernel_rfl) (by first | omega | assumption | exact hsi _ | exact hok4 _ | exact hs1 _ | exact hs2 _ | exact hs3 _ | exact hs4 _ _ | exact hs5 _ | (have := hl6 j (by omega); omega)) (by first | omega | assumption | exact hsi _ | exact hok4 _ | exact hs1 _ | exact hs2 _ | exact hs3 _ | exact hs4 _ _ | exact hs5 _ | (have := hl6 j (by omega); omega)) (by first | omega | assumption | exact hsi _ | exact hok4 _ | exact hs1 _ | exact hs2 _ | exact hs3 _ | exact hs4 _ _ | exact hs5 _ | (have := hl6 j (by omega); omega))) ?_ ?_ ?_
 refine vcallP (args := [.imm ((((all4c l t u).take 2).drop 0).map Ty.enc)]) (by kernel_rfl) (by kernel_rfl) (by kernel_rfl) (by kernel_rfl) (canon_spec (((all4c l t u).take 2).drop 0) (by first | omega | assumption | exact hsi _ | exact hok4 _ | exact hs1 _ | exact hs2 _ | exact hs3 _ | exact hs4 _ _ | exact hs5 _ | (have := hl6 j (by omega); omega))) (by simp [Ty.v, -List.map_take, -List.map_drop, -List.drop_zero]) (by simp [Ty.v, -List.map_take, -List.map_drop, -List.drop_zero]) (by simp [Ty.v, -List.map_take, -List.map_drop, -List.drop_zero]) ?_
 refine qR 1 [(10, .imm ((canT (all4c l t u)).map Ty.enc)), (11, .imm ((rcanT (all4c l t u)).map Ty.enc)), (12, .imm ((canT (canT (all4c l t u))).map Ty.enc)), (18, .imm ((canT (shL (aroundI b 29) (all4c l t u) j)).map Ty.enc)), (19, .imm ((canT (((all4c l t u).take 2).drop 0)).map Ty.enc))] [t.bx, u.bx, .arr 1 ((toL 29).map (AVal.int .i64)) ((toL 29).map (AVal.int .i64)).length, .arr 1 ((toI (aroundI b 29) 29).map (AVal.int .i64)) ((toI (aroundI b 29) 29).map (AVal.int .i64)).length, .arr 5 ((shL (aroundI b 29) (all4c l t u) j).map Ty.enc) ((shL (aroundI b 29) (all4c l t u) j).map Ty.enc).length] ?_ ?_
 refine qSeq ?_ ?_
 refine qV 1 ?_ ?_
 refine qy (o_lenmap (l := (canT (all4c l t u))) (enc := Ty.enc) (by kernel_rfl) ty23) ?_ ?_ ?_
 refine qr 2 ?_ ?_
 by_cases hb3 : (((canT (all4c l t u)).length : Nat) : Int) = 4
 refine qm [73, 74] (x := ((((canT (all4c l t u)).length : Nat) : Int) != 4)) (bne_eq_false_iff_eq.2 hb3) ?_ ?_
 refine qr 1 ?_ ?_
 refine qy (o_lenmap (l := (canT (canT (all4c l t u)))) (enc := Ty.enc) (by kernel_rfl) ty23) ?_ ?_ ?_
 refine qr 3 ?_ ?_
 by_cases hb4 : (((canT (canT (all4c l t u))).length : Nat) : Int) = 4
 refine qm [77, 78, 79] (x := ((((canT (canT (all4c l t u))).length : Nat) : Int) != 4)) (bne_eq_false_iff_eq.2 hb4) ?_ ?_
 refine qr 1 ?_ ?_
 refine qy (o_lenmap (l := (canT (shL (aroundI b 29) (all4c l t u) j))) (enc := Ty.enc) (by kernel_rfl) ty23) ?_ ?_ ?_
 refine qr 3 ?_ ?_
 by_cases hb5 : (((canT (shL (aroundI b 29) (all4c l t u) j)).length : Nat) : Int) = 2
 refine qm [82, 83, 84] (x := ((((canT (shL (aroundI b 29) (all4c l t u) j)).length : Nat) : Int) != 2)) (bne_eq_false_iff_eq.2 hb5) ?_ ?_
 refine qr 1 ?_ ?_
 refine qy (o_lenmap (l := (canT (((all4c l t u).take 2).drop 0))) (enc := Ty.enc) (by kernel_rfl) ty23) ?_ ?_ ?_
 refine qR 2 [(10, .imm ((canT (all4c l t u)).map Ty.enc)), (11, .imm ((rcanT (all4c l t u)).map Ty.enc)), (12, .imm ((canT (canT (all4c l t u))).map Ty.enc)), (18, .imm ((canT (shL (aroundI b 29) (all4c l t u) j)).map Ty.enc)), (19, .imm ((canT (((all4c l t u).take 2).drop 0)).map Ty.enc)), (88, .bool ((((canT (((all4c l t u).take 2).drop 0)).length : Nat) : Int) != 2))] [t.bx, u.bx, .arr 1 ((toL 29).map (AVal.int .i64)) ((toL 29).map (AVal.int .i64)).length, .arr 1 ((toI (aroundI b 29) 29).map (AVal.int .i64)) ((toI (aroundI b 29) 29).map (AVal.int .i64)).length, .arr 5 ((shL (aroundI b 29) (all4c l t u) j).map Ty.enc) ((shL (aroundI b 29) (all4c l t u) j).map Ty.enc).length] ?_ ?_
 by_cases hb6 : (((canT (((all4c l t u).take 2).drop 0)).length : Nat) : Int) = 2
 refine qf (x := ((((canT (((all4c l t u).take 2).drop 0)).length : Nat) : Int) != 2)) (bne_eq_false_iff_eq.2 hb6) ?_ ?_
 refine qK ?_ ?_
 refine qz [(10, .imm ((canT (all4c l t u)).map Ty.enc)), (11, .imm ((rcanT (all4c l t u)).map Ty.enc)), (12, .imm ((canT (canT (all4c l t u))).map Ty.enc)), (18, .imm ((canT (shL (aroundI b 29) (all4c l t u) j)).map Ty.enc)), (19, .imm ((canT (((all4c l t u).take 2).drop 0)).map Ty.enc))] ?_ ?_
 refine qSeq ?_ ?_
 refine qU 1 [(10, .imm ((canT (all4c l t u)).map Ty.enc)), (11, .imm ((rcanT (all4c l t u)).map Ty.enc)), (12, .imm ((canT (canT (all4c l t u))).map Ty.enc)), (18, .imm ((canT (shL (aroundI b 29) (all4c l t u) j)).map Ty.enc)), (19, .imm ((canT (((all4c l t u).take 2).drop 0)).map Ty.enc)), (20, .int .i64 0)] ?_ ?_
 refine qB 4 ?_ ?_ ?_
 refine wLoop (σ := Nat) (fun i => [(10, .imm ((canT (all4c l t u)).map Ty.enc)), (11, .imm ((rcanT (all4c l t u)).map Ty.enc)), (12, .imm ((canT (canT (all4c l t u))).map Ty.enc)), (18, .imm ((canT (shL (aroundI b 29) (all4c l t u) j)).map Ty.enc)), (19, .imm ((canT (((all4c l t u).take 2).drop 0)).map Ty.enc)), (20, .int .i64 ((i : Nat) : Int))]) (fun i => [.box [.int .i64 (t.kind), .str t.name, .int .i64 (t.n), .imm (t.names.map AVal.str), .imm (t.kids.map Ty.enc)], .box [.int .i64 (u.kind), .str u.name, .int .i64 (u.n), .imm (u.names.map AVal.str), .imm (u.kids.map Ty.enc)], .arr 1 ((toL 29).map (AVal.int .i64)) ((toL 29).map (AVal.int .i64)).length, .arr 1 ((toI (aroundI b 29) 29).map (AVal.int .i64)) ((toI (aroundI b 29) 29).map (AVal.int .i64)).length, .arr 5 ((shL (aroundI b 29) (all4c l t u) j).map Ty.enc) ((shL (aroundI b 29) (all4c l t u) j).map Ty.enc).length]) (fun i => i ≤ 4) (fun i => 4 - i) 0 (by kernel_rfl) (by exact Nat.zero_le _) ⟨⟨(by kernel_rfl), (by kernel_rfl), (by kernel_rfl), (by kernel_rfl), (by kernel_rfl), (by kernel_rfl), trivial⟩, by simp [BelL, AVal.bel], by simp, (by kernel_rfl), by simp [AObj.belO, belL_app, Ty.enc_v, -List.map_append]⟩ ?_
 rintro i hi
 refine qSeq ?_ ?_
 refine qW 2 [(10, .imm ((canT (all4c l t u)).map Ty.enc)), (11, .imm ((rcanT (all4c l t u)).map Ty.enc)), (12, .imm ((canT (canT (all4c l t u))).map Ty.enc)), (18, .imm ((canT (shL (aroundI b 29) (all4c l t u) j)).map Ty.enc)), (19, .imm ((canT (((all4c l t u).take 2).drop 0)).map Ty.enc)), (20, nI i), (90, .bool (decide (((i : Nat) : Int) < 4)))] [t.bx, u.bx, .arr 1 ((toL 29).map (AVal.int .i64)) ((toL 29).map (AVal.int .i64)).length, .arr 1 ((toI (aroundI b 29) 29).map (AVal.int .i64)) ((toI (aroundI b 29) 29).map (AVal.int .i64)).length, .arr 5 ((shL (aroundI b 29) (all4c l t u) j).map Ty.enc) ((shL (aroundI b 29) (all4c l t u) j).map Ty.enc).length] ?_ ?_
 by_cases hb7 : ((i : Nat) : Int) < 4
 refine qt (decide_eq_true hb7) ?_ ?_
 refine qK ?_ ?_
 refine qz [(10, .imm ((canT (all4c l t u)).map Ty.enc)), (11, .imm ((rcanT (all4c l t u)).map Ty.enc)), (12, .imm ((canT (canT (all4c l t u))).map Ty.enc)), (18, .imm ((canT (shL (aroundI b 29) (all4c l t u) j)).map Ty.enc)), (19, .imm ((canT (((all4c l t u).take 2).drop 0)).map Ty.enc)), (20, nI i)] ?_ ?_
 refine qSeq ?_ ?_
 refine qB 5 ?_ ?_ ?_
 refine qSeq ?_ ?_
 refine wDrw cxM (by kernel_rfl) extThen (dstart ?_)
 refine qu 2 ?_ ?_
 refine qd ((o_ixmap (k := .i64) (l := (canT (all4c l t u))) (enc := Ty.enc) (i := ((i : Nat) : Int)) Ty.zero (by kernel_rfl) ty23 ty25 ty_size (by first | omega | assumption | exact hsi _ | exact hok4 _ | exact hs1 _ | exact hs2 _ | exact hs3 _ | exact hs4 _ _ | exact hs5 _ | (have := hl6 j (by omega); omega)) (by first | omega | assumption | exact hsi _ | exact hok4 _ | exact hs1 _ | exact hs2 _ | exact hs3 _ | exact hs4 _ _ | exact hs5 _ | (have := hl6 j (by omega); omega))).trans (congrArg (fun cs => some (AVal.pimm cs 0, _)) (ty_cells ((canT (all4c l t u)).getD i Ty.zero)))) ?_ ?_ ?_ ?_
 refine qu 3 ?_ ?_
 refine qd ((o_ixmap (k := .i64) (l := (rcanT (all4c l t u))) (enc := Ty.enc) (i := ((i : Nat) : Int)) Ty.zero (by kernel_rfl) ty23 ty25 ty_size (by first | omega | assumption | exact hsi _ | exact hok4 _ | exact hs1 _ | exact hs2 _ | exact hs3 _ | exact hs4 _ _ | exact hs5 _ | (have := hl6 j (by omega); omega)) (by first | omega | assumption | exact hsi _ | exact hok4 _ | exact hs1 _ | exact hs2 _ | exact hs3 _ | exact hs4 _ _ | exact hs5 _ | (have := hl6 j (by omega); omega))).trans (congrArg (fun cs => some (AVal.pimm cs 0, _)) (ty_cells ((rcanT (all4c l t u)).getD i Ty.zero)))) ?_ ?_ ?_ ?_
 refine qu 1 ?_ ?_
 refine dcallP (args := [.agg [.int .i64 (((canT (all4c l t u)).getD i Ty.zero).kind), .str ((canT (all4c l t u)).getD i Ty.zero).name, .int .i64 (((canT (all4c l t u)).getD i Ty.zero).n), .imm (((canT (all4c l t u)).getD i Ty.zero).names.map AVal.str), .imm (((canT (all4c l t u)).getD i Ty.zero).kids.map Ty.enc)], .agg [.int .i64 (((rcanT (all4c l t u)).getD i Ty.zero).kind), .str ((rcanT (all4c l t u)).getD i Ty.zero).name, .int .i64 (((rcanT (all4c l t u)).getD i Ty.zero).n), .imm (((rcanT (all4c l t u)).getD i Ty.zero).names.map AVal.str), .imm (((rcanT (all4c l t u)).getD i Ty.zero).kids.map Ty.enc)]]) (by kernel_rfl) (by kernel_rfl) (by kernel_rfl) (by kernel_rfl) (by kernel_rfl) (rEqual_spec ((canT (all4c l t u)).getD i Ty.zero) ((rcanT (all4c l t u)).getD i Ty.zero) (by first | omega | assumption | exact hsi _ | exact hok4 _ | exact hs1 _ | exact hs2 _ | exact hs3 _ | exact hs4 _ _ | exact hs5 _ | (have := hl6 j (by omega); omega))) (by intro _; simp [Ty.v, -List.map_take, -List.map_drop, -List.drop_zero]) (by simp [Ty.v, -List.map_take, -List.map_drop, -List.drop_zero]) (by simp [Ty.v, -List.map_take, -List.map_drop, -List.drop_zero]) ?_
 refine qu 2 ?_ ?_
 by_cases hb8 : (((canT (all4c l t u)).getD i Ty.zero).beq ((rcanT (all4c l t u)).getD i Ty.zero)) = true
 refine dset 102 (.bool (!(((canT (all4c l t u)).getD i Ty.zero).beq ((rcanT (all4c l t u)).getD i Ty.zero)))) (.bool false) (extD extThen) (by kernel_rfl) (congrArg AVal.bool (congrArg not (hb8))) ?_
 refine dset 103 (.bool (!(((canT (all4c l t u)).getD i Ty.zero).beq ((rcanT (all4c l t u)).getD i Ty.zero)))) (.bool false) (extD extThen) (by kernel_rfl) (congrArg AVal.bool (congrArg not (hb8))) ?_
 refine qu 2 ?_ ?_
 refine qd ((o_ixmap (k := .i64) (l := (canT (all4c l t u))) (enc := Ty.enc) (i := ((i : Nat) : Int)) Ty.zero (by kernel_rfl) ty23 ty25 ty_size (by first | omega | assumption | exact hsi _ | exact hok4 _ | exact hs1 _ | exact hs2 _ | exact hs3 _ | exact hs4 _ _ | exact hs5 _ | (have := hl6 j (by omega); omega)) (by first | omega | assumption | exact hsi _ | exact hok4 _ | exact hs1 _ | exact hs2 _ | exact hs3 _ | exact hs4 _ _ | exact hs5 _ | (have := hl6 j (by omega); omega))).trans (congrArg (fun cs => some (AVal.pimm cs 0, _)) (ty_cells ((canT (all4c l t u)).getD i Ty.zero)))) ?_ ?_ ?_ ?_
 refine qu 3 ?_ ?_
 refine qd ((o_ixmap (k := .i64) (l := (canT (canT (all4c l t u)))) (enc := Ty.enc) (i := ((i : Nat) : Int)) Ty.zero (by kernel_rfl) ty23 ty25 ty_size (by first | omega | assumption | exact hsi _ | exact hok4 _ | exact hs1 _ | exact hs2 _ | exact hs3 _ | exact hs4 _ _ | exact hs5 _ | (have := hl6 j (by omega); omega)) (by first | omega | assumption | exact hsi _ | exact hok4 _ | exact hs1 _ | exact hs2 _ | exact hs3 _ | exact hs4 _ _ | exact hs5 _ | (have := hl6 j (by omega); omega))).trans (congrArg (fun cs => some (AVal.pimm cs 0, _)) (ty_cells ((canT (canT (all4c l t u))).getD i Ty.zero)))) ?_ ?_ ?_ ?_
 refine qu 1 ?_ ?_
 refine dcallP (args := [.agg [.int .i64 (((canT (all4c l t u)).getD i Ty.zero).kind), .str ((canT (all4c l t u)).getD i Ty.zero).name, .int .i64 (((canT (all4c l t u)).getD i Ty.zero).n), .imm (((canT (all4c l t u)).getD i Ty.zero).names.map AVal.str), .imm (((canT (all4c l t u)).getD i Ty.zero).kids.map Ty.enc)], .agg [.int .i64 (((canT (canT (all4c l t u))).getD i Ty.zero).kind), .str ((canT (canT (all4c l t u))).getD i Ty.zero).name, .int .i64 (((canT (canT (all4c l t u))).getD i Ty.zero).n), .imm (((canT (canT (all4c l t u))).getD i Ty.zero).names.map AVal.str), .imm (((canT (canT (all4c l t u))).getD i Ty.zero).kids.map Ty.enc)]]) (by kernel_rfl) (by kernel_rfl) (by kernel_rfl) (by kernel_rfl) (by kernel_rfl) (rEqual_spec ((canT (all4c l t u)).getD i Ty.zero) ((canT (canT (all4c l t u))).getD i Ty.zero) (by first | omega | assumption | exact hsi _ | exact hok4 _ | exact hs1 _ | exact hs2 _ | exact hs3 _ | exact hs4 _ _ | exact hs5 _ | (have := hl6 j (by omega); omega))) (by intro _; simp [Ty.v, -List.map_take, -List.map_drop, -List.drop_zero]) (by simp [Ty.v, -List.map_take, -List.map_drop, -List.drop_zero]) (by simp [Ty.v, -List.map_take, -List.map_drop, -List.drop_zero]) ?_
 refine qu 2 ?_ ?_
 refine dend (by kernel_rfl) ⟨(by kernel_rfl), ?_⟩
 refine AThen_normal ?_
 refine qZ [(10, .imm ((canT (all4c l t u)).map Ty.enc)), (11, .imm ((rcanT (all4c l t u)).map Ty.enc)), (12, .imm ((canT (canT (all4c l t u))).map Ty.enc)), (18, .imm ((canT (shL (aroundI b 29) (all4c l t u) j)).map Ty.enc)), (19, .imm ((canT (((all4c l t u).take 2).drop 0)).map Ty.enc)), (20, nI i), (104, .imm ((canT (all4c l t u)).map Ty.enc)), (105, nI i), (106, .pimm [.int .i64 (((canT (all4c l t u)).getD i Ty.zero).kind), .str ((canT (all4c l t u)).getD i Ty.zero).name, .int .i64 (((canT (all4c l t u)).getD i Ty.zero).n), .imm (((canT (all4c l t u)).getD i Ty.zero).names.map AVal.str), .imm (((canT (all4c l t u)).getD i Ty.zero).kids.map Ty.enc)] 0), (107, .agg [.int .i64 (((canT (all4c l t u)).getD i Ty.zero).kind), .str ((canT (all4c l t u)).getD i Ty.zero).name, .int .i64 (((canT (all4c l t u)).getD i Ty.zero).n), .imm (((canT (all4c l t u)).getD i Ty.zero).names.map AVal.str), .imm (((canT (all4c l t u)).getD i Ty.zero).kids.map Ty.enc)]), (108, .imm ((canT (canT (all4c l t u))).map Ty.enc)), (109, nI i), (110, .pimm [.int .i64 (((canT (canT (all4c l t u))).getD i Ty.zero).kind), .str ((canT (canT (all4c l t u))).getD i Ty.zero).name, .int .i64 (((canT (canT (all4c l t u))).getD i Ty.zero).n), .imm (((canT (canT (all4c l t u))).getD i Ty.zero).names.map AVal.str), .imm (((canT (canT (all4c l t u))).getD i Ty.zero).kids.map Ty.enc)] 0), (111, .agg [.int .i64 (((canT (canT (all4c l t u))).getD i Ty.zero).kind), .str ((canT (canT (all4c l t u))).getD i Ty.zero).name, .int .i64 (((canT (canT (all4c l t u))).getD i Ty.zero).n), .imm (((canT (canT (all4c l t u))).getD i Ty.zero).names.map AVal.str), .imm (((canT (canT (all4c l t u))).getD i Ty.zero).kids.map Ty.enc)]), (112, .bool (((canT (all4c l t u)).getD i Ty.zero).beq ((canT (canT (all4c l t u))).getD i Ty.zero))), (113, .bool (!(((canT (all4c l t u)).getD i Ty.zero).beq ((canT (canT (all4c l t u))).getD i Ty.zero)))), (114, .bool (!(((canT (all4c l t u)).getD i Ty.zero).beq ((canT (canT (all4c l t u))).getD i Ty.zero))))] [t.bx, u.bx, .arr 1 ((toL 29).map (AVal.int .i64)) ((toL 29).map (AVal.int .i64)).length, .arr 1 ((toI (aroundI b 29) 29).map (AVal.int .i64)) ((toI (aroundI b 29) 29).map (AVal.int .i64)).length, .arr 5 ((shL (aroundI b 29) (all4c l t u) j).map Ty.enc) ((shL (aroundI b 29) (all4c l t u) j).map Ty.enc).length] ?_ ?_
 by_cases hb9 : (((canT (all4c l t u)).getD i Ty.zero).beq ((canT (canT (all4c l t u))).getD i Ty.zero)) = true
 refine qf (x := (!(((canT (all4c l t u)).getD i Ty.zero).beq ((canT (canT (all4c l t u))).getD i Ty.zero)))) (congrArg not (hb9)) ?_ ?_
 refine qk ?_ ?_
 refine AIn_normal ?_
 refine AThen_normal ?_
 refine qz [(10, .imm ((canT (all4c l t u)).map Ty.enc)), (11, .imm ((rcanT (all4c l t u)).map Ty.enc)), (12, .imm ((canT (canT (all4c l t u))).map Ty.enc)), (18, .imm ((canT (shL (aroundI b 29) (all4c l t u) j)).map Ty.enc)), (19, .imm ((canT (((all4c l t u).take 2).drop 0)).map Ty.enc)), (20, nI i), (104, .imm ((canT (all4c l t u)).map Ty.enc)), (105, nI i), (106, .pimm [.int .i64 (((canT (all4c l t u)).getD i Ty.zero).kind), .str ((canT (all4c l t u)).getD i Ty.zero).name, .int .i64 (((canT (all4c l t u)).getD i Ty.zero).n), .imm (((canT (all4c l t u)).getD i Ty.zero).names.map AVal.str), .imm (((canT (all4c l t u)).getD i Ty.zero).kids.map Ty.enc)] 0), (107, .agg [.int .i64 (((canT (all4c l t u)).getD i Ty.zero).kind), .str ((canT (all4c l t u)).getD i Ty.zero).name, .int .i64 (((canT (all4c l t u)).getD i Ty.zero).n), .imm (((canT (all4c l t u)).getD i Ty.zero).names.map AVal.str), .imm (((canT (all4c l t u)).getD i Ty.zero).kids.map Ty.enc)]), (108, .imm ((canT (canT (all4c l t u))).map Ty.enc)), (109, nI i), (110, .pimm [.int .i64 (((canT (canT (all4c l t u))).getD i Ty.zero).kind), .str ((canT (canT (all4c l t u))).getD i Ty.zero).name, .int .i64 (((canT (canT (all4c l t u))).getD i Ty.zero).n), .imm (((canT (canT (all4c l t u))).getD i Ty.zero).names.map AVal.str), .imm (((canT (canT (all4c l t u))).getD i Ty.zero).kids.map Ty.enc)] 0), (111, .agg [.int .i64 (((canT (canT (all4c l t u))).getD i Ty.zero).kind), .str ((canT (canT (all4c l t u))).getD i Ty.zero).name, .int .i64 (((canT (canT (all4c l t u))).getD i Ty.zero).n), .imm (((canT (canT (all4c l t u))).getD i Ty.zero).names.map AVal.str), .imm (((canT (canT (all4c l t u))).getD i Ty.zero).kids.map Ty.enc)]), (112, .bool (((canT (all4c l t u)).getD i Ty.zero).beq ((canT (canT (all4c l t u))).getD i Ty.zero))), (113, .bool (!(((canT (all4c l t u)).getD i Ty.zero).beq ((canT (canT (all4c l t u))).getD i Ty.zero))))] ?_ ?_
 refine qo ?_ ?_
 refine qr 1 ?_ ?_
 refine qy (o_add (a := ((i : Nat) : Int)) (b := 1) (by kernel_rfl) (by first | omega | assumption | exact hsi _ | exact hok4 _ | exact hs1 _ | exact hs2 _ | exact hs3 _ | exact hs4 _ _ | exact hs5 _ | (have := hl6 j (by omega); omega)) (by first | omega | assumption | exact hsi _ | exact hok4 _ | exact hs1 _ | exact hs2 _ | exact hs3 _ | exact hs4 _ _ | exact hs5 _ | (have := hl6 j (by omega); omega))) ?_ ?_ ?_
 refine qr 1 ?_ ?_
 refine qe ?_ ?_
 refine AThen_normal ⟨i + 1, ?_, ?_, ⟨⟨(by kernel_rfl), (by kernel_rfl), (by kernel_rfl), (by kernel_rfl), (by kernel_rfl), (by kernel_rfl), trivial⟩, by simp [BelL, AVal.bel], by simp, (by kernel_rfl), by simp [AObj.belO, belL_app, Ty.enc_v, -List.map_append]⟩⟩
 · omega
 · omega
 iterate 9 kernel_rfl
 · exfalso; exact hb9 (beq_of (by first | exact congrArg (fun q => List.getD q i Ty.zero) (canT_same _) | exact congrArg (fun q => List.getD q i Ty.zero) (canT_twice _).symm | (rw [show j = 2 by omega]; exact congrArg (fun q => List.getD q _ Ty.zero) hsame)))
 iterate 11 kernel_rfl
 · exfalso; exact hb8 (beq_of (by first | exact congrArg (fun q => List.getD q i Ty.zero) (canT_same _) | exact congrArg (fun q => List.getD q i Ty.zero) (canT_twice _).symm | (rw [show j = 2 by omega]; exact congrArg (fun q => List.getD q _ Ty.zero) hsame)))
 iterate 17 kernel_rfl
 refine qf (decide_eq_false hb7) ?_ ?_
 refine wExit 4 (by kernel_rfl) (by kernel_rfl) ?_
 refine AThen_exit ?_
 refine AThen_exit ?_
 refine AIn_exit ?_
 refine AThen_normal ?_
 refine qz [(18, .imm ((canT (shL (aroundI b 29) (all4c l t u) j)).map Ty.enc)), (19, .imm ((canT (((all4c l t u).take 2).drop 0)).map Ty.enc))] ?_ ?_
 refine qSeq ?_ ?_
 refine wDrw cxM (by kernel_rfl) extThen (dstart ?_)
 refine qu 1 ?_ ?_
 refine qd ((o_ixmap (k := .i64) (l := (canT (shL (aroundI b 29) (all4c l t u) j))) (enc := Ty.enc) (i := 0) Ty.zero (by kernel_rfl) ty23 ty25 ty_size (by first | omega | assumption | exact hsi _ | exact hok4 _ | exact hs1 _ | exact hs2 _ | exact hs3 _ | exact hs4 _ _ | exact hs5 _ | (have := hl6 j (by omega); omega)) (by first | omega | assumption | exact hsi _ | exact hok4 _ | exact hs1 _ | exact hs2 _ | exact hs3 _ | exact hs4 _ _ | exact hs5 _ | (have := hl6 j (by omega); omega))).trans (congrArg (fun cs => some (AVal.pimm cs 0, _)) (ty_cells ((canT (shL (aroundI b 29) (all4c l t u) j)).getD 0 Ty.zero)))) ?_ ?_ ?_ ?_
 refine qu 2 ?_ ?_
 refine qd ((o_ixmap (k := .i64) (l := (canT (((all4c l t u).take 2).drop 0))) (enc := Ty.enc) (i := 0) Ty.zero (by kernel_rfl) ty23 ty25 ty_size (by first | omega | assumption | exact hsi _ | exact hok4 _ | exact hs1 _ | exact hs2 _ | exact hs3 _ | exact hs4 _ _ | exact hs5 _ | (have := hl6 j (by omega); omega)) (by first | omega | assumption | exact hsi _ | exact hok4 _ | exact hs1 _ | exact hs2 _ | exact hs3 _ | exact hs4 _ _ | exact hs5 _ | (have := hl6 j (by omega); omega))).trans (congrArg (fun cs => some (AVal.pimm cs 0, _)) (ty_cells ((canT (((all4c l t u).take 2).drop 0)).getD 0 Ty.zero)))) ?_ ?_ ?_ ?_
 refine qu 1 ?_ ?_
 refine dcallP (args := [.agg [.int .i64 (((canT (shL (aroundI b 29) (all4c l t u) j)).getD 0 Ty.zero).kind), .str ((canT (shL (aroundI b 29) (all4c l t u) j)).getD 0 Ty.zero).name, .int .i64 (((canT (shL (aroundI b 29) (all4c l t u) j)).getD 0 Ty.zero).n), .imm (((canT (shL (aroundI b 29) (all4c l t u) j)).getD 0 Ty.zero).names.map AVal.str), .imm (((canT (shL (aroundI b 29) (all4c l t u) j)).getD 0 Ty.zero).kids.map Ty.enc)], .agg [.int .i64 (((canT (((all4c l t u).take 2).drop 0)).getD 0 Ty.zero).kind), .str ((canT (((all4c l t u).take 2).drop 0)).getD 0 Ty.zero).name, .int .i64 (((canT (((all4c l t u).take 2).drop 0)).getD 0 Ty.zero).n), .imm (((canT (((all4c l t u).take 2).drop 0)).getD 0 Ty.zero).names.map AVal.str), .imm (((canT (((all4c l t u).take 2).drop 0)).getD 0 Ty.zero).kids.map Ty.enc)]]) (by kernel_rfl) (by kernel_rfl) (by kernel_rfl) (by kernel_rfl) (by kernel_rfl) (rEqual_spec ((canT (shL (aroundI b 29) (all4c l t u) j)).getD 0 Ty.zero) ((canT (((all4c l t u).take 2).drop 0)).getD 0 Ty.zero) (by first | omega | assumption | exact hsi _ | exact hok4 _ | exact hs1 _ | exact hs2 _ | exact hs3 _ | exact hs4 _ _ | exact hs5 _ | (have := hl6 j (by omega); omega))) (by intro _; simp [Ty.v, -List.map_take, -List.map_drop, -List.drop_zero]) (by simp [Ty.v, -List.map_take, -List.map_drop, -List.drop_zero]) (by simp [Ty.v, -List.map_take, -List.map_drop, -List.drop_zero]) ?_
 refine qu 1 ?_ ?_
 by_cases hb10 : (((canT (shL (aroundI b 29) (all4c l t u) j)).getD 0 Ty.zero).beq ((canT (((all4c l t u).take 2).drop 0)).getD 0 Ty.zero)) = true
 refine dset 121 (.bool (((canT (shL (aroundI b 29) (all4c l t u) j)).getD 0 Ty.zero).beq ((canT (((all4c l t u).take 2).drop 0)).getD 0 Ty.zero))) (.bool true) (extD extThen) (by kernel_rfl) (congrArg AVal.bool (hb10)) ?_
 refine dset 122 (.bool (((canT (shL (aroundI b 29) (all4c l t u) j)).getD 0 Ty.zero).beq ((canT (((all4c l t u).take 2).drop 0)).getD 0 Ty.zero))) (.bool true) (extD extThen) (by kernel_rfl) (congrArg AVal.bool (hb10)) ?_
 refine qu 1 ?_ ?_
 refine qd ((o_ixmap (k := .i64) (l := (canT (shL (aroundI b 29) (all4c l t u) j))) (enc := Ty.enc) (i := 1) Ty.zero (by kernel_rfl) ty23 ty25 ty_size (by first | omega | assumption | exact hsi _ | exact hok4 _ | exact hs1 _ | exact hs2 _ | exact hs3 _ | exact hs4 _ _ | exact hs5 _ | (have := hl6 j (by omega); omega)) (by first | omega | assumption | exact hsi _ | exact hok4 _ | exact hs1 _ | exact hs2 _ | exact hs3 _ | exact hs4 _ _ | exact hs5 _ | (have := hl6 j (by omega); omega))).trans (congrArg (fun cs => some (AVal.pimm cs 0, _)) (ty_cells ((canT (shL (aroundI b 29) (all4c l t u) j)).getD 1 Ty.zero)))) ?_ ?_ ?_ ?_
 refine qu 2 ?_ ?_
 refine qd ((o_ixmap (k := .i64) (l := (canT (((all4c l t u).take 2).drop 0))) (enc := Ty.enc) (i := 1) Ty.zero (by kernel_rfl) ty23 ty25 ty_size (by first | omega | assumption | exact hsi _ | exact hok4 _ | exact hs1 _ | exact hs2 _ | exact hs3 _ | exact hs4 _ _ | exact hs5 _ | (have := hl6 j (by omega); omega)) (by first | omega | assumption | exact hsi _ | exact hok4 _ | exact hs1 _ | exact hs2 _ | exact hs3 _ | exact hs4 _ _ | exact hs5 _ | (have := hl6 j (by omega); omega))).trans (congrArg (fun cs => some (AVal.pimm cs 0, _)) (ty_cells ((canT (((all4c l t u).take 2).drop 0)).getD 1 Ty.zero)))) ?_ ?_ ?_ ?_
 refine qu 1 ?_ ?_
 refine dcallP (args := [.agg [.int .i64 (((canT (shL (aroundI b 29) (all4c l t u) j)).getD 1 Ty.zero).kind), .str ((canT (shL (aroundI b 29) (all4c l t u) j)).getD 1 Ty.zero).name, .int .i64 (((canT (shL (aroundI b 29) (all4c l t u) j)).getD 1 Ty.zero).n), .imm (((canT (shL (aroundI b 29) (all4c l t u) j)).getD 1 Ty.zero).names.map AVal.str), .imm (((canT (shL (aroundI b 29) (all4c l t u) j)).getD 1 Ty.zero).kids.map Ty.enc)], .agg [.int .i64 (((canT (((all4c l t u).take 2).drop 0)).getD 1 Ty.zero).kind), .str ((canT (((all4c l t u).take 2).drop 0)).getD 1 Ty.zero).name, .int .i64 (((canT (((all4c l t u).take 2).drop 0)).getD 1 Ty.zero).n), .imm (((canT (((all4c l t u).take 2).drop 0)).getD 1 Ty.zero).names.map AVal.str), .imm (((canT (((all4c l t u).take 2).drop 0)).getD 1 Ty.zero).kids.map Ty.enc)]]) (by kernel_rfl) (by kernel_rfl) (by kernel_rfl) (by kernel_rfl) (by kernel_rfl) (rEqual_spec ((canT (shL (aroundI b 29) (all4c l t u) j)).getD 1 Ty.zero) ((canT (((all4c l t u).take 2).drop 0)).getD 1 Ty.zero) (by first | omega | assumption | exact hsi _ | exact hok4 _ | exact hs1 _ | exact hs2 _ | exact hs3 _ | exact hs4 _ _ | exact hs5 _ | (have := hl6 j (by omega); omega))) (by intro _; simp [Ty.v, -List.map_take, -List.map_drop, -List.drop_zero]) (by simp [Ty.v, -List.map_take, -List.map_drop, -List.drop_zero]) (by simp [Ty.v, -List.map_take, -List.map_drop, -List.drop_zero]) ?_
 refine qu 2 ?_ ?_
 by_cases hb11 : (((canT (shL (aroundI b 29) (all4c l t u) j)).getD 1 Ty.zero).beq ((canT (((all4c l t u).take 2).drop 0)).getD 1 Ty.zero)) = true
 refine dset 129 (.bool (((canT (shL (aroundI b 29) (all4c l t u) j)).getD 1 Ty.zero).beq ((canT (((all4c l t u).take 2).drop 0)).getD 1 Ty.zero))) (.bool true) (extD extThen) (by kernel_rfl) (congrArg AVal.bool (hb11)) ?_
 refine dset 130 (.bool (((canT (shL (aroundI b 29) (all4c l t u) j)).getD 1 Ty.zero).beq ((canT (((all4c l t u).take 2).drop 0)).getD 1 Ty.zero))) (.bool true) (extD extThen) (by kernel_rfl) (congrArg AVal.bool (hb11)) ?_
 refine dset 131 (.bool (((canT (shL (aroundI b 29) (all4c l t u) j)).getD 1 Ty.zero).beq ((canT (((all4c l t u).take 2).drop 0)).getD 1 Ty.zero))) (.bool true) (extD extThen) (by kernel_rfl) (congrArg AVal.bool (hb11)) ?_
 refine dcallP (args := []) (by kernel_rfl) (by kernel_rfl) (by kernel_rfl) (by kernel_rfl) (by kernel_rfl) (lives_spec) (fun _ => (by kernel_rfl)) (by kernel_rfl) (by kernel_rfl) ?_
 refine qu 2 ?_ ?_
 refine dend (by kernel_rfl) ⟨(by kernel_rfl), ?_⟩
 refine AThen_normal ?_
 refine wRet (by kernel_rfl) ?_
 refine leafB (b := true) (.inr rfl) (by kernel_rfl) ?_
 · rfl
 kernel_rfl
 · exfalso; exact hb11 (beq_of (by first | exact congrArg (fun q => List.getD q i Ty.zero) (canT_same _) | exact congrArg (fun q => List.getD q i Ty.zero) (canT_twice _).symm | (rw [show j = 2 by omega]; exact congrArg (fun q => List.getD q _ Ty.zero) hsame)))
 iterate 10 kernel_rfl
 · exfalso; exact hb10 (beq_of (by first | exact congrArg (fun q => List.getD q i Ty.zero) (canT_same _) | exact congrArg (fun q => List.getD q i Ty.zero) (canT_twice _).symm | (rw [show j = 2 by omega]; exact congrArg (fun q => List.getD q _ Ty.zero) hsame)))
 iterate 22 kernel_rfl
 · exfalso; exact hb6 (by first | omega | (rw [show j = 2 by omega] at *; omega))
 iterate 5 kernel_rfl
 · exfalso; exact hb5 (by first | omega | (rw [show j = 2 by omega] at *; omega))
 iterate 5 kernel_rfl
 · exfalso; exact hb4 (by first | omega | (rw [show j = 2 by omega] at *; omega))
 iterate 5 kernel_rfl
 · exfalso; exact hb3 (by first | omega | (rw [show j = 2 by omega] at *; omega))
 iterate 45 kernel_rfl
end Go.Proofs.YtdikgijfekfaoaaGreatDoor
