/- slices.Sorted(maps.Keys(m)): the keys of a map from strings, in order. Conditions: no key twice, and lengths that can be had. -/
import Derived.Test.YtdikgijfekfaoaaGreatDoorShelf
import Derived.Test.YtdikgijfekfaoaaGreatDoorL1
import Derived.Test.YtdikgijfekfaoaaGreatDoorAbsc
import Derived.Sort.Walk0
set_option linter.all false
set_option linter.unusedSimpArgs false
set_option linter.unusedVariables false
namespace Go.Proofs.YtdikgijfekfaoaaGreatDoor
open Go.Proofs.YtdikgijfekfaoaaGreatDoor.Abs Go.RowKit Go.Maps Go.Sort

def sIns (x : List UInt8) : List (List UInt8) → List (List UInt8)
  | [] => [x]
  | y :: l => bif sLess y x then y :: sIns x l else x :: y :: l
def sSort : List (List UInt8) → List (List UInt8)
  | [] => []
  | x :: l => sIns x (sSort l)
theorem sIns_perm (x : List UInt8) : ∀ l, (sIns x l).Perm (x :: l)
  | [] => .refl _
  | y :: l => by
    simp only [sIns]
    cases sLess y x with
    | true => exact ((sIns_perm x l).cons y).trans (.swap x y l)
    | false => exact .refl _
theorem sSort_perm : ∀ l, (sSort l).Perm l
  | [] => .refl _
  | x :: l => (sIns_perm x _).trans ((sSort_perm l).cons x)
theorem sLess_lt (x y : List UInt8) : sLess x y = decide (x < y) := bytesLess_eq x y
theorem sIns_sorted (x : List UInt8) : ∀ l : List (List UInt8), l.Pairwise (fun a b => leB a b = true) → (sIns x l).Pairwise (fun a b => leB a b = true)
  | [], _ => by simp [sIns]
  | y :: l, h => by
    simp only [sIns, sLess_lt]
    have h' := List.pairwise_cons.1 h
    by_cases hlt : y < x
    · rw [decide_eq_true hlt]
      refine List.pairwise_cons.2 ⟨fun z hz => ?_, sIns_sorted x l h'.2⟩
      have := (sIns_perm x l).mem_iff.1 hz
      simp only [List.mem_cons] at this
      rcases this with rfl | hz
      · simp only [leB, decide_eq_true_eq]; exact List.le_of_lt hlt
      · exact h'.1 z hz
    · rw [decide_eq_false hlt]
      have hxy : x ≤ y := List.not_lt.1 hlt
      refine List.pairwise_cons.2 ⟨fun z hz => ?_, h⟩
      simp only [List.mem_cons] at hz
      simp only [leB, decide_eq_true_eq]
      rcases hz with rfl | hz
      · exact hxy
      · have := h'.1 z hz
        simp only [leB, decide_eq_true_eq] at this
        exact List.le_trans hxy this
theorem sSort_sorted : ∀ l, (sSort l).Pairwise (fun a b => leB a b = true)
  | [] => .nil
  | x :: l => sIns_sorted x _ (sSort_sorted l)
theorem sSort_merge {l l' : List (List UInt8)} (h : l.Perm l') : l.mergeSort (fun x y => decide (x ≤ y)) = sSort l' := by
  have tr : ∀ a b c : List UInt8, leB a b = true → leB b c = true → leB a c = true := fun a b c h1 h2 => by simp only [leB, decide_eq_true_eq] at *; exact List.le_trans h1 h2
  have to : ∀ a b : List UInt8, (leB a b || leB b a) = true := fun a b => by simp only [leB, Bool.or_eq_true, decide_eq_true_eq]; exact List.le_total a b
  refine List.Perm.eq_of_pairwise (le := fun a b => leB a b = true) (fun a b _ _ h1 h2 => ?_) (List.pairwise_mergeSort tr to l) (sSort_sorted l') (((List.mergeSort_perm l leB).trans h).trans (sSort_perm l').symm)
  simp only [leB, decide_eq_true_eq] at h1 h2
  exact List.le_antisymm h1 h2

def encKV (kv : List (List UInt8 × AVal)) : List (AVal × AVal) := kv.map fun p => (.str p.1, p.2)

/-- A map of the layer, in the words of the maps' kit. -/
theorem ownsMap_of {ρ : Go.Proofs.YtdikgijfekfaoaaGreatDoor.Abs.Ren} {h : AHeap} {w : World} (wf : WF ρ h w) {m : Nat} {kv : List (List UInt8 × AVal)} (hm : h[m]? = some (.map (encKV kv))) (hnd : (kv.map (·.1)).Nodup)
    (hlen : ∀ p ∈ kv, p.1.length ≤ maxLen) (hsz : kv.length ≤ maxLen) :
    ∃ D : DataW Unit, w.ownsMap Tryz.prog 9 (fun _ => some (.nil, [])) (ρ.loc m).blk kv.length D ∧ (strKeys D).Perm (kv.map (·.1)) ∧ Maps.size D = kv.length := by
  obtain ⟨ms, clock, h1, h2, h3, h4⟩ := wf.obj m _ hm
  have hl : ms.size = kv.length := by rw [h2]; simp [encKV]
  have key : ∀ (i : Nat) e, ms[i]? = some e → ∃ p, kv[i]? = some p ∧ e.key = .string ⟨p.1.toArray⟩ ∧ e.born < clock := by
    intro i e he
    have hi : i < kv.length := by rw [← hl]; exact (Array.getElem?_eq_some_iff.1 he).1
    have hk : (encKV kv)[i]? = some (.str kv[i].1, kv[i].2) := by simp [encKV, hi]
    obtain ⟨q1, _, q3⟩ := h3 i _ e hk he
    refine ⟨kv[i], List.getElem?_eq_getElem hi, ?_, q3⟩
    generalize e.key = v at q1
    cases q1
    rfl
  have keys : ms.toList.map (·.key) = kv.map fun p => Value.string ⟨p.1.toArray⟩ := by
    apply List.ext_getElem?
    intro i
    simp only [List.getElem?_map, Array.getElem?_toList]
    cases he : ms[i]? with
    | none =>
      have : kv[i]? = none := by
        rw [List.getElem?_eq_none_iff, ← hl]
        simpa using he
      simp [this]
    | some e =>
      obtain ⟨p, hp, hk, _⟩ := key i e he
      simp [hp, hk]
  have kof : ∀ s : List UInt8, s.length ≤ maxLen → keyOf Tryz.prog 9 (.string ⟨s.toArray⟩) = some (.string s) := by
    intro s hs
    have : (⟨s.toArray⟩ : ByteArray).size ≤ maxLen := by simpa [ByteArray.size] using hs
    simp [keyOf, Tryz.underlying9, mapKey, this]
  have rd1 : ∀ x ∈ ms.toList, ∃ p ∈ kv, x.key = .string ⟨p.1.toArray⟩ ∧ WideElems.rd (H := Unit) Tryz.prog 9 (fun _ => some (.nil, [])) x = some (.string p.1, .nil) := by
    intro x hx
    obtain ⟨i, hi⟩ := List.getElem?_of_mem hx
    rw [Array.getElem?_toList] at hi
    obtain ⟨p, hp, hk, _⟩ := key i x hi
    have hpm : p ∈ kv := List.mem_of_getElem? hp
    refine ⟨p, hpm, hk, ?_⟩
    simp [WideElems.rd, hk, kof p.1 (hlen p hpm)]
  have ins : ∀ (x : Lit × DataW Unit) l, (DataW.insert x l).Perm (x :: l) := by
    intro x l
    induction l with
    | nil => exact .refl _
    | cons y l ih =>
      simp only [DataW.insert]
      split
      · exact .refl _
      · exact (ih.cons y).trans (.swap x y l)
  have srt : ∀ l : List (Lit × DataW Unit), (l.foldr DataW.insert []).Perm l := by
    intro l
    induction l with
    | nil => exact .refl _
    | cons x l ih => exact (ins x _).trans (ih.cons x)
  refine ⟨_, ⟨ms, clock, h1, ⟨by rw [hl]; exact hsz, ⟨?_, ?_, ?_⟩, fun x hx => ?_⟩, by omega, rfl⟩, ?_, ?_⟩
  · intro x hx
    obtain ⟨i, hi⟩ := List.getElem?_of_mem hx
    rw [Array.getElem?_toList] at hi
    obtain ⟨_, _, _, hb⟩ := key i x hi
    exact hb
  · rw [List.nodup_iff_pairwise_ne, List.pairwise_iff_getElem]
    intro i j hi hj hij
    simp only [List.length_map, Array.length_toList] at hi hj
    simp only [List.getElem_map, Array.getElem_toList, ne_eq]
    intro e
    have := h4 i j _ _ (Array.getElem?_eq_getElem (by omega)) (Array.getElem?_eq_getElem hj) e
    omega
  · rw [keys, show (kv.map fun p => Value.string ⟨p.1.toArray⟩) = (kv.map (·.1)).map (fun s => Value.string ⟨s.toArray⟩) by simp]
    refine List.pairwise_map.2 (hnd.imp fun hne e => hne ?_)
    simpa using e
  · obtain ⟨p, _, _, q⟩ := rd1 x hx
    exact ⟨_, q⟩
  · refine ((srt _).map _).trans ?_
    have : (ms.toList.map (WideElems.rg (H := Unit) Tryz.prog 9 (fun _ => some (.nil, [])))).map (fun p => strOf p.1) = kv.map (·.1) := by
      apply List.ext_getElem?
      intro i
      simp only [List.getElem?_map, Array.getElem?_toList]
      cases he : ms[i]? with
      | none =>
        have : kv[i]? = none := by
          rw [List.getElem?_eq_none_iff, ← hl]
          simpa using he
        simp [this]
      | some e =>
        obtain ⟨p, hp, hk, _⟩ := key i e he
        simp [hp, WideElems.rg, WideElems.rd, hk, kof p.1 (hlen p (List.mem_of_getElem? hp)), strOf]
    rw [← this]
  · show (List.foldr DataW.insert [] _).length = _
    rw [(srt _).length_eq]
    simp [hl]

/-- slices.Sort's two contracts, at the fence that asks nothing. -/
theorem sorts113 (m : Nat) : AnyZ.SortsIn Tryz.prog Tryz.sorted113_ren Fence.wide m :=
  ⟨fun blk off cap ss W hH hblk hsz => callsIn_wide.2 (AnyM.slices_Sort_string Tryz.sort126 blk off cap ss W hH hblk hsz),
   fun p cap W => callsIn_wide.2 (AnyM.slices_Sort_string_none Tryz.sort126 p cap W)⟩

/-- What an iterator over the keys of a map gives. -/
def KeysGive (g : FuncId) : Prop := (∀ args w, (callFunc g args).run Tryz.prog w = .ok (.enter g args) w) ∧
  ∀ (w : World) (Bm b nn : Nat) (D0 : DataW Unit), Bm < w.heap.size → w.cell? ⟨Bm, 0, none⟩ = some (.map (some b)) → w.ownsMap Tryz.prog 9 (fun _ => some (.nil, [])) b nn D0 →
    SeqGives Fence.wide 2 Tryz.prog g #[.pointer (some ⟨Bm, 0, none⟩)] encStr (fun ss => ss.Perm (strKeys D0)) (Maps.size D0) w
theorem keys127 : KeysGive 127 := ⟨enters_of Tryz.func127 (by kernel_rfl) rfl, fun w Bm b nn D0 h1 h2 h3 => AnyZ.keys_gives (ρ := Tryz.keys114_ren) { Tryz.keys114 with } Fence.wide _ trivial rfl (by omega) Bm b nn D0 _ h1 h2 h3⟩
theorem keys138 : KeysGive 138 := ⟨enters_of Tryz.func138 (by kernel_rfl) rfl, fun w Bm b nn D0 h1 h2 h3 => AnyZ.keys_gives (ρ := Tryz.keys123_ren) { Tryz.keys123 with } Fence.wide _ trivial rfl (by omega) Bm b nn D0 _ h1 h2 h3⟩

theorem sorted_spec {g : FuncId} (hg : KeysGive g) {h : AHeap} {m o : Nat} {kv : List (List UInt8 × AVal)} (ho : h[o]? = some (.box [.map m])) (hm : h[m]? = some (.map (encKV kv))) (hnd : (kv.map (·.1)).Nodup)
    (hlen : ∀ p ∈ kv, p.1.length ≤ 1000000000) (hsz : kv.length ≤ 1000000000) :
    CallsA cx 113 [.fn (.func g) [] [.ptr o 0]] h (fun v h' => v = .imm ((sSort (kv.map (·.1))).map .str) ∧ h' = h) := by
  refine CallsA_of_below (v := .imm ((sSort (kv.map (·.1))).map .str)) ⟨_, Tryz.func113, rfl, rfl⟩ ⟨rfl, rfl⟩ ?_
  intro ρ w cargs wf _ hv
  have hmax : ∀ n : Nat, n ≤ 1000000000 → n ≤ maxLen := fun n hn => Nat.le_trans hn (by decide)
  obtain ⟨D, hown, hperm, hD⟩ := ownsMap_of wf hm hnd (fun p hp => hmax _ (hlen p hp)) (hmax _ hsz)
  obtain ⟨u, rfl, hu⟩ := hv.one
  have hcv : ∃ p, u = .func (.func g) #[] #[p] ∧ VR ρ h w (.ptr o 0) p := by
    cases hu with
    | fn _ _ _ us vs hl hl' hu1 hv1 =>
      obtain ⟨us⟩ := us
      obtain ⟨vs⟩ := vs
      match us, vs, hl, hl', hv1 with
      | [], [p], _, _, hv2 => exact ⟨p, rfl, hv2 0 _ _ rfl rfl⟩
  obtain ⟨p, rfl, hp⟩ := hcv
  obtain ⟨c, t, q1, q2, q3⟩ := wf.obj o _ ho
  have hpe : p = .pointer (some ⟨(ρ.loc o).blk, 0, none⟩) := by cases hp; rfl
  subst hpe
  have hlt : (ρ.loc o).blk < w.heap.size := (Array.getElem?_eq_some_iff.1 q1).1
  have hcell : w.cell? ⟨(ρ.loc o).blk, 0, none⟩ = some (.map (some (ρ.loc m).blk)) := by
    simp only [List.length_cons, List.length_nil] at q2
    have hc0 : c[0]? = some c[0] := Array.getElem?_eq_getElem (by omega)
    have := q3 0 (.map m) c[0] rfl hc0
    have e : c[0] = .map (some (ρ.loc m).blk) := by
      generalize c[0] = v at this
      cases this
      rfl
    simp [World.cell?, q1, hc0, e]
  have hseq := hg.2 w (ρ.loc o).blk (ρ.loc m).blk kv.length D hlt hcell hown
  refine (callsIn_wide.1 (AnyZ.sorted_in Tryz.sorted113 Fence.wide 5 trivial trivial trivial trivial rfl (by omega) (sorts113 _) (enters_of Tryz.func126 (by kernel_rfl) rfl) g _ trivial hg.1 _ _ (by rw [hD]; exact hmax _ hsz) (by rw [hD]; omega) w hseq)).mono ?_
  rintro e w' ⟨v, ss, rfl, hS, hrow, _, hb⟩
  rw [sSort_merge (hS.trans hperm)] at hrow
  have hl : ss.length = (sSort (kv.map (·.1))).length := ((hS.trans hperm).trans (sSort_perm _).symm).length_eq
  obtain ⟨hx, ⟨rfl, hn⟩ | ⟨gb, cap, cur, rfl, hbase, hgb, hcap, hcm, hcs, hcur⟩⟩ := hrow
  · have hz : sSort (kv.map (·.1)) = [] := List.eq_nil_of_length_eq_zero (by omega)
    refine ⟨_, ρ.I, rfl, hb, fun _ _ h => h, fun _ _ h => .inl h, fun _ => ?_⟩
    rw [hz]
    exact .imm [] none 0 0 0 0 (fun _ _ => undef) (Nat.le_refl _) (by simp) (by simp) (by simp) (by simp)
  · refine ⟨_, fun b j => ρ.I b j ∨ b = gb, rfl, hb, fun _ _ h => .inl h, fun b j hI => ?_, fun _ => ?_⟩
    · rcases hI with h | rfl
      · exact .inl h
      · exact .inr ⟨hbase, (Array.getElem?_eq_some_iff.1 hgb).1⟩
    · rw [show (Value.slice (some ⟨gb, 0, none⟩) ss.length cap) = Value.slice (some ⟨gb, 0, none⟩) ((sSort (kv.map (·.1))).map AVal.str).length cap by rw [List.length_map, ← hl]]
      refine .imm _ _ cap 1 gb 0 (fun i _ => encStr ((sSort (kv.map (·.1))).getD i [])) (by rw [List.length_map, ← hl]; exact hcap) (fun _ => rfl) ?_ ?_ ?_
      · intro i x hx
        simp only [List.getElem?_map, Option.map_eq_some_iff] at hx
        obtain ⟨s, _, rfl⟩ := hx
        rfl
      · intro i x j y hx hy
        simp only [List.getElem?_map, Option.map_eq_some_iff] at hx
        obtain ⟨s, hs, rfl⟩ := hx
        have hj : j = 0 := by
          have := (List.getElem?_eq_some_iff.1 hy).1
          simp [AVal.cells] at this
          exact this
        subst hj
        refine ⟨.inr rfl, ?_⟩
        have hi : i < (sSort (kv.map (·.1))).length := (List.getElem?_eq_some_iff.1 hs).1
        have hc : cur[i]? = some (encStr s) := by
          have h1 : (cur.toList.take (ss.length * 1))[i]? = some (encStr s) := by rw [hcur, List.getElem?_map, hs]; rfl
          rw [List.getElem?_take] at h1
          split at h1
          · rwa [Array.getElem?_toList] at h1
          · simp at h1
        have hg' : (sSort (kv.map (·.1))).getD i [] = s := by rw [List.getD_eq_getElem?_getD, hs]; rfl
        rw [hg']
        simp [World.cell?, hgb, hc]
      · intro i x j y hx hy
        simp only [List.getElem?_map, Option.map_eq_some_iff] at hx
        obtain ⟨s, hs, rfl⟩ := hx
        have hj : j = 0 := by
          have := (List.getElem?_eq_some_iff.1 hy).1
          simp [AVal.cells] at this
          exact this
        subst hj
        simp [AVal.cells] at hy
        subst hy
        have hg' : (sSort (kv.map (·.1))).getD i [] = s := by rw [List.getD_eq_getElem?_getD, hs]; rfl
        show VR _ h w' (.str s) (encStr ((sSort (kv.map (·.1))).getD i []))
        rw [hg']
        exact .str s
end Go.Proofs.YtdikgijfekfaoaaGreatDoor
