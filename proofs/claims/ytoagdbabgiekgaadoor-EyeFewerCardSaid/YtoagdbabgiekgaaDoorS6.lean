/- A framework for walks, contracts of functions, and their proofs: part 6. -/
import Derived.Test.YtoagdbabgiekgaaDoorS5
set_option linter.unusedVariables false
namespace Go.Proofs.Tryd
open Go Go.V Go.Proofs
def rowOk (r : List (Int × Int)) : Prop := r ≠ [] ∧ r.Pairwise fun x y => x.1 < y.1 ∧ x.2 < y.2
structure LayI (t : List (Int × Int)) (G : List (List (Int × Int))) : Prop where
  rows : ∀ r ∈ G, rowOk r
  perm : G.flatten.Perm t
  heads : (G.map fun r => r.headD (0, 0)).Pairwise fun x y => x.1 < y.1
  chain : ∀ i (h : i < G.length), ∃ C : List (Int × Int), C.length = i ∧ (C ++ [G[i].getLastD (0, 0)]).Sublist t ∧ (C ++ [G[i].getLastD (0, 0)]).Pairwise fun x y => x.2 ≥ y.2
theorem rowOk_last {r : List (Int × Int)} (h : rowOk r) {x : Int × Int} (hx : x ∈ r) : x.2 ≤ (r.getLastD (0, 0)).2 := by
  obtain ⟨h1, h2⟩ := h
  rw [List.getLastD_eq_getLast?, List.getLast?_eq_some_getLast h1]
  rw [← List.dropLast_concat_getLast h1] at hx h2
  rcases List.mem_append.1 hx with hx | hx
  · have := (List.pairwise_append.1 h2).2.2 x hx _ (List.mem_singleton.2 rfl)
    simp only [Option.getD_some]; omega
  · rw [List.mem_singleton.1 hx]; simp
theorem rowOk_snoc {r : List (Int × Int)} (h : rowOk r) {a : Int × Int} (h1 : ∀ x ∈ r, x.1 < a.1) (h2 : (r.getLastD (0, 0)).2 < a.2) : rowOk (r ++ [a]) := by
  refine ⟨by simp, List.pairwise_append.2 ⟨h.2, by simp, fun x hx y hy => ?_⟩⟩
  rw [List.mem_singleton.1 hy]
  have := rowOk_last h hx
  exact ⟨h1 x hx, by omega⟩
theorem flatten_set {α : Type} : ∀ {G : List (List α)} {i : Nat} {r : List α} {a : α}, i < G.length → r = G.getD i [] → (G.set i (r ++ [a])).flatten.Perm (G.flatten ++ [a])
  | g :: G, 0, r, a, _, hr => by
    simp only [List.getD_cons_zero] at hr
    subst hr
    simp only [List.set_cons_zero, List.flatten_cons, List.append_assoc]
    exact List.Perm.append_left _ List.perm_append_comm
  | g :: G, i + 1, r, a, h, hr => by
    simp only [List.getD_cons_succ] at hr
    simp only [List.set_cons_succ, List.flatten_cons, List.append_assoc]
    exact List.Perm.append_left _ (flatten_set (by simpa using h) hr)
theorem getLastD_snoc {α : Type} (r : List α) (a d : α) : (r ++ [a]).getLastD d = a := by simp
theorem headD_snoc {α : Type} {r : List α} (h : r ≠ []) (a d : α) : (r ++ [a]).headD d = r.headD d := by
  cases r with
  | nil => exact absurd rfl h
  | cons x r => rfl
theorem layI_step {t : List (Int × Int)} {G : List (List (Int × Int))} (hI : LayI t G) {a : Int × Int} (ha : ∀ x ∈ t, x.1 < a.1) :
    ∃ G', LayI (t ++ [a]) G' ∧ layStep (G.map (·.map Prod.fst), G.map fun r => r.getLastD (0, 0)) a = (G'.map (·.map Prod.fst), G'.map fun r => r.getLastD (0, 0)) ∧
      ∃ i, i ≤ G.length ∧ G'.map (·.map Prod.fst) = putG (G.map (·.map Prod.fst)) i a.1 ∧ rowOk (G'.getD i []) := by
  have hin : ∀ r ∈ G, ∀ x ∈ r, x.1 < a.1 := fun r hr x hx => ha x (hI.perm.mem_iff.1 (List.mem_flatten.2 ⟨r, hr, hx⟩))
  rcases idxG_cases (G.map fun r => r.getLastD (0, 0)) (fun x => !(decide (x.2 ≥ a.2))) with ⟨h, _⟩ | ⟨i, hi, h, _⟩
  · have hge : ∀ r ∈ G, (r.getLastD (0, 0)).2 ≥ a.2 := fun r hr => by
      have := List.findIdx?_eq_none_iff.1 h _ (List.mem_map.2 ⟨r, hr, rfl⟩)
      simpa using this
    refine ⟨G ++ [[a]], ⟨fun r hr => ?_, ?_, ?_, fun i hi => ?_⟩, ?_, G.length, Nat.le_refl _, ?_, ?_⟩
    · rcases List.mem_append.1 hr with hr | hr
      · exact hI.rows r hr
      · rw [List.mem_singleton.1 hr]; exact ⟨by simp, by simp⟩
    · rw [List.flatten_append]; exact (hI.perm.append_right _).trans (by simp)
    · rw [List.map_append]
      refine List.pairwise_append.2 ⟨hI.heads, by simp, fun x hx y hy => ?_⟩
      obtain ⟨r, hr, rfl⟩ := List.mem_map.1 hx
      simp at hy; subst hy
      have hne := (hI.rows r hr).1
      cases r with
      | nil => exact absurd rfl hne
      | cons b r => exact hin _ hr b (by simp)
    · by_cases hlt : i < G.length
      · obtain ⟨C, c1, c2, c3⟩ := hI.chain i hlt
        refine ⟨C, c1, ?_, ?_⟩
        · rw [List.getElem_append_left hlt]; exact c2.trans (List.sublist_append_left _ _)
        · rw [List.getElem_append_left hlt]; exact c3
      · have e : i = G.length := by simp at hi; omega
        subst e
        simp only [List.getElem_concat_length]
        cases hG : G.length with
        | zero => exact ⟨[], rfl, by simp, by simp⟩
        | succ n =>
          have hn : n < G.length := by omega
          obtain ⟨C, c1, c2, c3⟩ := hI.chain n hn
          refine ⟨C ++ [G[n].getLastD (0, 0)], by simp [c1], List.Sublist.append c2 (List.Sublist.refl _), List.pairwise_append.2 ⟨c3, by simp, fun x hx y hy => ?_⟩⟩
          rw [List.mem_singleton.1 hy]
          have hg := hge _ (List.getElem_mem hn)
          rcases List.mem_append.1 hx with hx | hx
          · have := (List.pairwise_append.1 c3).2.2 x hx _ (List.mem_singleton.2 rfl)
            show x.2 ≥ a.2
            omega
          · rw [List.mem_singleton.1 hx]; exact hg
    · rw [layStep_none h]; simp
    · simp [putG]
    · simp only [List.getD_eq_getElem?_getD, List.getElem?_concat_length, Option.getD_some]; exact ⟨by simp, by simp⟩
  · obtain ⟨hi2, hlt2, hbef⟩ := List.findIdx?_eq_some_iff_getElem.1 h
    have hi : i < G.length := by simpa using hi
    have hlt : (G[i].getLastD (0, 0)).2 < a.2 := by simpa using hlt2
    have hrow := hI.rows _ (List.getElem_mem hi)
    have hnew : rowOk (G[i] ++ [a]) := rowOk_snoc hrow (hin _ (List.getElem_mem hi)) hlt
    refine ⟨G.set i (G[i] ++ [a]), ⟨fun r hr => ?_, ?_, ?_, fun j hj => ?_⟩, ?_, i, by omega, ?_, ?_⟩
    · rcases List.mem_or_eq_of_mem_set hr with hr | hr
      · exact hI.rows r hr
      · rw [hr]; exact hnew
    · exact (flatten_set hi (by rw [getD_nat hi])).trans (hI.perm.append_right _)
    · have : (G.set i (G[i] ++ [a])).map (fun r => r.headD (0, 0)) = G.map fun r => r.headD (0, 0) := by
        rw [List.map_set, headD_snoc hrow.1]
        apply List.ext_getElem (by simp)
        intro k h1 h2
        rw [List.getElem_set]
        split
        · rename_i e; subst e; simp
        · rfl
      rw [this]; exact hI.heads
    · have hj' : j < G.length := by simpa using hj
      rw [List.getElem_set]
      split
      · rename_i e
        subst e
        rw [getLastD_snoc]
        cases i with
        | zero => exact ⟨[], rfl, by simp, by simp⟩
        | succ n =>
          have hn : n < G.length := by omega
          obtain ⟨C, c1, c2, c3⟩ := hI.chain n hn
          refine ⟨C ++ [G[n].getLastD (0, 0)], by simp [c1], List.Sublist.append c2 (List.Sublist.refl _), List.pairwise_append.2 ⟨c3, by simp, fun x hx y hy => ?_⟩⟩
          rw [List.mem_singleton.1 hy]
          have hg : (G[n].getLastD (0, 0)).2 ≥ a.2 := by
            have := hbef n (by omega)
            simpa using this
          rcases List.mem_append.1 hx with hx | hx
          · have := (List.pairwise_append.1 c3).2.2 x hx _ (List.mem_singleton.2 rfl)
            omega
          · rw [List.mem_singleton.1 hx]; exact hg
      · obtain ⟨C, c1, c2, c3⟩ := hI.chain j hj'
        exact ⟨C, c1, c2.trans (List.sublist_append_left _ _), c3⟩
    · rw [layStep_some h]
      refine Prod.ext ?_ ?_
      · simp only [List.map_set, List.map_append, List.map_cons, List.map_nil]
        congr 1
        simp [List.getD_eq_getElem?_getD, hi]
      · simp only [List.map_set, getLastD_snoc]
    · have hne : ¬ i = G.length := by omega
      simp only [putG, List.length_map, if_neg hne, List.map_set, List.map_append, List.map_cons, List.map_nil]
      congr 1
      simp [List.getD_eq_getElem?_getD, hi]
    · rw [List.getD_eq_getElem?_getD, List.getElem?_set_self hi]; exact hnew
theorem layI_nil : LayI [] [] := ⟨fun r hr => (by cases hr), List.Perm.refl _, List.Pairwise.nil, fun i h => absurd h (Nat.not_lt_zero i)⟩
theorem layF_I : ∀ (t : List (Int × Int)), t.Pairwise (fun x y => x.1 < y.1) → ∃ G, LayI t G ∧ layF t = (G.map (·.map Prod.fst), G.map fun r => r.getLastD (0, 0)) := by
  intro t
  induction h : t.length generalizing t with
  | zero => intro _; obtain rfl := List.length_eq_zero_iff.1 h; exact ⟨[], layI_nil, rfl⟩
  | succ n ih =>
    intro ht
    have hne : t ≠ [] := by rintro rfl; simp at h
    rw [← List.dropLast_concat_getLast hne] at ht ⊢
    obtain ⟨h1, _, h3⟩ := List.pairwise_append.1 ht
    obtain ⟨G, hI, hG⟩ := ih t.dropLast (by simp [h]) h1
    obtain ⟨G', k1, k2, _⟩ := layI_step hI (a := t.getLast hne) fun x hx => h3 x hx _ (List.mem_singleton.2 rfl)
    exact ⟨G', k1, by rw [layF_snoc, hG, k2]⟩
theorem fold_min_le {α : Type} {f : α → Int} {v : α → Bool} : ∀ (L : List α) (b : Int), L.foldl (fun b i => if v i then gmin b (f i) else b) b ≤ b ∧ ∀ i ∈ L, v i = true → L.foldl (fun b i => if v i then gmin b (f i) else b) b ≤ f i
  | [], b => ⟨Int.le_refl _, fun i hi => by cases hi⟩
  | x :: L, b => by
    rw [List.foldl_cons]
    obtain ⟨h1, h2⟩ := fold_min_le (f := f) (v := v) L (if v x then gmin b (f x) else b)
    have hb : (if v x then gmin b (f x) else b) ≤ b := by
      split
      · simp only [gmin]; split <;> omega
      · omega
    refine ⟨by omega, fun i hi hv => ?_⟩
    rcases List.mem_cons.1 hi with rfl | hi
    · rw [if_pos hv] at h1
      rw [if_pos hv]
      have : gmin b (f i) ≤ f i := by simp only [gmin]; split <;> omega
      omega
    · exact h2 i hi hv
theorem fold_min_ge {α : Type} {f : α → Int} {v : α → Bool} {c : Int} : ∀ (L : List α) (b : Int), c ≤ b → (∀ i ∈ L, v i = true → c ≤ f i) → c ≤ L.foldl (fun b i => if v i then gmin b (f i) else b) b
  | [], b, hb, _ => hb
  | x :: L, b, hb, h => by
    rw [List.foldl_cons]
    refine fold_min_ge L _ ?_ fun i hi => h i (List.mem_cons_of_mem _ hi)
    split
    · rename_i hv
      have := h x List.mem_cons_self hv
      simp only [gmin]; split <;> omega
    · exact hb
theorem nodup_lenG {α : Type} [DecidableEq α] : ∀ {l m : List α}, l.Nodup → (∀ x ∈ l, x ∈ m) → l.length ≤ m.length
  | [], m, _, _ => Nat.zero_le _
  | x :: l, m, hn, hs => by
    have hx := hs x List.mem_cons_self
    rw [List.nodup_cons] at hn
    have := nodup_lenG (l := l) (m := m.erase x) hn.2 fun y hy => (List.mem_erase_of_ne (by rintro rfl; exact hn.1 hy)).2 (hs y (List.mem_cons_of_mem _ hy))
    rw [List.length_erase_of_mem hx] at this
    have := List.length_pos_of_mem hx
    simp only [List.length_cons]; omega
theorem layR_greedy {l : List Int} (n : Nat) : ∀ (r t : List (Int × Int)) (G : List (List (Int × Int))), LayI t G → (t ++ r).Pairwise (fun x y => x.1 < y.1) → (∀ s : List (Int × Int), (∀ x ∈ s, x ∈ t ++ r) → rowOk s → eachB l (s.map Prod.fst) false = true) →
    layR l n (r.map Prod.fst) (G.map (·.map Prod.fst)) ≤ (r.foldl layStep (G.map (·.map Prod.fst), G.map fun r => r.getLastD (0, 0))).1.length
  | [], t, G, _, _, _ => by simp [layR]
  | a :: r, t, G, hI, ht, hv => by
    obtain ⟨G', k1, k2, i, k3, k4, k5⟩ := layI_step hI (a := a) fun x hx => (List.pairwise_append.1 ht).2.2 x hx a List.mem_cons_self
    rw [List.foldl_cons, k2]
    have e : t ++ a :: r = (t ++ [a]) ++ r := by simp
    rw [e] at ht hv
    have ih := layR_greedy (l := l) n r (t ++ [a]) G' k1 ht hv
    rw [List.map_cons, layR_fold, List.length_map]
    refine Int.le_trans ((fold_min_le (f := fun i => layR l n (r.map Prod.fst) (putG (G.map (·.map Prod.fst)) i a.1)) (v := fun i => eachB l ((putG (G.map (·.map Prod.fst)) i a.1).getD i []) false) (List.range (G.length + 1)) _).2 i (List.mem_range.2 (by omega)) ?_) ?_
    · rw [← k4]
      have hi : i < G'.length := by
        have := congrArg List.length k4
        rw [putG_len] at this
        simp only [List.length_map] at this
        split at this <;> omega
      have e2 : (G'.map (·.map Prod.fst)).getD i [] = (G'.getD i []).map Prod.fst := by simp [List.getD_eq_getElem?_getD, hi]
      rw [e2]
      refine hv _ (fun x hx => List.mem_append_left _ (k1.perm.mem_iff.1 (List.mem_flatten.2 ⟨_, ?_, hx⟩))) k5
      rw [getD_nat hi]; exact List.getElem_mem hi
    · rw [← k4]; exact ih
theorem layR_lower {l : List Int} {n : Nat} {C : List Int} (hC : C.Nodup) (hx : ∀ x ∈ C, ∀ y ∈ C, x ≠ y → crossB l x y = true) (hn : C.length ≤ n + 1) : ∀ (r : List Int) (g : List (List Int)), (∀ s ∈ g, eachB l s false = true) → (∀ x ∈ C, x ∈ g.flatten ++ r) → (C.length : Int) ≤ layR l n r g
  | [], g, hg, hs => by
    simp only [layR]
    have hidx : ∀ x ∈ C, ∃ i, i < g.length ∧ x ∈ g.getD i [] := fun x hxC => by
      have := hs x hxC
      rw [List.append_nil] at this
      obtain ⟨s, hs1, hs2⟩ := List.mem_flatten.1 this
      obtain ⟨i, hi, rfl⟩ := List.mem_iff_getElem.1 hs1
      exact ⟨i, hi, by rw [getD_nat hi]; exact hs2⟩
    have key : ∀ (D : List Int), D.Nodup → (∀ x ∈ D, x ∈ C) → ∃ L : List Nat, L.length = D.length ∧ L.Nodup ∧ (∀ i ∈ L, i < g.length) ∧ ∀ i ∈ L, ∃ x ∈ D, x ∈ g.getD i [] := fun D => by
      induction D with
      | nil => exact fun _ _ => ⟨[], rfl, List.nodup_nil, fun i hi => (by cases hi), fun i hi => (by cases hi)⟩
      | cons x D ih =>
        intro hnd hsub
        rw [List.nodup_cons] at hnd
        obtain ⟨L, h1, h2, h3, h4⟩ := ih hnd.2 fun y hy => hsub y (List.mem_cons_of_mem _ hy)
        obtain ⟨i, hi, hxi⟩ := hidx x (hsub x List.mem_cons_self)
        refine ⟨i :: L, by simp [h1], List.nodup_cons.2 ⟨fun hm => ?_, h2⟩, fun j hj => ?_, fun j hj => ?_⟩
        · obtain ⟨y, hy, hyi⟩ := h4 i hm
          have hne : x ≠ y := fun e => hnd.1 (e ▸ hy)
          have hc := hx x (hsub x List.mem_cons_self) y (hsub y (List.mem_cons_of_mem _ hy)) hne
          have he := hg _ (List.getElem_mem hi)
          rw [getD_nat hi] at hxi hyi
          obtain ⟨p, hp, rfl⟩ := List.mem_iff_getElem.1 hxi
          obtain ⟨q, hq, rfl⟩ := List.mem_iff_getElem.1 hyi
          have hpq : p ≠ q := fun e => hne (by subst e; rfl)
          simp only [eachB, List.all_eq_true, List.mem_range] at he
          rcases Nat.lt_or_ge q p with hlt | hge
          · have := he p hp q hlt
            rw [getD_nat hp, getD_nat hq, hc] at this
            cases this
          · have := he q hq p (by omega)
            rw [getD_nat hp, getD_nat hq, cross_comm, hc] at this
            cases this
        · rcases List.mem_cons.1 hj with rfl | hj
          · exact hi
          · exact h3 j hj
        · rcases List.mem_cons.1 hj with rfl | hj
          · exact ⟨x, List.mem_cons_self, hxi⟩
          · obtain ⟨y, hy, hyi⟩ := h4 j hj; exact ⟨y, List.mem_cons_of_mem _ hy, hyi⟩
    obtain ⟨L, h1, h2, h3, _⟩ := key C hC fun _ h => h
    have := nodup_lenG (l := L) (m := List.range g.length) h2 fun i hi => List.mem_range.2 (h3 i hi)
    rw [List.length_range] at this
    omega
  | w :: r, g, hg, hs => by
    rw [layR_fold]
    refine fold_min_ge (f := fun i => layR l n r (putG g i w)) (v := fun i => eachB l ((putG g i w).getD i []) false) _ _ (by omega) fun i hi hv => ?_
    have hi : i ≤ g.length := by have := List.mem_range.1 hi; omega
    have hl : i < (putG g i w).length := by rw [putG_len]; split <;> omega
    refine layR_lower hC hx hn r _ (fun s hsm => ?_) fun x hxC => ?_
    · unfold putG at hsm hv
      split at hsm
      · rename_i e
        rw [if_pos e] at hv
        rcases List.mem_append.1 hsm with hsm | hsm
        · exact hg s hsm
        · rw [List.mem_singleton.1 hsm]; subst e; simpa using hv
      · rename_i e
        rw [if_neg e] at hv
        have hi2 : i < g.length := by omega
        rcases List.mem_or_eq_of_mem_set hsm with hsm | hsm
        · exact hg s hsm
        · rw [hsm]; simpa [List.getD_eq_getElem?_getD, hi2] using hv
    · have hm := hs x hxC
      rw [List.mem_append, List.mem_cons] at hm
      rw [List.mem_append]
      have hput : ∀ y, y ∈ g.flatten ∨ y = w → y ∈ (putG g i w).flatten := fun y hy => by
        unfold putG
        split
        · rw [List.flatten_append, List.mem_append]
          exact hy.imp id fun h => by simp [h]
        · have hi2 : i < g.length := by omega
          refine ((flatten_set (a := w) hi2 rfl).mem_iff).2 (List.mem_append.2 (hy.imp id fun h => by simp [h]))
      rcases hm with hm | rfl | hm
      · exact .inl (hput x (.inl hm))
      · exact .inl (hput _ (.inr rfl))
      · exact .inr hm
theorem sorted_sublist : ∀ {t s : List (Int × Int)}, s.Pairwise (fun x y => x.1 < y.1) → t.Pairwise (fun x y => x.1 < y.1) → (∀ x ∈ s, x ∈ t) → s.Sublist t
  | [], s, _, _, h => by
    cases s with
    | nil => exact List.Sublist.refl _
    | cons a s => cases h a List.mem_cons_self
  | b :: t, [], _, _, _ => List.nil_sublist _
  | b :: t, a :: s, hs, ht, h => by
    obtain ⟨hs1, hs2⟩ := List.pairwise_cons.1 hs
    obtain ⟨ht1, ht2⟩ := List.pairwise_cons.1 ht
    rcases List.mem_cons.1 (h a List.mem_cons_self) with rfl | ha
    · refine List.Sublist.cons_cons _ (sorted_sublist hs2 ht2 fun x hx => ?_)
      rcases List.mem_cons.1 (h x (List.mem_cons_of_mem _ hx)) with rfl | hx'
      · have := hs1 x hx; omega
      · exact hx'
    · have hb := ht1 a ha
      refine List.Sublist.cons _ (sorted_sublist hs ht2 fun x hx => ?_)
      rcases List.mem_cons.1 (h x hx) with rfl | hx'
      · rcases List.mem_cons.1 hx with rfl | hx
        · omega
        · have := hs1 x hx; omega
      · exact hx'
theorem pairwise_or {α : Type} {R : α → α → Prop} : ∀ {l : List α}, l.Pairwise R → ∀ {x y : α}, x ∈ l → y ∈ l → x ≠ y → R x y ∨ R y x
  | a :: l, h, x, y, hx, hy, hne => by
    obtain ⟨h1, h2⟩ := List.pairwise_cons.1 h
    rcases List.mem_cons.1 hx with ex | hx' <;> rcases List.mem_cons.1 hy with ey | hy'
    · exact absurd (ex.trans ey.symm) hne
    · exact .inl (ex ▸ h1 y hy')
    · exact .inr (ey ▸ h1 x hx')
    · exact pairwise_or h2 hx' hy' hne
structure LayFacts (l : List Int) : Prop where
  len : ((layersW l).length : Int) = layR l (refThr l).length (refThr l) []
  row : ∀ r ∈ layersW l, r ≠ [] ∧ r.Pairwise (· < ·) ∧ (∀ x ∈ r, 0 ≤ x ∧ x < l.length ∧ 0 ≤ l.getD x.toNat 0) ∧ eachB l r false = true
  heads : (layersW l).Pairwise fun r s => r.getD 0 0 < s.getD 0 0
  nodup : (layersW l).flatten.Nodup
  size : (layersW l).flatten.length = (refThr l).length
theorem lay_facts {l : List Int} (h : ∀ x ∈ l, -1 ≤ x ∧ x ≤ 95) : LayFacts l := by
  have hs := thr_sorted l
  obtain ⟨G, hI, hG⟩ := layF_I (thr l) hs
  have hr : refThr l = (thr l).map Prod.fst := refThr_eq fun x hx => (h x hx).1
  have hL : layersW l = G.map (·.map Prod.fst) := by
    have : layersW l = (layF (thr l)).1 := rfl
    rw [this, hG]
  have hmem : ∀ R ∈ G, ∀ x ∈ R, x ∈ thr l := fun R hR x hx => hI.perm.mem_iff.1 (List.mem_flatten.2 ⟨R, hR, hx⟩)
  have hsub : ∀ R ∈ G, R.Sublist (thr l) := fun R hR => sorted_sublist ((hI.rows R hR).2.imp fun h => h.1) hs (hmem R hR)
  have hev : ∀ s : List (Int × Int), (∀ x ∈ s, x ∈ thr l) → rowOk s → eachB l (s.map Prod.fst) false = true := fun s hm hok =>
    (each_eq h (sorted_sublist (hok.2.imp fun h => h.1) hs hm) false).2 (hok.2.imp fun h => by simp; omega)
  have hfl : (G.map (·.map Prod.fst)).flatten = G.flatten.map Prod.fst := by rw [List.map_flatten]
  have hpm : (layersW l).flatten.Perm (refThr l) := by rw [hL, hfl, hr]; exact hI.perm.map _
  refine ⟨?_, fun r hrm => ?_, ?_, ?_, hpm.length_eq⟩
  · have hle : layR l (refThr l).length (refThr l) [] ≤ (layersW l).length := by
      have := layR_greedy (l := l) (refThr l).length (thr l) [] [] layI_nil (by simpa using hs) fun s hm hok => hev s (by simpa using hm) hok
      rw [hr] at this ⊢
      exact this
    have hge : ((layersW l).length : Int) ≤ layR l (refThr l).length (refThr l) [] := by
      cases hk : G.length with
      | zero =>
        have e : (layersW l).length = 0 := by rw [hL, List.length_map, hk]
        rw [e]
        exact layR_lower (C := []) List.nodup_nil (fun x hx => by cases hx) (Nat.zero_le _) _ _ (fun s hs => by cases hs) fun x hx => by cases hx
      | succ k =>
        have hkl : k < G.length := by omega
        obtain ⟨C, c1, c2, c3⟩ := hI.chain k hkl
        have hnd : ((C ++ [G[k].getLastD (0, 0)]).map Prod.fst).Pairwise (· < ·) := by
          rw [List.pairwise_map]; exact hs.sublist c2
        have := layR_lower (l := l) (n := (refThr l).length) (C := (C ++ [G[k].getLastD (0, 0)]).map Prod.fst) (hnd.imp fun h => by omega) (fun x hx y hy hne => ?_) ?_ (refThr l) [] (fun s hs => by cases hs) fun x hx => ?_
        · rw [List.length_map, List.length_append, c1] at this
          rw [hL, List.length_map, hk]
          simpa using this
        · obtain ⟨x', hx', rfl⟩ := List.mem_map.1 hx
          obtain ⟨y', hy', rfl⟩ := List.mem_map.1 hy
          have hpw := (hs.sublist c2).and c3
          rcases pairwise_or hpw hx' hy' (fun e => hne (by rw [e])) with ⟨k1, k2⟩ | ⟨k1, k2⟩
          · rw [cross_comm, cross_eq h (c2.subset hx') (c2.subset hy') k1]; simpa using k2
          · rw [cross_eq h (c2.subset hy') (c2.subset hx') k1]; simpa using k2
        · have := c2.length_le
          rw [hr, List.length_map, List.length_map]; omega
        · rw [List.flatten_nil, List.nil_append, hr]
          obtain ⟨x', hx', rfl⟩ := List.mem_map.1 hx
          exact List.mem_map.2 ⟨x', c2.subset hx', rfl⟩
    omega
  · rw [hL] at hrm
    obtain ⟨R, hR, rfl⟩ := List.mem_map.1 hrm
    have hok := hI.rows R hR
    refine ⟨by simpa using hok.1, ?_, fun x hx => ?_, hev R (hmem R hR) hok⟩
    · rw [List.pairwise_map]; exact hok.2.imp fun h => h.1
    · obtain ⟨p, hp, rfl⟩ := List.mem_map.1 hx
      obtain ⟨k1, k2, k3, k4, _⟩ := thr_eyes h (hmem R hR p hp)
      exact ⟨k1, k2, by rw [k3]; exact k4⟩
  · rw [hL, List.pairwise_map]
    have := hI.heads
    rw [List.pairwise_map] at this
    refine List.Pairwise.imp_of_mem (fun {R S} hR hS hlt => ?_) this
    have e : ∀ R ∈ G, (R.map Prod.fst).getD 0 0 = (R.headD (0, 0)).1 := fun R hR => by
      have := (hI.rows R hR).1
      cases R with
      | nil => exact absurd rfl this
      | cons a R => rfl
    rw [e R hR, e S hS]; exact hlt
  · refine (hpm.nodup_iff).2 ?_
    rw [hr, List.Nodup, List.pairwise_map]; exact hs.imp fun h => by omega
end Go.Proofs.Tryd
set_option linter.unusedVariables false
namespace Go.Proofs.Tryd
open Go Go.V Go.Proofs
theorem pk_cover {α : Type} {l : List α} {x : α} : ∀ {b : Nat}, x ∈ l → x ∈ pkI b l ∨ x ∈ pkN b l := by
  induction l with
  | nil => intro b h; cases h
  | cons y r ih =>
    intro b h
    simp only [pkI, pkN]
    rcases List.mem_cons.1 h with rfl | h
    · split
      · exact .inl List.mem_cons_self
      · exact .inr List.mem_cons_self
    · split
      · exact (ih h).imp (List.mem_cons_of_mem _) id
      · exact (ih h).imp id (List.mem_cons_of_mem _)
structure TanFacts (l : List Int) : Prop where
  tan : (tangleW l).Pairwise (fun x y => x < y ∧ l.getD y.toNat 0 ≤ l.getD x.toNat 0)
  tanIn : ∀ x ∈ tangleW l, 0 ≤ x ∧ x < l.length ∧ 0 ≤ l.getD x.toNat 0
  tanLen : (tangleW l).length = best crossR (-1, 96) (thr l)
  out : (outW l).Pairwise (· < ·)
  outIn : ∀ x ∈ outW l, 0 ≤ x ∧ x < l.length ∧ 0 ≤ l.getD x.toNat 0
  outLen : (outW l).length + best apartR (-1, -1) (thr l) = (thr l).length
  apart : ∀ a b : Nat, a < b → b < l.length → 0 ≤ l.getD a 0 → 0 ≤ l.getD b 0 → l.getD b 0 ≤ l.getD a 0 → (a : Int) ∈ outW l ∨ (b : Int) ∈ outW l
  layLen : (layersW l).length = best crossR (-1, 96) (thr l)
  none : crossingsI l = 0 → (outW l) = [] ∧ best crossR (-1, 96) (thr l) ≤ 1
theorem sub_pair_of {l : List Int} (h : ∀ x ∈ l, -1 ≤ x ∧ x ≤ 95) {s : List (Int × Int)} (hs : s.Sublist (thr l)) : (s.map Prod.fst).Pairwise (· < ·) := by
  rw [List.pairwise_map]; exact (thr_sorted l).sublist hs
theorem in_thr {l : List Int} (h : ∀ x ∈ l, -1 ≤ x ∧ x ≤ 95) {s : List (Int × Int)} (hs : s.Sublist (thr l)) : ∀ x ∈ s.map Prod.fst, 0 ≤ x ∧ x < l.length ∧ 0 ≤ l.getD x.toNat 0 := fun x hx => by
  obtain ⟨p, hp, rfl⟩ := List.mem_map.1 hx
  obtain ⟨k1, k2, k3, k4, _⟩ := thr_eyes h (hs.subset hp)
  exact ⟨k1, k2, by rw [k3]; exact k4⟩
theorem tan_facts {l : List Int} (h : ∀ x ∈ l, -1 ≤ x ∧ x ≤ 95) : TanFacts l := by
  have hs := thr_sorted l
  obtain ⟨bt, _, t1, t2⟩ := tanG_pk (R := crossR) cross_trans (l := thr l) (a := (-1, 96))
  obtain ⟨bo, _, o1, o2⟩ := outG_pk (R := apartR) apart_trans (l := thr l) (a := (-1, -1))
  have tsub : (pkI bt (thr l)).Sublist (thr l) := pkI_sub
  have osub : (pkN bo (thr l)).Sublist (thr l) := pkN_sub
  have ht : tangleW l = (pkI bt (thr l)).map Prod.fst := by rw [t1]; rfl
  have ho : outW l = (pkN bo (thr l)).map Prod.fst := by rw [o1]; rfl
  have htl : (tangleW l).length = best crossR (-1, 96) (thr l) := by rw [ht, List.length_map, t1]; exact tanG_len
  have hol : (outW l).length + best apartR (-1, -1) (thr l) = (thr l).length := by rw [ho, List.length_map, o1]; exact outG_len
  have f := lay_facts h
  refine ⟨?_, by rw [ht]; exact in_thr h tsub, htl, by rw [ho]; exact sub_pair_of h osub, by rw [ho]; exact in_thr h osub, hol, fun a b hab hb ha0 hb0 hc => ?_, ?_, fun hz => ?_⟩
  · rw [ht, List.pairwise_map]
    refine List.Pairwise.imp_of_mem (fun {x y} hx hy hr => ?_) ((hs.sublist tsub).and (List.pairwise_cons.1 t2).2)
    obtain ⟨r1, r2⟩ := hr
    rw [(thr_eyes h (tsub.subset hx)).2.2.1, (thr_eyes h (tsub.subset hy)).2.2.1]
    simp only [crossR, decide_eq_true_eq] at r2
    exact ⟨r1, by omega⟩
  · have ma : ((a : Int), l.getD a 0) ∈ thr l := thr_mem.2 ⟨a, by omega, rfl, by simp only; omega⟩
    have mb : ((b : Int), l.getD b 0) ∈ thr l := thr_mem.2 ⟨b, hb, rfl, by simp only; omega⟩
    rcases pk_cover (b := bo) ma with ia | ia
    · rcases pk_cover (b := bo) mb with ib | ib
      · have hpw := (hs.sublist (pkI_sub (b := bo))).and (List.pairwise_cons.1 o2).2
        rcases pairwise_or hpw ia ib (fun e => by have := (Prod.mk.inj e).1; omega) with ⟨k1, k2⟩ | ⟨k1, k2⟩
        · simp only [apartR, decide_eq_true_eq] at k2; omega
        · simp only at k1; omega
      · right; rw [ho]; exact List.mem_map.2 ⟨_, ib, rfl⟩
    · left; rw [ho]; exact List.mem_map.2 ⟨_, ia, rfl⟩
  · have hr : refThr l = (thr l).map Prod.fst := refThr_eq fun x hx => (h x hx).1
    obtain ⟨G, hI, hG⟩ := layF_I (thr l) hs
    have hL : layersW l = G.map (·.map Prod.fst) := by
      have : layersW l = (layF (thr l)).1 := rfl
      rw [this, hG]
    apply Nat.le_antisymm
    · rw [hL, List.length_map]
      cases hk : G.length with
      | zero => exact Nat.zero_le _
      | succ k =>
        obtain ⟨C, c1, c2, c3⟩ := hI.chain k (by omega)
        have := best_le (R := crossR) (a := (-1, 96)) c2 (List.pairwise_cons.2 ⟨fun x hx => first_cross h x (c2.subset hx), c3.imp fun h => by simpa [crossR] using h⟩)
        rw [List.length_append, c1] at this
        simpa using this
    · have hpw := (hs.sublist tsub).and (List.pairwise_cons.1 t2).2
      have := layR_lower (l := l) (n := (refThr l).length) (C := tangleW l) ?_ (fun x hx y hy hne => ?_) ?_ (refThr l) [] (fun s hs => by cases hs) fun x hx => ?_
      · rw [← f.len] at this; rw [← htl]; omega
      · rw [ht]; exact (sub_pair_of h tsub).imp fun h => by omega
      · rw [ht] at hx hy
        obtain ⟨x', hx', rfl⟩ := List.mem_map.1 hx
        obtain ⟨y', hy', rfl⟩ := List.mem_map.1 hy
        rcases pairwise_or hpw hx' hy' (fun e => hne (by rw [e])) with ⟨k1, k2⟩ | ⟨k1, k2⟩
        · rw [cross_comm, cross_eq h (tsub.subset hx') (tsub.subset hy') k1]; simpa [crossR] using k2
        · rw [cross_eq h (tsub.subset hy') (tsub.subset hx') k1]; simpa [crossR] using k2
      · have := tsub.length_le
        rw [ht, hr, List.length_map, List.length_map]; omega
      · rw [List.flatten_nil, List.nil_append, hr]
        rw [ht] at hx
        obtain ⟨x', hx', rfl⟩ := List.mem_map.1 hx
        exact List.mem_map.2 ⟨x', tsub.subset hx', rfl⟩
  · rw [crossings_eq h] at hz
    have hap : (thr l).Pairwise fun x y => apartR x y = true := by
      have hz : pairs crossR (thr l) = 0 := by omega
      clear hs t1 t2 o1 o2 tsub osub ht ho htl hol f
      generalize thr l = T at hz
      induction T with
      | nil => exact List.Pairwise.nil
      | cons a r ih =>
        simp only [pairs] at hz
        refine List.pairwise_cons.2 ⟨fun x hx => ?_, ih (by omega)⟩
        have h0 : r.filter (crossR a) = [] := List.length_eq_zero_iff.1 (by omega)
        have := List.filter_eq_nil_iff.1 h0 x hx
        simp only [crossR, decide_eq_true_eq] at this
        simp only [apartR, decide_eq_true_eq]; omega
    constructor
    · have := best_le (R := apartR) (a := (-1, -1)) (List.Sublist.refl (thr l)) (List.pairwise_cons.2 ⟨first_apart h, hap⟩)
      exact List.length_eq_zero_iff.1 (by omega)
    · rw [← htl, ht, List.length_map]
      have hc := (List.pairwise_cons.1 t2).2
      have ha := hap.sublist tsub
      cases hp : pkI bt (thr l) with
      | nil => exact Nat.zero_le _
      | cons x r =>
        cases r with
        | nil => exact Nat.le_refl _
        | cons y r =>
          rw [hp] at hc ha
          have h1 := (List.pairwise_cons.1 hc).1 y List.mem_cons_self
          have h2 := (List.pairwise_cons.1 ha).1 y List.mem_cons_self
          simp only [crossR, apartR, decide_eq_true_eq] at h1 h2
          omega
theorem best_sub {α : Type} {R : α → α → Bool} (ht : ∀ x y z, R x y = true → R y z = true → R x z = true) {a : α} {S T : List α} (h : S.Sublist T) : best R a S ≤ best R a T := by
  obtain ⟨b, _, h1, h2⟩ := tanG_pk (R := R) ht (l := S) (a := a)
  rw [← tanG_len, ← h1]
  exact best_le (pkI_sub.trans h) h2
theorem pairs_sub {α : Type} (p : α → α → Bool) : ∀ {S T : List α}, S.Sublist T → pairs p S ≤ pairs p T
  | _, _, .slnil => Nat.le_refl _
  | _, _, .cons a h => by have := pairs_sub p h; simp only [pairs]; omega
  | _, _, .cons_cons a h => by
    have := pairs_sub p h
    have h2 := (h.filter (p a)).length_le
    simp only [pairs]; omega
def lessL1 (l : List Int) (k : Nat) : List Int := l.set k (-1)
theorem thr_less {l : List Int} {k : Nat} : (thr (lessL1 l k)).Sublist (thr l) ∧ (thr l).length ≤ (thr (lessL1 l k)).length + 1 ∧ ∀ p ∈ thr l, p.1 ≠ k → p ∈ thr (lessL1 l k) := by
  have hg : ∀ w : Nat, w ≠ k → (lessL1 l k).getD w 0 = l.getD w 0 := fun w hw => by
    simp only [lessL1, List.getD_eq_getElem?_getD]
    rw [List.getElem?_set_ne (Ne.symm hw)]
  have hk : ∀ w : Nat, w < l.length → w = k → (lessL1 l k).getD w 0 = -1 := fun w hw e => by subst e; simp [lessL1, List.getD_eq_getElem?_getD, hw]
  have hmem : ∀ p, p ∈ thr (lessL1 l k) ↔ p ∈ thr l ∧ p.1 ≠ k := fun p => by
    rw [thr_mem, thr_mem]
    have hl : (lessL1 l k).length = l.length := by simp [lessL1]
    rw [hl]
    constructor
    · rintro ⟨w, hw, rfl, hne⟩
      by_cases e : w = k
      · exact absurd (hk w hw e) hne
      · rw [hg w e] at hne ⊢; exact ⟨⟨w, hw, rfl, hne⟩, by simp only; omega⟩
    · rintro ⟨⟨w, hw, rfl, hne⟩, hne2⟩
      have e : w ≠ k := fun e => hne2 (by rw [e])
      refine ⟨w, hw, ?_, ?_⟩
      · rw [hg w e]
      · exact hne
  have hs := thr_sorted l
  have hs' := thr_sorted (lessL1 l k)
  have hsub : (thr (lessL1 l k)).Sublist (thr l) := sorted_sublist hs' hs fun p hp => ((hmem p).1 hp).1
  refine ⟨hsub, ?_, fun p hp hne => (hmem p).2 ⟨hp, hne⟩⟩
  have hnd : ((thr l).map Prod.fst).Nodup := by rw [List.Nodup, List.pairwise_map]; exact hs.imp fun h => by omega
  have := nodup_lenG (l := (thr l).map Prod.fst) (m := (k : Int) :: (thr (lessL1 l k)).map Prod.fst) hnd fun x hx => by
    obtain ⟨p, hp, rfl⟩ := List.mem_map.1 hx
    by_cases e : p.1 = k
    · rw [e]; exact List.mem_cons_self
    · exact List.mem_cons_of_mem _ (List.mem_map.2 ⟨p, (hmem p).2 ⟨hp, e⟩, rfl⟩)
  simpa using this
structure LessFacts (l : List Int) (k : Nat) : Prop where
  ok : ∀ x ∈ lessL1 l k, -1 ≤ x ∧ x ≤ 95
  cr : crossingsI (lessL1 l k) ≤ crossingsI l
  out : (outW (lessL1 l k)).length ≤ (outW l).length
  lay : (layersW (lessL1 l k)).length ≤ (layersW l).length
theorem less_facts {l : List Int} (h : ∀ x ∈ l, -1 ≤ x ∧ x ≤ 95) (k : Nat) : LessFacts l k := by
  have ok : ∀ x ∈ lessL1 l k, -1 ≤ x ∧ x ≤ 95 := fun x hx => by
    rcases List.mem_or_eq_of_mem_set hx with hx | rfl
    · exact h x hx
    · omega
  obtain ⟨s1, s2, s3⟩ := thr_less (l := l) (k := k)
  have t1 := tan_facts h
  have t2 := tan_facts ok
  refine ⟨ok, ?_, ?_, ?_⟩
  · rw [crossings_eq ok, crossings_eq h]
    have := pairs_sub crossR s1; omega
  · have h1 := t1.outLen; have h2 := t2.outLen
    obtain ⟨b, _, c1, c2⟩ := tanG_pk (R := apartR) apart_trans (l := thr l) (a := (-1, -1))
    have hb : (pkI b (thr l)).length = best apartR (-1, -1) (thr l) := by rw [c1]; exact tanG_len
    have hpk : (pkI b (thr l)).Sublist (thr l) := pkI_sub
    have hfs : ((pkI b (thr l)).filter fun p => p.1 != (k : Int)).Sublist (thr (lessL1 l k)) := sorted_sublist ((thr_sorted l).sublist (List.filter_sublist.trans hpk)) (thr_sorted _) fun p hp => by
      obtain ⟨q1, q2⟩ := List.mem_filter.1 hp
      exact s3 p (hpk.subset q1) (by simpa using q2)
    have hle := best_le (R := apartR) (a := (-1, -1)) hfs (c2.sublist (List.Sublist.cons_cons _ List.filter_sublist))
    by_cases hk : ∃ p ∈ thr l, p.1 = (k : Int)
    · have hlt : (thr (lessL1 l k)).length + 1 ≤ (thr l).length := by
        obtain ⟨p, hp, hpk⟩ := hk
        rcases Nat.lt_or_ge (thr (lessL1 l k)).length (thr l).length with hlt | hge
        · omega
        · have := s1.eq_of_length_le hge
          rw [← this] at hp
          obtain ⟨w, hw, rfl, hne⟩ := thr_mem.1 hp
          simp only at hpk
          have e : w = k := by omega
          subst e
          have hw : w < l.length := by simpa [lessL1] using hw
          exact absurd (by simp [lessL1, List.getD_eq_getElem?_getD, hw]) hne
      have hone : (pkI b (thr l)).length ≤ ((pkI b (thr l)).filter fun p => p.1 != (k : Int)).length + 1 := by
        have hnd : ((pkI b (thr l)).map Prod.fst).Nodup := by rw [List.Nodup, List.pairwise_map]; exact ((thr_sorted l).sublist hpk).imp fun h => by omega
        have := nodup_lenG (l := (pkI b (thr l)).map Prod.fst) (m := (k : Int) :: ((pkI b (thr l)).filter fun p => p.1 != (k : Int)).map Prod.fst) hnd fun x hx => by
          obtain ⟨p, hp, rfl⟩ := List.mem_map.1 hx
          by_cases e : p.1 = k
          · rw [e]; exact List.mem_cons_self
          · exact List.mem_cons_of_mem _ (List.mem_map.2 ⟨p, List.mem_filter.2 ⟨hp, by simpa using e⟩, rfl⟩)
        simpa using this
      omega
    · have e : (pkI b (thr l)).filter (fun p => p.1 != (k : Int)) = pkI b (thr l) := List.filter_eq_self.2 fun p hp => by
        have : p.1 ≠ k := fun e => hk ⟨p, hpk.subset hp, e⟩
        simpa using this
      rw [e] at hle
      have := s1.length_le
      omega
  · rw [t2.layLen, t1.layLen]; exact best_sub cross_trans s1
def al_law11_Board_harness : AL (Int × List Int × List Int × List Int) := (.one (.agg (.cons (.k (.i .u8)) (.cons (.k (.list (.i .u8))) (.cons (.k (.list (.i .u16))) (.one (.k (.list (.i .u8)))))))))
def pre_law11_Board_harness (d : Int × List Int × List Int × List Int) : Prop := bOk d.1 d.2.1 d.2.2.1 d.2.2.2
def res_law11_Board_harness (d : Int × List Int × List Int × List Int) : SV := .agg [.val (.i .i64) (bHk d.1), .lst 0]
def obs_law11_Board_harness (d : Int × List Int × List Int × List Int) : List OB := [.lst 3 (.i .i64) (bWarps d.1 d.2.1) false]
def s_law11_Board_harness : CSp := mkSp al_law11_Board_harness pre_law11_Board_harness res_law11_Board_harness obs_law11_Board_harness
def vc_law11_Board_harness (h8 : Int) (ws : List Int) (rs : List Int) (ds : List Int) : Prop :=
  (InK .i64 h8) ∧ ((10 : Int) ≠ 0) ∧ (InK .i64 ((1 : Int) + (Int.tmod h8 (10 : Int)))) ∧ ∃ (e4 : Unit) (d40 : (List Int) × Int), ((True ∧ True ∧ True ∧ (0 : Int) = d40.2 ∧ True) ∧ ((h8 = h8 ∧ ws = ws ∧ rs = rs ∧ ds = ds ∧ (([] : List SV) = [])) ∧ ((0 : Int) = (0 : Int) ∧ True ∧ (([] : List SV) = [])) ∧ (((1 : Int) + (Int.tmod h8 (10 : Int))) = ((1 : Int) + (Int.tmod h8 (10 : Int))) ∧ True ∧ (([] : List SV) = [])) ∧ (d40.1 = [] ∧ (List.isEmpty d40.1) = true) ∧ True)) ∧
  LoopP (fun (d4 : (List Int) × Int) (q4 : ((List Int) × Int) → Prop) =>
    (((d4.2 == (0 : Int)) || ((decide (d4.2 < (((List.length ws) : Nat) : Int))) && (decide (d4.2 < (24 : Int))))) = true →
      ((decide (d4.2 < (((List.length ws) : Nat) : Int))) = true →
        (0 ≤ d4.2) ∧ (d4.2 < (List.length ws)) ∧ (InK .i64 (List.getD ws (Int.toNat d4.2) 0)) ∧ (((1 : Int) + (Int.tmod h8 (10 : Int))) ≠ 0) ∧ (((List.length d4.1) + (List.length [(Int.tmod (List.getD ws (Int.toNat d4.2) 0) ((1 : Int) + (Int.tmod h8 (10 : Int))))])) * 8 ≤ 70368744177664) ∧ (InK .i64 (d4.2 + (1 : Int))) ∧ (∃ d5 : (List Int) × Int, ((True ∧ True ∧ True ∧ (d4.2 + (1 : Int)) = d5.2 ∧ True) ∧ ((h8 = h8 ∧ ws = ws ∧ rs = rs ∧ ds = ds ∧ (([] : List SV) = [])) ∧ ((0 : Int) = (0 : Int) ∧ True ∧ (([] : List SV) = [])) ∧ (((1 : Int) + (Int.tmod h8 (10 : Int))) = ((1 : Int) + (Int.tmod h8 (10 : Int))) ∧ True ∧ (([] : List SV) = [])) ∧ ((d4.1 ++ [(Int.tmod (List.getD ws (Int.toNat d4.2) 0) ((1 : Int) + (Int.tmod h8 (10 : Int))))]) = d5.1 ∧ false = (List.isEmpty d5.1)) ∧ True)) ∧ q4 d5)) ∧
      ((decide (d4.2 < (((List.length ws) : Nat) : Int))) = false →
        (((List.length d4.1) + (List.length [(0 : Int)])) * 8 ≤ 70368744177664) ∧ (InK .i64 (d4.2 + (1 : Int))) ∧ (∃ d6 : (List Int) × Int, ((True ∧ True ∧ True ∧ (d4.2 + (1 : Int)) = d6.2 ∧ True) ∧ ((h8 = h8 ∧ ws = ws ∧ rs = rs ∧ ds = ds ∧ (([] : List SV) = [])) ∧ ((0 : Int) = (0 : Int) ∧ True ∧ (([] : List SV) = [])) ∧ (((1 : Int) + (Int.tmod h8 (10 : Int))) = ((1 : Int) + (Int.tmod h8 (10 : Int))) ∧ True ∧ (([] : List SV) = [])) ∧ ((d4.1 ++ [(0 : Int)]) = d6.1 ∧ false = (List.isEmpty d6.1)) ∧ True)) ∧ q4 d6))) ∧
    (((d4.2 == (0 : Int)) || ((decide (d4.2 < (((List.length ws) : Nat) : Int))) && (decide (d4.2 < (24 : Int))))) = false →
      ((((1 : Int) + (Int.tmod h8 (10 : Int))) = (bHk h8) ∧ True ∧ (([] : List SV) = [])) ∧ ((d4.1 = (bWarps h8 ws) ∧ (List.isEmpty d4.1) = false) ∧ True)))) d40
def cx_law11_Board_harness : Cx := ⟨[(3, (.i .i64))], [], 48, [], 0, [], [], [], [], false⟩
def lp_law11_Board_harness (h8 : Int) (ws : List Int) (rs : List Int) (ds : List Int) : List (Nat × LoopAnn) := [(0, ⟨Unit, (List Int) × Int, [1, 2, 3, 4], fun e x => [.box 1 0, .box 2 0, .box 3 0, .val (.i .i64) x.2], fun e x => [(1, .slot 1, .cells [.val (.i .u8) h8, .val (.list (.i .u8)) ws, .val (.list (.i .u16)) rs, .val (.list (.i .u8)) ds]), (2, .slot 2, .cells [.val (.i .i64) (0 : Int), .nilS]), (3, .slot 3, .cells [.val (.i .i64) ((1 : Int) + (Int.tmod h8 (10 : Int))), .lst 45]), (45, .cell 3 1, .lst 3 (.i .i64) x.1 (List.isEmpty x.1))]⟩)]
set_option maxRecDepth 100000 in
theorem vq_law11_Board_harness (d : Int × List Int × List Int × List Int) : gwp (cx_law11_Board_harness) (lp_law11_Board_harness d.1 d.2.1 d.2.2.1 d.2.2.2) c31 0 (gend [.cell 2 true 2] (res_law11_Board_harness d) (obs_law11_Board_harness d)) (gstart 48 (AL.can al_law11_Board_harness d)) = vc_law11_Board_harness d.1 d.2.1 d.2.2.1 d.2.2.2 := by kernel_rfl
abbrev Ok_law11_Board_harness : Prop := OkC Tryd.prog 31 s_law11_Board_harness
theorem mk_law11_Board_harness (h : ∀ (h8 : Int) (ws : List Int) (rs : List Int) (ds : List Int), (bOk h8 ws rs ds) → vc_law11_Board_harness h8 ws rs ds) : OkC Tryd.prog 31 s_law11_Board_harness :=
  okC_vc fun31 mixed (C := cx_law11_Board_harness) (V := fun (d : Int × List Int × List Int × List Int) => vc_law11_Board_harness d.1 d.2.1 d.2.2.1 d.2.2.2) ⟨.nil, XsOk.nil, ItsOk.nil⟩ (vq_law11_Board_harness) fun d hp => h d.1 d.2.1 d.2.2.1 d.2.2.2 hp
theorem hkN_range {m h8 : Int} (hm : 0 < m) (h : 0 ≤ h8) : 1 ≤ hkN m h8 ∧ hkN m h8 ≤ m := by
  have h1 := Int.tmod_nonneg m h
  have h2 := Int.tmod_lt_of_pos h8 hm
  simp only [hkN]; omega
theorem warpsN_len {hk : Int} {cap : Nat} {ws : List Int} : (warpsN hk cap ws).length = if ws = [] then 1 else min cap ws.length := by
  unfold warpsN; split <;> simp
theorem warpsN_get {hk : Int} {cap : Nat} {ws : List Int} {i : Nat} (h : i < ws.length) (hc : i < cap) : (warpsN hk cap ws)[i]? = some (Int.tmod (ws.getD i 0) hk) := by
  have hne : ws ≠ [] := by rintro rfl; simp at h
  unfold warpsN; rw [if_neg hne]
  simp [hc, h]
theorem ok_law11_Board_harness : Ok_law11_Board_harness := mk_law11_Board_harness fun h8 ws rs ds h => by
  obtain ⟨h1, h2, hws, hrs, hds⟩ := h
  have hk := hkN_range (m := 10) (by omega) h1
  have e : (1 + Int.tmod h8 10) = bHk h8 := rfl
  have hk : 1 ≤ bHk h8 ∧ bHk h8 ≤ 10 := hk
  simp only [vc_law11_Board_harness, true_and, and_true, exists_const, decide_eq_true_eq, decide_eq_false_iff_not, ne_eq, InK_i64, e]
  refine ⟨by omega, by omega, by omega, ([], 0), ⟨rfl, rfl, rfl⟩, ?_⟩
  have hN : (bWarps h8 ws).length = if ws = [] then 1 else min 24 ws.length := warpsN_len
  have hcond : ∀ k : Nat, (((k : Int) == 0) || (decide ((k : Int) < ws.length) && decide ((k : Int) < 24))) = decide (k < (bWarps h8 ws).length) := fun k => by
    rw [hN]
    by_cases hz : ws = []
    · subst hz
      cases k <;> simp; omega
    · have : 0 < ws.length := List.length_pos_iff.2 hz
      rw [if_neg hz]
      cases k with
      | zero => simp; omega
      | succ k =>
        rw [Bool.eq_iff_iff]
        simp; omega
  have hNle : (bWarps h8 ws).length ≤ 24 := by rw [hN]; split <;> omega
  refine LoopP.count2 (bWarps h8 ws).length (fun k xs => xs = (bWarps h8 ws).take k) (by simp) fun k xs hk hJ q hq => ?_
  dsimp only
  rw [hcond]
  simp only [decide_eq_true_eq, decide_eq_false_iff_not, Int.toNat_natCast, Int.ofNat_lt]
  refine ⟨fun hlt => ⟨fun hw => ?_, fun hw => ?_⟩, fun hge => ?_⟩
  · have hw : k < ws.length := by omega
    have hws' := hws _ (List.getElem_mem hw)
    have hk24 : k < 24 := by omega
    simp only [getD_nat hw, List.length_singleton]
    have hv : (bWarps h8 ws)[k] = Int.tmod ws[k] (bHk h8) := by
      have := warpsN_get (hk := bHk h8) hw hk24
      rw [getD_nat hw] at this
      have h3 := List.getElem?_eq_getElem hlt
      exact Option.some.inj (h3.symm.trans this)
    refine ⟨by omega, by omega, by omega, by omega, by rw [hJ, List.length_take]; omega, by omega, (xs ++ [Int.tmod ws[k] (bHk h8)], (k : Int) + 1), ⟨rfl, rfl, by simp⟩, hq _ hlt ?_⟩
    rw [take_succ_eq hlt, ← hJ, hv]
  · have hz : ws = [] := by
      cases hws : ws with
      | nil => rfl
      | cons a l =>
        exfalso
        rw [hN] at hlt
        have : ws ≠ [] := by rw [hws]; simp
        rw [if_neg this] at hlt
        omega
    have hk0 : k = 0 := by rw [hN, if_pos hz] at hlt; omega
    subst hk0
    simp only [List.length_singleton]
    refine ⟨by rw [hJ, List.length_take]; omega, by omega, (xs ++ [0], 1), ⟨rfl, rfl, by simp⟩, hq _ hlt ?_⟩
    rw [take_succ_eq hlt, ← hJ]
    simp [bWarps, warpsN, hz]
  · have : k = (bWarps h8 ws).length := by omega
    subst this
    rw [List.take_length] at hJ
    subst hJ
    refine ⟨rfl, ?_⟩
    rw [List.isEmpty_eq_false_iff]
    intro hz
    rw [hz] at hN
    split at hN
    · cases hN
    · rename_i hne
      have := List.length_pos_iff.2 hne
      simp only [List.length_nil] at hN
      omega
def al_law11_Board_drawing : AL ((Int × List Int × List Int × List Int) × Int) := (.cons (.agg (.cons (.k (.i .u8)) (.cons (.k (.list (.i .u8))) (.cons (.k (.list (.i .u16))) (.one (.k (.list (.i .u8)))))))) (.one (.k (.i .i64))))
def pre_law11_Board_drawing (d : (Int × List Int × List Int × List Int) × Int) : Prop := 1 ≤ d.2 ∧ d.2 ≤ 24 ∧ bOk d.1.1 d.1.2.1 d.1.2.2.1 d.1.2.2.2
def res_law11_Board_drawing (d : (Int × List Int × List Int × List Int) × Int) : SV := .lst 0
def obs_law11_Board_drawing (d : (Int × List Int × List Int × List Int) × Int) : List OB := [.lst 3 (.i .i64) (bDraw d.1.2.2.2 d.2.toNat) false]
def s_law11_Board_drawing : CSp := mkSp al_law11_Board_drawing pre_law11_Board_drawing res_law11_Board_drawing obs_law11_Board_drawing
def vc_law11_Board_drawing (h8 : Int) (ws : List Int) (rs : List Int) (ds : List Int) (n : Int) : Prop :=
  ∃ (e3 : Unit) (d30 : (List Int) × Int), ((n = n ∧ True ∧ True ∧ (0 : Int) = d30.2 ∧ True) ∧ ((h8 = h8 ∧ ws = ws ∧ rs = rs ∧ ds = ds ∧ (([] : List SV) = [])) ∧ (([] : List Int) = d30.1 ∧ false = false) ∧ True)) ∧
  LoopP (fun (d3 : (List Int) × Int) (q3 : ((List Int) × Int) → Prop) =>
    ((decide (d3.2 < n)) = true →
      ((decide (d3.2 < (((List.length ds) : Nat) : Int))) = true →
        (0 ≤ d3.2) ∧ (d3.2 < (List.length ds)) ∧ (InK .i64 (List.getD ds (Int.toNat d3.2) 0)) ∧ ((16 : Int) ≠ 0) ∧ (((Int.tmod (List.getD ds (Int.toNat d3.2) 0) (16 : Int)) == (15 : Int)) = true →
          (((List.length d3.1) + (List.length [(-1 : Int)])) * 8 ≤ 70368744177664) ∧ (InK .i64 (d3.2 + (1 : Int))) ∧ (∃ d4 : (List Int) × Int, ((n = n ∧ True ∧ True ∧ (d3.2 + (1 : Int)) = d4.2 ∧ True) ∧ ((h8 = h8 ∧ ws = ws ∧ rs = rs ∧ ds = ds ∧ (([] : List SV) = [])) ∧ ((d3.1 ++ [(-1 : Int)]) = d4.1 ∧ false = false) ∧ True)) ∧ q3 d4)) ∧
        (((Int.tmod (List.getD ds (Int.toNat d3.2) 0) (16 : Int)) == (15 : Int)) = false →
          ((decide ((List.getD ds (Int.toNat d3.2) 0) ≥ (80 : Int))) = true →
            (n ≠ 0) ∧ (((List.length d3.1) + (List.length [(Int.tmod (List.getD ds (Int.toNat d3.2) 0) n)])) * 8 ≤ 70368744177664) ∧ (InK .i64 (d3.2 + (1 : Int))) ∧ (∃ d5 : (List Int) × Int, ((n = n ∧ True ∧ True ∧ (d3.2 + (1 : Int)) = d5.2 ∧ True) ∧ ((h8 = h8 ∧ ws = ws ∧ rs = rs ∧ ds = ds ∧ (([] : List SV) = [])) ∧ ((d3.1 ++ [(Int.tmod (List.getD ds (Int.toNat d3.2) 0) n)]) = d5.1 ∧ false = false) ∧ True)) ∧ q3 d5)) ∧
          ((decide ((List.getD ds (Int.toNat d3.2) 0) ≥ (80 : Int))) = false →
            (((List.length d3.1) + (List.length [d3.2])) * 8 ≤ 70368744177664) ∧ (InK .i64 (d3.2 + (1 : Int))) ∧ (∃ d6 : (List Int) × Int, ((n = n ∧ True ∧ True ∧ (d3.2 + (1 : Int)) = d6.2 ∧ True) ∧ ((h8 = h8 ∧ ws = ws ∧ rs = rs ∧ ds = ds ∧ (([] : List SV) = [])) ∧ ((d3.1 ++ [d3.2]) = d6.1 ∧ false = false) ∧ True)) ∧ q3 d6)))) ∧
      ((decide (d3.2 < (((List.length ds) : Nat) : Int))) = false →
        (((List.length d3.1) + (List.length [d3.2])) * 8 ≤ 70368744177664) ∧ (InK .i64 (d3.2 + (1 : Int))) ∧ (∃ d7 : (List Int) × Int, ((n = n ∧ True ∧ True ∧ (d3.2 + (1 : Int)) = d7.2 ∧ True) ∧ ((h8 = h8 ∧ ws = ws ∧ rs = rs ∧ ds = ds ∧ (([] : List SV) = [])) ∧ ((d3.1 ++ [d3.2]) = d7.1 ∧ false = false) ∧ True)) ∧ q3 d7))) ∧
    ((decide (d3.2 < n)) = false →
      (True ∧ ((d3.1 = (bDraw ds n.toNat) ∧ false = false) ∧ True)))) d30
def cx_law11_Board_drawing : Cx := ⟨[(3, (.i .i64))], [], 40, [], 0, [], [], [], [], false⟩
def lp_law11_Board_drawing (h8 : Int) (ws : List Int) (rs : List Int) (ds : List Int) (n : Int) : List (Nat × LoopAnn) := [(0, ⟨Unit, (List Int) × Int, [1, 2, 5, 6], fun e x => [.val (.i .i64) n, .box 2 0, .lst 9, .val (.i .i64) x.2], fun e x => [(2, .slot 2, .cells [.val (.i .u8) h8, .val (.list (.i .u8)) ws, .val (.list (.i .u16)) rs, .val (.list (.i .u8)) ds]), (9, .slot 5, .lst 3 (.i .i64) x.1 false)]⟩)]
set_option maxRecDepth 100000 in
theorem vq_law11_Board_drawing (d : (Int × List Int × List Int × List Int) × Int) : gwp (cx_law11_Board_drawing) (lp_law11_Board_drawing d.1.1 d.1.2.1 d.1.2.2.1 d.1.2.2.2 d.2) c33 0 (gend [.tmp 4] (res_law11_Board_drawing d) (obs_law11_Board_drawing d)) (gstart 40 (AL.can al_law11_Board_drawing d)) = vc_law11_Board_drawing d.1.1 d.1.2.1 d.1.2.2.1 d.1.2.2.2 d.2 := by kernel_rfl
abbrev Ok_law11_Board_drawing : Prop := OkC Tryd.prog 33 s_law11_Board_drawing
theorem mk_law11_Board_drawing (h : ∀ (h8 : Int) (ws : List Int) (rs : List Int) (ds : List Int) (n : Int), (1 ≤ n ∧ n ≤ 24 ∧ bOk h8 ws rs ds) → vc_law11_Board_drawing h8 ws rs ds n) : OkC Tryd.prog 33 s_law11_Board_drawing :=
  okC_vc fun33 mixed (C := cx_law11_Board_drawing) (V := fun (d : (Int × List Int × List Int × List Int) × Int) => vc_law11_Board_drawing d.1.1 d.1.2.1 d.1.2.2.1 d.1.2.2.2 d.2) ⟨.nil, XsOk.nil, ItsOk.nil⟩ (vq_law11_Board_drawing) fun d hp => h d.1.1 d.1.2.1 d.1.2.2.1 d.1.2.2.2 d.2 hp
theorem bDraw_len (ds : List Int) (n : Nat) : (bDraw ds n).length = n := by simp [bDraw]
theorem bDraw_get (ds : List Int) {n k : Nat} (h : k < n) : (bDraw ds n)[k]'(by rw [bDraw_len]; exact h) = if k < ds.length then (if Int.tmod (ds.getD k 0) 16 = 15 then -1 else if ds.getD k 0 ≥ 80 then Int.tmod (ds.getD k 0) n else k) else k := by
  simp [bDraw]
theorem ok_law11_Board_drawing : Ok_law11_Board_drawing := mk_law11_Board_drawing fun h8 ws rs ds n h => by
  obtain ⟨hn1, hn2, h1, h2, hws, hrs, hds⟩ := h
  obtain ⟨n, rfl⟩ := Int.eq_ofNat_of_zero_le (show 0 ≤ n by omega)
  simp only [vc_law11_Board_drawing, true_and, and_true, exists_const, decide_eq_true_eq, decide_eq_false_iff_not, beq_iff_eq, ne_eq, beq_eq_false_iff_ne, Int.toNat_natCast, ge_iff_le, InK_i64]
  refine ⟨([], 0), ⟨rfl, rfl⟩, ?_⟩
  have hl := bDraw_len ds n
  refine LoopP.count2 n (fun k xs => xs = (bDraw ds n).take k) (by simp) fun k xs hk hJ q hq => ?_
  have hxl : xs.length = k := by rw [hJ, List.length_take]; omega
  dsimp only
  simp only [Int.toNat_natCast, Int.ofNat_lt]
  have fin : ∀ (hlt : k < n) (v : Int), (bDraw ds n)[k]'(by rw [hl]; exact hlt) = v → ∃ d : List Int × Int, ((k : Int) + 1 = d.2 ∧ xs ++ [v] = d.1) ∧ q d := fun hlt v hv => by
    refine ⟨(xs ++ [v], (k : Int) + 1), ⟨rfl, rfl⟩, hq _ hlt ?_⟩
    rw [take_succ_eq (by rw [hl]; exact hlt), ← hJ, hv]
  refine ⟨fun hlt => ⟨fun hw => ?_, fun hw => ?_⟩, fun hge => ?_⟩
  · have hw : k < ds.length := by omega
    have hd := hds _ (List.getElem_mem hw)
    have hg := bDraw_get ds (n := n) (k := k) (by omega)
    rw [if_pos hw] at hg
    simp only [getD_nat hw, List.length_singleton] at hg ⊢
    refine ⟨by omega, by omega, by omega, by omega, fun h16 => ?_, fun h16 => ⟨fun h80 => ?_, fun h80 => ?_⟩⟩
    · rw [if_pos h16] at hg
      exact ⟨by omega, by omega, fin (by omega) _ hg⟩
    · rw [if_neg h16, if_pos h80] at hg
      exact ⟨by omega, by omega, by omega, fin (by omega) _ hg⟩
    · rw [if_neg h16, if_neg h80] at hg
      exact ⟨by omega, by omega, fin (by omega) _ hg⟩
  · have hw : ¬ k < ds.length := by omega
    have hg := bDraw_get ds (n := n) (k := k) (by omega)
    rw [if_neg hw] at hg
    simp only [List.length_singleton]
    exact ⟨by omega, by omega, fin (by omega) _ hg⟩
  · have : k = n := by omega
    subst this
    rw [hJ, List.take_of_length_le (by omega)]
end Go.Proofs.Tryd
set_option linter.unusedVariables false
namespace Go.Proofs.Tryd
open Go Go.V Go.Proofs
def swp (l : List Int) (i k : Nat) : List Int := (l.set i (l.getD k 0)).set k (l.getD i 0)
theorem swp_len (l : List Int) (i k : Nat) : (swp l i k).length = l.length := by simp [swp]
theorem swp_perm {l : List Int} {i k : Nat} (hi : i < l.length) (hk : k < l.length) : (swp l i k).Perm l := by
  unfold swp
  rw [getD_nat hi, getD_nat hk]
  exact List.set_set_perm hi hk
theorem swp_take {l : List Int} {i k : Nat} (h : i ≤ k) : (swp l i k).take i = l.take i := by
  unfold swp
  rw [List.take_set_of_le h, List.take_set_of_le (Nat.le_refl _)]
theorem swp_get {l : List Int} {i k : Nat} (h : i ≤ k) (hk : k < l.length) : (swp l i k).getD i 0 = l.getD k 0 := by
  unfold swp
  simp only [List.getD_eq_getElem?_getD]
  rcases Nat.eq_or_lt_of_le h with rfl | h
  · rw [List.getElem?_set_self (by simp; exact hk)]; rfl
  · rw [List.getElem?_set_ne (by omega), List.getElem?_set_self (by omega)]; rfl
def badB (l : List Int) (m : List (Int × Bool)) (w : Int) (v : Nat) : Bool := gq.aget (.i .i64) m (v : Int) false && ((decide ((v : Int) < w) && decide (l.getD w.toNat 0 ≤ l.getD v 0)) || (decide (w < (v : Int)) && decide (l.getD v 0 ≤ l.getD w.toNat 0)))
structure FewI (l : List Int) (m : List (Int × Bool)) (tk : Int) (od : List Int) (i : Nat) : Prop where
  perm : od.Perm ((List.range l.length).map fun (w : Nat) => (w : Int))
  st : ∀ w : Int, gq.aget (.i .i64) m w false = true → w ∈ od.take i ∧ 0 ≤ l.getD w.toNat 0
  ap : ∀ v w : Int, gq.aget (.i .i64) m v false = true → gq.aget (.i .i64) m w false = true → v < w → l.getD v.toNat 0 < l.getD w.toNat 0
  cnt : tk = ((od.take i).filter fun (w : Int) => decide (0 ≤ l.getD w.toNat 0) && !gq.aget (.i .i64) m w false).length
theorem FewI.len {l : List Int} {m : List (Int × Bool)} {tk : Int} {od : List Int} {i : Nat} (h : FewI l m tk od i) : od.length = l.length := by rw [h.perm.length_eq]; simp
theorem FewI.mem {l : List Int} {m : List (Int × Bool)} {tk : Int} {od : List Int} {i : Nat} (h : FewI l m tk od i) {w : Int} (hw : w ∈ od) : 0 ≤ w ∧ w < l.length := by
  obtain ⟨k, hk, rfl⟩ := List.mem_map.1 (h.perm.mem_iff.1 hw)
  have := List.mem_range.1 hk
  omega
theorem FewI.step {l : List Int} {m : List (Int × Bool)} {tk : Int} {od : List Int} {i k : Nat} (h : FewI l m tk od i) (hik : i ≤ k) (hk : k < l.length) :
    (0 ≤ od.getD k 0 ∧ od.getD k 0 < l.length) ∧ (l.getD (od.getD k 0).toNat 0 < 0 → FewI l m tk (swp od i k) (i + 1)) ∧
    (0 ≤ l.getD (od.getD k 0).toNat 0 → ∀ fits : Bool, fits = !((List.range l.length).any (badB l m (od.getD k 0))) → FewI l (aput (.i .i64) m (od.getD k 0) fits) (if fits then tk else tk + 1) (swp od i k) (i + 1)) := by
  have hlen := h.len
  have hko : k < od.length := by omega
  have hio : i < od.length := by omega
  have hw := h.mem (show od.getD k 0 ∈ od by rw [getD_nat hko]; exact List.getElem_mem hko)
  have hperm : (swp od i k).Perm ((List.range l.length).map fun (w : Nat) => (w : Int)) := (swp_perm hio hko).trans h.perm
  have htk : (swp od i k).take (i + 1) = od.take i ++ [od.getD k 0] := by
    have h1 : i < (swp od i k).length := by rw [swp_len]; exact hio
    have h2 : (swp od i k)[i] = od.getD k 0 := by rw [← swp_get hik hko, getD_nat h1]
    rw [take_succ_eq h1, swp_take hik, h2]
  have hnd : od.Nodup := (h.perm.nodup_iff).2 (by
    rw [List.Nodup, List.pairwise_map]
    exact List.nodup_range.imp fun h1 h2 => h1 (by omega))
  have hnot : od.getD k 0 ∉ od.take i := fun hm => by
    obtain ⟨j, hj, hj2⟩ := List.mem_take_iff_getElem.1 hm
    rw [getD_nat hko] at hj2
    have := List.pairwise_iff_getElem.1 hnd j k (by omega) hko (by omega)
    exact this hj2
  refine ⟨hw, fun hneg => ⟨hperm, fun w hw2 => ?_, h.ap, ?_⟩, fun hpos fits hf => ⟨hperm, fun w hw2 => ?_, fun v w hv hw2 hlt => ?_, ?_⟩⟩
  · rw [htk]; obtain ⟨k1, k2⟩ := h.st w hw2; exact ⟨List.mem_append_left _ k1, k2⟩
  · rw [htk, List.filter_append]
    have e : ([od.getD k 0].filter fun (w : Int) => decide (0 ≤ l.getD w.toNat 0) && !gq.aget (.i .i64) m w false) = [] := by
      rw [List.filter_eq_nil_iff]
      intro w hw2
      rw [List.mem_singleton.1 hw2, decide_eq_false (show ¬ 0 ≤ l.getD (od.getD k 0).toNat 0 by omega)]
      simp
    rw [e, List.append_nil]; exact h.cnt
  · rw [aget_aput] at hw2
    rw [htk]
    split at hw2
    · rename_i e; rw [e]; exact ⟨List.mem_append_right _ (List.mem_singleton.2 rfl), hpos⟩
    · obtain ⟨k1, k2⟩ := h.st w hw2; exact ⟨List.mem_append_left _ k1, k2⟩
  · have fin : ∀ v : Int, gq.aget (.i .i64) m v false = true → fits = true → (v < od.getD k 0 → l.getD v.toNat 0 < l.getD (od.getD k 0).toNat 0) ∧ (od.getD k 0 < v → l.getD (od.getD k 0).toNat 0 < l.getD v.toNat 0) := fun v hv hft => by
      have hvm := h.mem (List.mem_of_mem_take (h.st v hv).1)
      rw [hft] at hf
      have hb : badB l m (od.getD k 0) v.toNat = false := by
        have := List.any_eq_false.1 (by simpa using hf.symm) v.toNat (List.mem_range.2 (by omega))
        simpa using this
      have ev : ((v.toNat : Nat) : Int) = v := Int.toNat_of_nonneg hvm.1
      simp only [badB, ev, hv, Bool.true_and, Bool.or_eq_false_iff, Bool.and_eq_false_iff, decide_eq_false_iff_not] at hb
      refine ⟨fun h1 => ?_, fun h1 => ?_⟩
      · rcases hb.1 with h2 | h2 <;> omega
      · rcases hb.2 with h2 | h2 <;> omega
    rw [aget_aput] at hv hw2
    split at hv
    · rename_i e1
      split at hw2
      · rename_i e2; omega
      · subst e1; exact (fin w hw2 hv).2 hlt
    · split at hw2
      · rename_i e2; subst e2; exact (fin v hv hw2).1 hlt
      · exact h.ap v w hv hw2 hlt
  · rw [htk, List.filter_append, List.length_append]
    have e1 : ((od.take i).filter fun (w : Int) => decide (0 ≤ l.getD w.toNat 0) && !gq.aget (.i .i64) (aput (.i .i64) m (od.getD k 0) fits) w false) = (od.take i).filter fun (w : Int) => decide (0 ≤ l.getD w.toNat 0) && !gq.aget (.i .i64) m w false := by
      refine List.filter_congr fun w hw2 => ?_
      rw [aget_aput, if_neg fun e => hnot (by rw [← e]; exact hw2)]
    have e2 : ([od.getD k 0].filter fun (w : Int) => decide (0 ≤ l.getD w.toNat 0) && !gq.aget (.i .i64) (aput (.i .i64) m (od.getD k 0) fits) w false).length = if fits then 0 else 1 := by
      simp only [List.filter_cons, List.filter_nil, aget_aput, if_true, decide_eq_true hpos, Bool.true_and]
      cases fits <;> rfl
    rw [e1, e2, h.cnt]
    cases fits <;> simp
theorem FewI.fin {l : List Int} (hl : ∀ x ∈ l, -1 ≤ x ∧ x ≤ 95) {m : List (Int × Bool)} {tk : Int} {od : List Int} (h : FewI l m tk od l.length) : ((outW l).length : Int) ≤ tk := by
  have hlen := h.len
  have htake : od.take l.length = od := List.take_of_length_le (by omega)
  have hcnt := h.cnt
  rw [htake] at hcnt
  have T := tan_facts hl
  have hp := (h.perm.filter fun (w : Int) => decide (0 ≤ l.getD w.toNat 0) && !gq.aget (.i .i64) m w false).length_eq
  have hthr : refThr l = (thr l).map Prod.fst := refThr_eq fun x hx => (hl x hx).1
  have e1 : ((List.range l.length).map fun (w : Nat) => (w : Int)).filter (fun (w : Int) => decide (0 ≤ l.getD w.toNat 0) && !gq.aget (.i .i64) m w false) = (refThr l).filter fun (w : Int) => !gq.aget (.i .i64) m w false := by
    unfold refThr
    rw [List.filter_map, List.filter_map, List.filter_filter]
    congr 1
    refine List.filter_congr fun w hw => ?_
    simp only [Function.comp, Int.toNat_natCast]
    exact Bool.and_comm _ _
  rw [e1, hthr, List.filter_map, List.length_map] at hp
  have hst : ((thr l).filter fun p => gq.aget (.i .i64) m p.1 false).Pairwise fun x y => apartR x y = true := by
    refine List.Pairwise.imp_of_mem (fun {x y} hx hy hlt => ?_) ((thr_sorted l).sublist List.filter_sublist)
    obtain ⟨x1, x2⟩ := List.mem_filter.1 hx
    obtain ⟨y1, y2⟩ := List.mem_filter.1 hy
    have := h.ap x.1 y.1 x2 y2 hlt
    rw [(thr_eyes hl x1).2.2.1, (thr_eyes hl y1).2.2.1] at this
    exact decide_eq_true this
  have hb := best_le (R := apartR) (a := (-1, -1)) (List.filter_sublist (p := fun p : Int × Int => gq.aget (.i .i64) m p.1 false) (l := thr l)) (List.pairwise_cons.2 ⟨fun x hx => first_apart hl x (List.mem_filter.1 hx).1, hst⟩)
  have hsum : ∀ (q : Int × Int → Bool) (L : List (Int × Int)), (L.filter q).length + (L.filter fun p => !q p).length = L.length := fun q L => by
    induction L with
    | nil => rfl
    | cons a L ih => simp only [List.filter_cons]; cases q a <;> simp <;> omega
  have := hsum (fun p => gq.aget (.i .i64) m p.1 false) (thr l)
  have hol := T.outLen
  have e2 : ((thr l).filter ((fun (w : Int) => !gq.aget (.i .i64) m w false) ∘ Prod.fst)).length = ((thr l).filter fun p => !gq.aget (.i .i64) m p.1 false).length := rfl
  rw [e2] at hp
  omega
end Go.Proofs.Tryd
set_option linter.unusedVariables false
namespace Go.Proofs.Tryd
open Go Go.V Go.Proofs
def al_law11_EyeFewer : AL ((Int × List Int × List Int × List Int) × List Int × Int) := (.cons (.agg (.cons (.k (.i .u8)) (.cons (.k (.list (.i .u8))) (.cons (.k (.list (.i .u16))) (.one (.k (.list (.i .u8)))))))) (.cons (.k (.list (.i .u8))) (.one (.k (.i .u8)))))
def pre_law11_EyeFewer (d : (Int × List Int × List Int × List Int) × List Int × Int) : Prop := bOk d.1.1 d.1.2.1 d.1.2.2.1 d.1.2.2.2 ∧ u8s d.2.1 ∧ 0 ≤ d.2.2 ∧ d.2.2 ≤ 255
def res_law11_EyeFewer (d : (Int × List Int × List Int × List Int) × List Int × Int) : SV := .val .bo true
def obs_law11_EyeFewer (d : (Int × List Int × List Int × List Int) × List Int × Int) : List OB := []
def s_law11_EyeFewer : CSp := mkSp al_law11_EyeFewer pre_law11_EyeFewer res_law11_EyeFewer obs_law11_EyeFewer
def vc_law11_EyeFewer (h8 : Int) (ws : List Int) (rs : List Int) (ds : List Int) (mix : List Int) (wh : Int) : Prop :=
  (bOk h8 ws rs ds) ∧ (1 ≤ (((List.length (bWarps h8 ws)) : Nat) : Int) ∧ (((List.length (bWarps h8 ws)) : Nat) : Int) ≤ 24 ∧ bOk h8 ws rs ds) ∧ ((bDraw ds (((List.length (bWarps h8 ws)) : Nat) : Int).toNat).length ≤ 110) ∧ ((bDraw ds (((List.length (bWarps h8 ws)) : Nat) : Int).toNat).length ≤ 110) ∧ ((bDraw ds (((List.length (bWarps h8 ws)) : Nat) : Int).toNat).length ≤ 110) ∧ ((bDraw ds (((List.length (bWarps h8 ws)) : Nat) : Int).toNat).length ≤ 110) ∧ ((bDraw ds (((List.length (bWarps h8 ws)) : Nat) : Int).toNat).length ≤ 110) ∧ ((bDraw ds (((List.length (bWarps h8 ws)) : Nat) : Int).toNat).length ≤ 110) ∧ ∀ (y1 : Bool), y1 = (aloneErr (bDraw ds (((List.length (bWarps h8 ws)) : Nat) : Int).toNat) != (0 : Int)) → ∀ (y2 : Bool), y2 = (aloneErr (bDraw ds (((List.length (bWarps h8 ws)) : Nat) : Int).toNat) != (0 : Int)) → ∀ (y3 : Bool), y3 = (y1 || y2) → ∀ (y4 : Bool), y4 = (aloneErr (bDraw ds (((List.length (bWarps h8 ws)) : Nat) : Int).toNat) != (0 : Int)) → ∀ (y5 : Bool), y5 = (y3 || y4) → (y5 = true →
    (false = true ∧ (True))) ∧
  (y5 = false →
    ∃ (e3 : Unit) (d30 : (List Int) × Int), ((mix = mix ∧ wh = wh ∧ (((List.length (bWarps h8 ws)) : Nat) : Int) = (((List.length (bWarps h8 ws)) : Nat) : Int) ∧ True ∧ True ∧ (if aloneErr (bDraw ds (((List.length (bWarps h8 ws)) : Nat) : Int).toNat) = 0 then crossingsI (bDraw ds (((List.length (bWarps h8 ws)) : Nat) : Int).toNat) else 0) = (if aloneErr (bDraw ds (((List.length (bWarps h8 ws)) : Nat) : Int).toNat) = 0 then crossingsI (bDraw ds (((List.length (bWarps h8 ws)) : Nat) : Int).toNat) else 0) ∧ True ∧ True ∧ (0 : Int) = (0 : Int) ∧ True ∧ (0 : Int) = d30.2 ∧ True) ∧ (((bDraw ds (((List.length (bWarps h8 ws)) : Nat) : Int).toNat) = (bDraw ds (((List.length (bWarps h8 ws)) : Nat) : Int).toNat) ∧ false = false) ∧ ((if aloneErr (bDraw ds (((List.length (bWarps h8 ws)) : Nat) : Int).toNat) = 0 then outW (bDraw ds (((List.length (bWarps h8 ws)) : Nat) : Int).toNat) else []) = (if aloneErr (bDraw ds (((List.length (bWarps h8 ws)) : Nat) : Int).toNat) = 0 then outW (bDraw ds (((List.length (bWarps h8 ws)) : Nat) : Int).toNat) else []) ∧ (if aloneErr (bDraw ds (((List.length (bWarps h8 ws)) : Nat) : Int).toNat) = 0 then outW (bDraw ds (((List.length (bWarps h8 ws)) : Nat) : Int).toNat) else []).isEmpty = (List.isEmpty (if aloneErr (bDraw ds (((List.length (bWarps h8 ws)) : Nat) : Int).toNat) = 0 then outW (bDraw ds (((List.length (bWarps h8 ws)) : Nat) : Int).toNat) else []))) ∧ ((if aloneErr (bDraw ds (((List.length (bWarps h8 ws)) : Nat) : Int).toNat) = 0 then layersW (bDraw ds (((List.length (bWarps h8 ws)) : Nat) : Int).toNat) else []) = (if aloneErr (bDraw ds (((List.length (bWarps h8 ws)) : Nat) : Int).toNat) = 0 then layersW (bDraw ds (((List.length (bWarps h8 ws)) : Nat) : Int).toNat) else []) ∧ (if aloneErr (bDraw ds (((List.length (bWarps h8 ws)) : Nat) : Int).toNat) = 0 then layersW (bDraw ds (((List.length (bWarps h8 ws)) : Nat) : Int).toNat) else []).isEmpty = (List.isEmpty (if aloneErr (bDraw ds (((List.length (bWarps h8 ws)) : Nat) : Int).toNat) = 0 then layersW (bDraw ds (((List.length (bWarps h8 ws)) : Nat) : Int).toNat) else []))) ∧ (([] : List (Int × Bool)) = ([] : List (Int × Bool))) ∧ (([] : List Int) = d30.1 ∧ false = false) ∧ True)) ∧
    LoopP (fun (d3 : (List Int) × Int) (q3 : ((List Int) × Int) → Prop) =>
      ∀ (y8 : Bool), y8 = (decide (d3.2 < (((List.length (bWarps h8 ws)) : Nat) : Int))) → (y8 = true →
        (((List.length d3.1) + (List.length [d3.2])) * 8 ≤ 70368744177664) ∧ (InK .i64 (d3.2 + (1 : Int))) ∧ (∃ d4 : (List Int) × Int, ((mix = mix ∧ wh = wh ∧ (((List.length (bWarps h8 ws)) : Nat) : Int) = (((List.length (bWarps h8 ws)) : Nat) : Int) ∧ True ∧ True ∧ (if aloneErr (bDraw ds (((List.length (bWarps h8 ws)) : Nat) : Int).toNat) = 0 then crossingsI (bDraw ds (((List.length (bWarps h8 ws)) : Nat) : Int).toNat) else 0) = (if aloneErr (bDraw ds (((List.length (bWarps h8 ws)) : Nat) : Int).toNat) = 0 then crossingsI (bDraw ds (((List.length (bWarps h8 ws)) : Nat) : Int).toNat) else 0) ∧ True ∧ True ∧ (0 : Int) = (0 : Int) ∧ True ∧ (d3.2 + (1 : Int)) = d4.2 ∧ True) ∧ (((bDraw ds (((List.length (bWarps h8 ws)) : Nat) : Int).toNat) = (bDraw ds (((List.length (bWarps h8 ws)) : Nat) : Int).toNat) ∧ false = false) ∧ ((if aloneErr (bDraw ds (((List.length (bWarps h8 ws)) : Nat) : Int).toNat) = 0 then outW (bDraw ds (((List.length (bWarps h8 ws)) : Nat) : Int).toNat) else []) = (if aloneErr (bDraw ds (((List.length (bWarps h8 ws)) : Nat) : Int).toNat) = 0 then outW (bDraw ds (((List.length (bWarps h8 ws)) : Nat) : Int).toNat) else []) ∧ (List.isEmpty (if aloneErr (bDraw ds (((List.length (bWarps h8 ws)) : Nat) : Int).toNat) = 0 then outW (bDraw ds (((List.length (bWarps h8 ws)) : Nat) : Int).toNat) else [])) = (List.isEmpty (if aloneErr (bDraw ds (((List.length (bWarps h8 ws)) : Nat) : Int).toNat) = 0 then outW (bDraw ds (((List.length (bWarps h8 ws)) : Nat) : Int).toNat) else []))) ∧ ((if aloneErr (bDraw ds (((List.length (bWarps h8 ws)) : Nat) : Int).toNat) = 0 then layersW (bDraw ds (((List.length (bWarps h8 ws)) : Nat) : Int).toNat) else []) = (if aloneErr (bDraw ds (((List.length (bWarps h8 ws)) : Nat) : Int).toNat) = 0 then layersW (bDraw ds (((List.length (bWarps h8 ws)) : Nat) : Int).toNat) else []) ∧ (List.isEmpty (if aloneErr (bDraw ds (((List.length (bWarps h8 ws)) : Nat) : Int).toNat) = 0 then layersW (bDraw ds (((List.length (bWarps h8 ws)) : Nat) : Int).toNat) else [])) = (List.isEmpty (if aloneErr (bDraw ds (((List.length (bWarps h8 ws)) : Nat) : Int).toNat) = 0 then layersW (bDraw ds (((List.length (bWarps h8 ws)) : Nat) : Int).toNat) else []))) ∧ (([] : List (Int × Bool)) = ([] : List (Int × Bool))) ∧ ((d3.1 ++ [d3.2]) = d4.1 ∧ false = false) ∧ True)) ∧ q3 d4)) ∧
      (y8 = false →
        ∃ (e7 : Unit) (d70 : (List (Int × Bool)) × Int × (List Int) × Int), ((mix = mix ∧ wh = wh ∧ (((List.length (bWarps h8 ws)) : Nat) : Int) = (((List.length (bWarps h8 ws)) : Nat) : Int) ∧ True ∧ True ∧ (if aloneErr (bDraw ds (((List.length (bWarps h8 ws)) : Nat) : Int).toNat) = 0 then crossingsI (bDraw ds (((List.length (bWarps h8 ws)) : Nat) : Int).toNat) else 0) = (if aloneErr (bDraw ds (((List.length (bWarps h8 ws)) : Nat) : Int).toNat) = 0 then crossingsI (bDraw ds (((List.length (bWarps h8 ws)) : Nat) : Int).toNat) else 0) ∧ True ∧ True ∧ (0 : Int) = d70.2.1 ∧ True ∧ (0 : Int) = d70.2.2.2 ∧ True) ∧ (((bDraw ds (((List.length (bWarps h8 ws)) : Nat) : Int).toNat) = (bDraw ds (((List.length (bWarps h8 ws)) : Nat) : Int).toNat) ∧ false = false) ∧ ((if aloneErr (bDraw ds (((List.length (bWarps h8 ws)) : Nat) : Int).toNat) = 0 then outW (bDraw ds (((List.length (bWarps h8 ws)) : Nat) : Int).toNat) else []) = (if aloneErr (bDraw ds (((List.length (bWarps h8 ws)) : Nat) : Int).toNat) = 0 then outW (bDraw ds (((List.length (bWarps h8 ws)) : Nat) : Int).toNat) else []) ∧ (List.isEmpty (if aloneErr (bDraw ds (((List.length (bWarps h8 ws)) : Nat) : Int).toNat) = 0 then outW (bDraw ds (((List.length (bWarps h8 ws)) : Nat) : Int).toNat) else [])) = (List.isEmpty (if aloneErr (bDraw ds (((List.length (bWarps h8 ws)) : Nat) : Int).toNat) = 0 then outW (bDraw ds (((List.length (bWarps h8 ws)) : Nat) : Int).toNat) else []))) ∧ ((if aloneErr (bDraw ds (((List.length (bWarps h8 ws)) : Nat) : Int).toNat) = 0 then layersW (bDraw ds (((List.length (bWarps h8 ws)) : Nat) : Int).toNat) else []) = (if aloneErr (bDraw ds (((List.length (bWarps h8 ws)) : Nat) : Int).toNat) = 0 then layersW (bDraw ds (((List.length (bWarps h8 ws)) : Nat) : Int).toNat) else []) ∧ (List.isEmpty (if aloneErr (bDraw ds (((List.length (bWarps h8 ws)) : Nat) : Int).toNat) = 0 then layersW (bDraw ds (((List.length (bWarps h8 ws)) : Nat) : Int).toNat) else [])) = (List.isEmpty (if aloneErr (bDraw ds (((List.length (bWarps h8 ws)) : Nat) : Int).toNat) = 0 then layersW (bDraw ds (((List.length (bWarps h8 ws)) : Nat) : Int).toNat) else []))) ∧ (([] : List (Int × Bool)) = d70.1) ∧ (d3.1 = d70.2.2.1 ∧ false = false) ∧ True)) ∧
        LoopP (fun (d7 : (List (Int × Bool)) × Int × (List Int) × Int) (q7 : ((List (Int × Bool)) × Int × (List Int) × Int) → Prop) =>
          ∀ (y209 : Bool), y209 = (decide (d7.2.2.2 < (((List.length (bWarps h8 ws)) : Nat) : Int))) → (y209 = true →
            ∀ (y210 : Bool), y210 = (decide (d7.2.2.2 < (((List.length mix) : Nat) : Int))) → (y210 = true →
              (0 ≤ d7.2.2.2) ∧ (d7.2.2.2 < (List.length mix)) ∧ ∀ (y211 : Int), y211 = (List.getD mix (Int.toNat d7.2.2.2) 0) → (InK .i64 y211) ∧ (InK .i64 ((((List.length (bWarps h8 ws)) : Nat) : Int) - d7.2.2.2)) ∧ (((((List.length (bWarps h8 ws)) : Nat) : Int) - d7.2.2.2) ≠ 0) ∧ ∀ (y212 : Int), y212 = (Int.tmod y211 ((((List.length (bWarps h8 ws)) : Nat) : Int) - d7.2.2.2)) → (InK .i64 (d7.2.2.2 + y212)) ∧ (0 ≤ d7.2.2.2) ∧ (d7.2.2.2 < (List.length d7.2.2.1)) ∧ ∀ (y213 : Int), y213 = (List.getD d7.2.2.1 (Int.toNat d7.2.2.2) 0) → (0 ≤ (d7.2.2.2 + y212)) ∧ ((d7.2.2.2 + y212) < (List.length d7.2.2.1)) ∧ ∀ (y214 : Int), y214 = (List.getD d7.2.2.1 (Int.toNat (d7.2.2.2 + y212)) 0) → (0 ≤ d7.2.2.2) ∧ (d7.2.2.2 < (List.length d7.2.2.1)) ∧ (0 ≤ (d7.2.2.2 + y212)) ∧ ((d7.2.2.2 + y212) < (List.length (List.set d7.2.2.1 (Int.toNat d7.2.2.2) y214))) ∧ (0 ≤ d7.2.2.2) ∧ (d7.2.2.2 < (List.length (List.set (List.set d7.2.2.1 (Int.toNat d7.2.2.2) y214) (Int.toNat (d7.2.2.2 + y212)) y213))) ∧ ∀ (y215 : Int), y215 = (List.getD (List.set (List.set d7.2.2.1 (Int.toNat d7.2.2.2) y214) (Int.toNat (d7.2.2.2 + y212)) y213) (Int.toNat d7.2.2.2) 0) → (0 ≤ y215) ∧ (y215 < (List.length (bDraw ds (((List.length (bWarps h8 ws)) : Nat) : Int).toNat))) ∧ ∀ (y216 : Int), y216 = (List.getD (bDraw ds (((List.length (bWarps h8 ws)) : Nat) : Int).toNat) (Int.toNat y215) 0) → ∀ (y217 : Bool), y217 = (decide (y216 < (0 : Int))) → (y217 = true →
                (InK .i64 (d7.2.2.2 + (1 : Int))) ∧ (∃ d8 : (List (Int × Bool)) × Int × (List Int) × Int, ((mix = mix ∧ wh = wh ∧ (((List.length (bWarps h8 ws)) : Nat) : Int) = (((List.length (bWarps h8 ws)) : Nat) : Int) ∧ True ∧ True ∧ (if aloneErr (bDraw ds (((List.length (bWarps h8 ws)) : Nat) : Int).toNat) = 0 then crossingsI (bDraw ds (((List.length (bWarps h8 ws)) : Nat) : Int).toNat) else 0) = (if aloneErr (bDraw ds (((List.length (bWarps h8 ws)) : Nat) : Int).toNat) = 0 then crossingsI (bDraw ds (((List.length (bWarps h8 ws)) : Nat) : Int).toNat) else 0) ∧ True ∧ True ∧ d7.2.1 = d8.2.1 ∧ True ∧ (d7.2.2.2 + (1 : Int)) = d8.2.2.2 ∧ True) ∧ (((bDraw ds (((List.length (bWarps h8 ws)) : Nat) : Int).toNat) = (bDraw ds (((List.length (bWarps h8 ws)) : Nat) : Int).toNat) ∧ false = false) ∧ ((if aloneErr (bDraw ds (((List.length (bWarps h8 ws)) : Nat) : Int).toNat) = 0 then outW (bDraw ds (((List.length (bWarps h8 ws)) : Nat) : Int).toNat) else []) = (if aloneErr (bDraw ds (((List.length (bWarps h8 ws)) : Nat) : Int).toNat) = 0 then outW (bDraw ds (((List.length (bWarps h8 ws)) : Nat) : Int).toNat) else []) ∧ (List.isEmpty (if aloneErr (bDraw ds (((List.length (bWarps h8 ws)) : Nat) : Int).toNat) = 0 then outW (bDraw ds (((List.length (bWarps h8 ws)) : Nat) : Int).toNat) else [])) = (List.isEmpty (if aloneErr (bDraw ds (((List.length (bWarps h8 ws)) : Nat) : Int).toNat) = 0 then outW (bDraw ds (((List.length (bWarps h8 ws)) : Nat) : Int).toNat) else []))) ∧ ((if aloneErr (bDraw ds (((List.length (bWarps h8 ws)) : Nat) : Int).toNat) = 0 then layersW (bDraw ds (((List.length (bWarps h8 ws)) : Nat) : Int).toNat) else []) = (if aloneErr (bDraw ds (((List.length (bWarps h8 ws)) : Nat) : Int).toNat) = 0 then layersW (bDraw ds (((List.length (bWarps h8 ws)) : Nat) : Int).toNat) else []) ∧ (List.isEmpty (if aloneErr (bDraw ds (((List.length (bWarps h8 ws)) : Nat) : Int).toNat) = 0 then layersW (bDraw ds (((List.length (bWarps h8 ws)) : Nat) : Int).toNat) else [])) = (List.isEmpty (if aloneErr (bDraw ds (((List.length (bWarps h8 ws)) : Nat) : Int).toNat) = 0 then layersW (bDraw ds (((List.length (bWarps h8 ws)) : Nat) : Int).toNat) else []))) ∧ (d7.1 = d8.1) ∧ ((List.set (List.set d7.2.2.1 (Int.toNat d7.2.2.2) y214) (Int.toNat (d7.2.2.2 + y212)) y213) = d8.2.2.1 ∧ false = false) ∧ True)) ∧ q7 d8)) ∧
              (y217 = false →
                ∃ (e11 : (List (Int × Bool)) × Int × (List Int) × Int × Int) (d110 : Bool × Int), ((mix = mix ∧ wh = wh ∧ (((List.length (bWarps h8 ws)) : Nat) : Int) = (((List.length (bWarps h8 ws)) : Nat) : Int) ∧ True ∧ True ∧ (if aloneErr (bDraw ds (((List.length (bWarps h8 ws)) : Nat) : Int).toNat) = 0 then crossingsI (bDraw ds (((List.length (bWarps h8 ws)) : Nat) : Int).toNat) else 0) = (if aloneErr (bDraw ds (((List.length (bWarps h8 ws)) : Nat) : Int).toNat) = 0 then crossingsI (bDraw ds (((List.length (bWarps h8 ws)) : Nat) : Int).toNat) else 0) ∧ True ∧ True ∧ d7.2.1 = e11.2.1 ∧ True ∧ d7.2.2.2 = e11.2.2.2.1 ∧ y215 = e11.2.2.2.2 ∧ true = d110.1 ∧ (0 : Int) = d110.2 ∧ True) ∧ (((bDraw ds (((List.length (bWarps h8 ws)) : Nat) : Int).toNat) = (bDraw ds (((List.length (bWarps h8 ws)) : Nat) : Int).toNat) ∧ false = false) ∧ ((if aloneErr (bDraw ds (((List.length (bWarps h8 ws)) : Nat) : Int).toNat) = 0 then outW (bDraw ds (((List.length (bWarps h8 ws)) : Nat) : Int).toNat) else []) = (if aloneErr (bDraw ds (((List.length (bWarps h8 ws)) : Nat) : Int).toNat) = 0 then outW (bDraw ds (((List.length (bWarps h8 ws)) : Nat) : Int).toNat) else []) ∧ (List.isEmpty (if aloneErr (bDraw ds (((List.length (bWarps h8 ws)) : Nat) : Int).toNat) = 0 then outW (bDraw ds (((List.length (bWarps h8 ws)) : Nat) : Int).toNat) else [])) = (List.isEmpty (if aloneErr (bDraw ds (((List.length (bWarps h8 ws)) : Nat) : Int).toNat) = 0 then outW (bDraw ds (((List.length (bWarps h8 ws)) : Nat) : Int).toNat) else []))) ∧ ((if aloneErr (bDraw ds (((List.length (bWarps h8 ws)) : Nat) : Int).toNat) = 0 then layersW (bDraw ds (((List.length (bWarps h8 ws)) : Nat) : Int).toNat) else []) = (if aloneErr (bDraw ds (((List.length (bWarps h8 ws)) : Nat) : Int).toNat) = 0 then layersW (bDraw ds (((List.length (bWarps h8 ws)) : Nat) : Int).toNat) else []) ∧ (List.isEmpty (if aloneErr (bDraw ds (((List.length (bWarps h8 ws)) : Nat) : Int).toNat) = 0 then layersW (bDraw ds (((List.length (bWarps h8 ws)) : Nat) : Int).toNat) else [])) = (List.isEmpty (if aloneErr (bDraw ds (((List.length (bWarps h8 ws)) : Nat) : Int).toNat) = 0 then layersW (bDraw ds (((List.length (bWarps h8 ws)) : Nat) : Int).toNat) else []))) ∧ (d7.1 = e11.1) ∧ ((List.set (List.set d7.2.2.1 (Int.toNat d7.2.2.2) y214) (Int.toNat (d7.2.2.2 + y212)) y213) = e11.2.2.1 ∧ false = false) ∧ True)) ∧
                LoopP (fun (d11 : Bool × Int) (q11 : (Bool × Int) → Prop) =>
                  ∀ (y246 : Bool), y246 = (decide (d11.2 < (((List.length (bWarps h8 ws)) : Nat) : Int))) → (y246 = true →
                    ∀ (y247 : Bool), y247 = (gq.aget (.i .i64) e11.1 d11.2 false) → ∀ (y248 : Bool), y248 = (decide (d11.2 < e11.2.2.2.2)) → (y247 = true → y248 = true → 0 ≤ d11.2) ∧ (y247 = true → y248 = true → d11.2 < (List.length (bDraw ds (((List.length (bWarps h8 ws)) : Nat) : Int).toNat))) ∧ ∀ (y249 : Int), y249 = (List.getD (bDraw ds (((List.length (bWarps h8 ws)) : Nat) : Int).toNat) (Int.toNat d11.2) 0) → (y247 = true → y248 = true → 0 ≤ e11.2.2.2.2) ∧ (y247 = true → y248 = true → e11.2.2.2.2 < (List.length (bDraw ds (((List.length (bWarps h8 ws)) : Nat) : Int).toNat))) ∧ ∀ (y250 : Int), y250 = (List.getD (bDraw ds (((List.length (bWarps h8 ws)) : Nat) : Int).toNat) (Int.toNat e11.2.2.2.2) 0) → ∀ (y251 : Bool), y251 = (decide (y249 ≥ y250)) → ∀ (y252 : Bool), y252 = (y248 && y251) → ∀ (y253 : Bool), y253 = (decide (d11.2 > e11.2.2.2.2)) → (y247 = true → y252 = false → y253 = true → 0 ≤ e11.2.2.2.2) ∧ (y247 = true → y252 = false → y253 = true → e11.2.2.2.2 < (List.length (bDraw ds (((List.length (bWarps h8 ws)) : Nat) : Int).toNat))) ∧ ∀ (y254 : Int), y254 = (List.getD (bDraw ds (((List.length (bWarps h8 ws)) : Nat) : Int).toNat) (Int.toNat e11.2.2.2.2) 0) → (y247 = true → y252 = false → y253 = true → 0 ≤ d11.2) ∧ (y247 = true → y252 = false → y253 = true → d11.2 < (List.length (bDraw ds (((List.length (bWarps h8 ws)) : Nat) : Int).toNat))) ∧ ∀ (y255 : Int), y255 = (List.getD (bDraw ds (((List.length (bWarps h8 ws)) : Nat) : Int).toNat) (Int.toNat d11.2) 0) → ∀ (y256 : Bool), y256 = (decide (y254 ≥ y255)) → ∀ (y257 : Bool), y257 = (y253 && y256) → ∀ (y258 : Bool), y258 = (y252 || y257) → ∀ (y259 : Bool), y259 = (y247 && y258) → (y259 = true →
                      (InK .i64 (d11.2 + (1 : Int))) ∧ (∃ d12 : Bool × Int, ((mix = mix ∧ wh = wh ∧ (((List.length (bWarps h8 ws)) : Nat) : Int) = (((List.length (bWarps h8 ws)) : Nat) : Int) ∧ True ∧ True ∧ (if aloneErr (bDraw ds (((List.length (bWarps h8 ws)) : Nat) : Int).toNat) = 0 then crossingsI (bDraw ds (((List.length (bWarps h8 ws)) : Nat) : Int).toNat) else 0) = (if aloneErr (bDraw ds (((List.length (bWarps h8 ws)) : Nat) : Int).toNat) = 0 then crossingsI (bDraw ds (((List.length (bWarps h8 ws)) : Nat) : Int).toNat) else 0) ∧ True ∧ True ∧ e11.2.1 = e11.2.1 ∧ True ∧ e11.2.2.2.1 = e11.2.2.2.1 ∧ e11.2.2.2.2 = e11.2.2.2.2 ∧ false = d12.1 ∧ (d11.2 + (1 : Int)) = d12.2 ∧ True) ∧ (((bDraw ds (((List.length (bWarps h8 ws)) : Nat) : Int).toNat) = (bDraw ds (((List.length (bWarps h8 ws)) : Nat) : Int).toNat) ∧ false = false) ∧ ((if aloneErr (bDraw ds (((List.length (bWarps h8 ws)) : Nat) : Int).toNat) = 0 then outW (bDraw ds (((List.length (bWarps h8 ws)) : Nat) : Int).toNat) else []) = (if aloneErr (bDraw ds (((List.length (bWarps h8 ws)) : Nat) : Int).toNat) = 0 then outW (bDraw ds (((List.length (bWarps h8 ws)) : Nat) : Int).toNat) else []) ∧ (List.isEmpty (if aloneErr (bDraw ds (((List.length (bWarps h8 ws)) : Nat) : Int).toNat) = 0 then outW (bDraw ds (((List.length (bWarps h8 ws)) : Nat) : Int).toNat) else [])) = (List.isEmpty (if aloneErr (bDraw ds (((List.length (bWarps h8 ws)) : Nat) : Int).toNat) = 0 then outW (bDraw ds (((List.length (bWarps h8 ws)) : Nat) : Int).toNat) else []))) ∧ ((if aloneErr (bDraw ds (((List.length (bWarps h8 ws)) : Nat) : Int).toNat) = 0 then layersW (bDraw ds (((List.length (bWarps h8 ws)) : Nat) : Int).toNat) else []) = (if aloneErr (bDraw ds (((List.length (bWarps h8 ws)) : Nat) : Int).toNat) = 0 then layersW (bDraw ds (((List.length (bWarps h8 ws)) : Nat) : Int).toNat) else []) ∧ (List.isEmpty (if aloneErr (bDraw ds (((List.length (bWarps h8 ws)) : Nat) : Int).toNat) = 0 then layersW (bDraw ds (((List.length (bWarps h8 ws)) : Nat) : Int).toNat) else [])) = (List.isEmpty (if aloneErr (bDraw ds (((List.length (bWarps h8 ws)) : Nat) : Int).toNat) = 0 then layersW (bDraw ds (((List.length (bWarps h8 ws)) : Nat) : Int).toNat) else []))) ∧ (e11.1 = e11.1) ∧ (e11.2.2.1 = e11.2.2.1 ∧ false = false) ∧ True)) ∧ q11 d12)) ∧
                    (y259 = false →
                      (InK .i64 (d11.2 + (1 : Int))) ∧ (∃ d13 : Bool × Int, ((mix = mix ∧ wh = wh ∧ (((List.length (bWarps h8 ws)) : Nat) : Int) = (((List.length (bWarps h8 ws)) : Nat) : Int) ∧ True ∧ True ∧ (if aloneErr (bDraw ds (((List.length (bWarps h8 ws)) : Nat) : Int).toNat) = 0 then crossingsI (bDraw ds (((List.length (bWarps h8 ws)) : Nat) : Int).toNat) else 0) = (if aloneErr (bDraw ds (((List.length (bWarps h8 ws)) : Nat) : Int).toNat) = 0 then crossingsI (bDraw ds (((List.length (bWarps h8 ws)) : Nat) : Int).toNat) else 0) ∧ True ∧ True ∧ e11.2.1 = e11.2.1 ∧ True ∧ e11.2.2.2.1 = e11.2.2.2.1 ∧ e11.2.2.2.2 = e11.2.2.2.2 ∧ d11.1 = d13.1 ∧ (d11.2 + (1 : Int)) = d13.2 ∧ True) ∧ (((bDraw ds (((List.length (bWarps h8 ws)) : Nat) : Int).toNat) = (bDraw ds (((List.length (bWarps h8 ws)) : Nat) : Int).toNat) ∧ false = false) ∧ ((if aloneErr (bDraw ds (((List.length (bWarps h8 ws)) : Nat) : Int).toNat) = 0 then outW (bDraw ds (((List.length (bWarps h8 ws)) : Nat) : Int).toNat) else []) = (if aloneErr (bDraw ds (((List.length (bWarps h8 ws)) : Nat) : Int).toNat) = 0 then outW (bDraw ds (((List.length (bWarps h8 ws)) : Nat) : Int).toNat) else []) ∧ (List.isEmpty (if aloneErr (bDraw ds (((List.length (bWarps h8 ws)) : Nat) : Int).toNat) = 0 then outW (bDraw ds (((List.length (bWarps h8 ws)) : Nat) : Int).toNat) else [])) = (List.isEmpty (if aloneErr (bDraw ds (((List.length (bWarps h8 ws)) : Nat) : Int).toNat) = 0 then outW (bDraw ds (((List.length (bWarps h8 ws)) : Nat) : Int).toNat) else []))) ∧ ((if aloneErr (bDraw ds (((List.length (bWarps h8 ws)) : Nat) : Int).toNat) = 0 then layersW (bDraw ds (((List.length (bWarps h8 ws)) : Nat) : Int).toNat) else []) = (if aloneErr (bDraw ds (((List.length (bWarps h8 ws)) : Nat) : Int).toNat) = 0 then layersW (bDraw ds (((List.length (bWarps h8 ws)) : Nat) : Int).toNat) else []) ∧ (List.isEmpty (if aloneErr (bDraw ds (((List.length (bWarps h8 ws)) : Nat) : Int).toNat) = 0 then layersW (bDraw ds (((List.length (bWarps h8 ws)) : Nat) : Int).toNat) else [])) = (List.isEmpty (if aloneErr (bDraw ds (((List.length (bWarps h8 ws)) : Nat) : Int).toNat) = 0 then layersW (bDraw ds (((List.length (bWarps h8 ws)) : Nat) : Int).toNat) else []))) ∧ (e11.1 = e11.1) ∧ (e11.2.2.1 = e11.2.2.1 ∧ false = false) ∧ True)) ∧ q11 d13))) ∧
                  (y246 = false →
                    ∀ (y260 : Bool), y260 = (!d11.1) → (y260 = true →
                      (InK .i64 (e11.2.1 + (1 : Int))) ∧ (InK .i64 (e11.2.2.2.1 + (1 : Int))) ∧ (∃ d14 : (List (Int × Bool)) × Int × (List Int) × Int, ((mix = mix ∧ wh = wh ∧ (((List.length (bWarps h8 ws)) : Nat) : Int) = (((List.length (bWarps h8 ws)) : Nat) : Int) ∧ True ∧ True ∧ (if aloneErr (bDraw ds (((List.length (bWarps h8 ws)) : Nat) : Int).toNat) = 0 then crossingsI (bDraw ds (((List.length (bWarps h8 ws)) : Nat) : Int).toNat) else 0) = (if aloneErr (bDraw ds (((List.length (bWarps h8 ws)) : Nat) : Int).toNat) = 0 then crossingsI (bDraw ds (((List.length (bWarps h8 ws)) : Nat) : Int).toNat) else 0) ∧ True ∧ True ∧ (e11.2.1 + (1 : Int)) = d14.2.1 ∧ True ∧ (e11.2.2.2.1 + (1 : Int)) = d14.2.2.2 ∧ True) ∧ (((bDraw ds (((List.length (bWarps h8 ws)) : Nat) : Int).toNat) = (bDraw ds (((List.length (bWarps h8 ws)) : Nat) : Int).toNat) ∧ false = false) ∧ ((if aloneErr (bDraw ds (((List.length (bWarps h8 ws)) : Nat) : Int).toNat) = 0 then outW (bDraw ds (((List.length (bWarps h8 ws)) : Nat) : Int).toNat) else []) = (if aloneErr (bDraw ds (((List.length (bWarps h8 ws)) : Nat) : Int).toNat) = 0 then outW (bDraw ds (((List.length (bWarps h8 ws)) : Nat) : Int).toNat) else []) ∧ (List.isEmpty (if aloneErr (bDraw ds (((List.length (bWarps h8 ws)) : Nat) : Int).toNat) = 0 then outW (bDraw ds (((List.length (bWarps h8 ws)) : Nat) : Int).toNat) else [])) = (List.isEmpty (if aloneErr (bDraw ds (((List.length (bWarps h8 ws)) : Nat) : Int).toNat) = 0 then outW (bDraw ds (((List.length (bWarps h8 ws)) : Nat) : Int).toNat) else []))) ∧ ((if aloneErr (bDraw ds (((List.length (bWarps h8 ws)) : Nat) : Int).toNat) = 0 then layersW (bDraw ds (((List.length (bWarps h8 ws)) : Nat) : Int).toNat) else []) = (if aloneErr (bDraw ds (((List.length (bWarps h8 ws)) : Nat) : Int).toNat) = 0 then layersW (bDraw ds (((List.length (bWarps h8 ws)) : Nat) : Int).toNat) else []) ∧ (List.isEmpty (if aloneErr (bDraw ds (((List.length (bWarps h8 ws)) : Nat) : Int).toNat) = 0 then layersW (bDraw ds (((List.length (bWarps h8 ws)) : Nat) : Int).toNat) else [])) = (List.isEmpty (if aloneErr (bDraw ds (((List.length (bWarps h8 ws)) : Nat) : Int).toNat) = 0 then layersW (bDraw ds (((List.length (bWarps h8 ws)) : Nat) : Int).toNat) else []))) ∧ ((aput (.i .i64) e11.1 e11.2.2.2.2 d11.1) = d14.1) ∧ (e11.2.2.1 = d14.2.2.1 ∧ false = false) ∧ True)) ∧ q7 d14)) ∧
                    (y260 = false →
                      (InK .i64 (e11.2.2.2.1 + (1 : Int))) ∧ (∃ d15 : (List (Int × Bool)) × Int × (List Int) × Int, ((mix = mix ∧ wh = wh ∧ (((List.length (bWarps h8 ws)) : Nat) : Int) = (((List.length (bWarps h8 ws)) : Nat) : Int) ∧ True ∧ True ∧ (if aloneErr (bDraw ds (((List.length (bWarps h8 ws)) : Nat) : Int).toNat) = 0 then crossingsI (bDraw ds (((List.length (bWarps h8 ws)) : Nat) : Int).toNat) else 0) = (if aloneErr (bDraw ds (((List.length (bWarps h8 ws)) : Nat) : Int).toNat) = 0 then crossingsI (bDraw ds (((List.length (bWarps h8 ws)) : Nat) : Int).toNat) else 0) ∧ True ∧ True ∧ e11.2.1 = d15.2.1 ∧ True ∧ (e11.2.2.2.1 + (1 : Int)) = d15.2.2.2 ∧ True) ∧ (((bDraw ds (((List.length (bWarps h8 ws)) : Nat) : Int).toNat) = (bDraw ds (((List.length (bWarps h8 ws)) : Nat) : Int).toNat) ∧ false = false) ∧ ((if aloneErr (bDraw ds (((List.length (bWarps h8 ws)) : Nat) : Int).toNat) = 0 then outW (bDraw ds (((List.length (bWarps h8 ws)) : Nat) : Int).toNat) else []) = (if aloneErr (bDraw ds (((List.length (bWarps h8 ws)) : Nat) : Int).toNat) = 0 then outW (bDraw ds (((List.length (bWarps h8 ws)) : Nat) : Int).toNat) else []) ∧ (List.isEmpty (if aloneErr (bDraw ds (((List.length (bWarps h8 ws)) : Nat) : Int).toNat) = 0 then outW (bDraw ds (((List.length (bWarps h8 ws)) : Nat) : Int).toNat) else [])) = (List.isEmpty (if aloneErr (bDraw ds (((List.length (bWarps h8 ws)) : Nat) : Int).toNat) = 0 then outW (bDraw ds (((List.length (bWarps h8 ws)) : Nat) : Int).toNat) else []))) ∧ ((if aloneErr (bDraw ds (((List.length (bWarps h8 ws)) : Nat) : Int).toNat) = 0 then layersW (bDraw ds (((List.length (bWarps h8 ws)) : Nat) : Int).toNat) else []) = (if aloneErr (bDraw ds (((List.length (bWarps h8 ws)) : Nat) : Int).toNat) = 0 then layersW (bDraw ds (((List.length (bWarps h8 ws)) : Nat) : Int).toNat) else []) ∧ (List.isEmpty (if aloneErr (bDraw ds (((List.length (bWarps h8 ws)) : Nat) : Int).toNat) = 0 then layersW (bDraw ds (((List.length (bWarps h8 ws)) : Nat) : Int).toNat) else [])) = (List.isEmpty (if aloneErr (bDraw ds (((List.length (bWarps h8 ws)) : Nat) : Int).toNat) = 0 then layersW (bDraw ds (((List.length (bWarps h8 ws)) : Nat) : Int).toNat) else []))) ∧ ((aput (.i .i64) e11.1 e11.2.2.2.2 d11.1) = d15.1) ∧ (e11.2.2.1 = d15.2.2.1 ∧ false = false) ∧ True)) ∧ q7 d15)))) d110)) ∧
            (y210 = false →
              (0 ≤ d7.2.2.2) ∧ (d7.2.2.2 < (List.length d7.2.2.1)) ∧ ∀ (y261 : Int), y261 = (List.getD d7.2.2.1 (Int.toNat d7.2.2.2) 0) → (0 ≤ d7.2.2.2) ∧ (d7.2.2.2 < (List.length d7.2.2.1)) ∧ ∀ (y262 : Int), y262 = (List.getD d7.2.2.1 (Int.toNat d7.2.2.2) 0) → (0 ≤ d7.2.2.2) ∧ (d7.2.2.2 < (List.length d7.2.2.1)) ∧ (0 ≤ d7.2.2.2) ∧ (d7.2.2.2 < (List.length (List.set d7.2.2.1 (Int.toNat d7.2.2.2) y262))) ∧ (0 ≤ d7.2.2.2) ∧ (d7.2.2.2 < (List.length (List.set (List.set d7.2.2.1 (Int.toNat d7.2.2.2) y262) (Int.toNat d7.2.2.2) y261))) ∧ ∀ (y263 : Int), y263 = (List.getD (List.set (List.set d7.2.2.1 (Int.toNat d7.2.2.2) y262) (Int.toNat d7.2.2.2) y261) (Int.toNat d7.2.2.2) 0) → (0 ≤ y263) ∧ (y263 < (List.length (bDraw ds (((List.length (bWarps h8 ws)) : Nat) : Int).toNat))) ∧ ∀ (y264 : Int), y264 = (List.getD (bDraw ds (((List.length (bWarps h8 ws)) : Nat) : Int).toNat) (Int.toNat y263) 0) → ∀ (y265 : Bool), y265 = (decide (y264 < (0 : Int))) → (y265 = true →
                (InK .i64 (d7.2.2.2 + (1 : Int))) ∧ (∃ d16 : (List (Int × Bool)) × Int × (List Int) × Int, ((mix = mix ∧ wh = wh ∧ (((List.length (bWarps h8 ws)) : Nat) : Int) = (((List.length (bWarps h8 ws)) : Nat) : Int) ∧ True ∧ True ∧ (if aloneErr (bDraw ds (((List.length (bWarps h8 ws)) : Nat) : Int).toNat) = 0 then crossingsI (bDraw ds (((List.length (bWarps h8 ws)) : Nat) : Int).toNat) else 0) = (if aloneErr (bDraw ds (((List.length (bWarps h8 ws)) : Nat) : Int).toNat) = 0 then crossingsI (bDraw ds (((List.length (bWarps h8 ws)) : Nat) : Int).toNat) else 0) ∧ True ∧ True ∧ d7.2.1 = d16.2.1 ∧ True ∧ (d7.2.2.2 + (1 : Int)) = d16.2.2.2 ∧ True) ∧ (((bDraw ds (((List.length (bWarps h8 ws)) : Nat) : Int).toNat) = (bDraw ds (((List.length (bWarps h8 ws)) : Nat) : Int).toNat) ∧ false = false) ∧ ((if aloneErr (bDraw ds (((List.length (bWarps h8 ws)) : Nat) : Int).toNat) = 0 then outW (bDraw ds (((List.length (bWarps h8 ws)) : Nat) : Int).toNat) else []) = (if aloneErr (bDraw ds (((List.length (bWarps h8 ws)) : Nat) : Int).toNat) = 0 then outW (bDraw ds (((List.length (bWarps h8 ws)) : Nat) : Int).toNat) else []) ∧ (List.isEmpty (if aloneErr (bDraw ds (((List.length (bWarps h8 ws)) : Nat) : Int).toNat) = 0 then outW (bDraw ds (((List.length (bWarps h8 ws)) : Nat) : Int).toNat) else [])) = (List.isEmpty (if aloneErr (bDraw ds (((List.length (bWarps h8 ws)) : Nat) : Int).toNat) = 0 then outW (bDraw ds (((List.length (bWarps h8 ws)) : Nat) : Int).toNat) else []))) ∧ ((if aloneErr (bDraw ds (((List.length (bWarps h8 ws)) : Nat) : Int).toNat) = 0 then layersW (bDraw ds (((List.length (bWarps h8 ws)) : Nat) : Int).toNat) else []) = (if aloneErr (bDraw ds (((List.length (bWarps h8 ws)) : Nat) : Int).toNat) = 0 then layersW (bDraw ds (((List.length (bWarps h8 ws)) : Nat) : Int).toNat) else []) ∧ (List.isEmpty (if aloneErr (bDraw ds (((List.length (bWarps h8 ws)) : Nat) : Int).toNat) = 0 then layersW (bDraw ds (((List.length (bWarps h8 ws)) : Nat) : Int).toNat) else [])) = (List.isEmpty (if aloneErr (bDraw ds (((List.length (bWarps h8 ws)) : Nat) : Int).toNat) = 0 then layersW (bDraw ds (((List.length (bWarps h8 ws)) : Nat) : Int).toNat) else []))) ∧ (d7.1 = d16.1) ∧ ((List.set (List.set d7.2.2.1 (Int.toNat d7.2.2.2) y262) (Int.toNat d7.2.2.2) y261) = d16.2.2.1 ∧ false = false) ∧ True)) ∧ q7 d16)) ∧
              (y265 = false →
                ∃ (e19 : (List (Int × Bool)) × Int × (List Int) × Int × Int) (d190 : Bool × Int), ((mix = mix ∧ wh = wh ∧ (((List.length (bWarps h8 ws)) : Nat) : Int) = (((List.length (bWarps h8 ws)) : Nat) : Int) ∧ True ∧ True ∧ (if aloneErr (bDraw ds (((List.length (bWarps h8 ws)) : Nat) : Int).toNat) = 0 then crossingsI (bDraw ds (((List.length (bWarps h8 ws)) : Nat) : Int).toNat) else 0) = (if aloneErr (bDraw ds (((List.length (bWarps h8 ws)) : Nat) : Int).toNat) = 0 then crossingsI (bDraw ds (((List.length (bWarps h8 ws)) : Nat) : Int).toNat) else 0) ∧ True ∧ True ∧ d7.2.1 = e19.2.1 ∧ True ∧ d7.2.2.2 = e19.2.2.2.1 ∧ y263 = e19.2.2.2.2 ∧ true = d190.1 ∧ (0 : Int) = d190.2 ∧ True) ∧ (((bDraw ds (((List.length (bWarps h8 ws)) : Nat) : Int).toNat) = (bDraw ds (((List.length (bWarps h8 ws)) : Nat) : Int).toNat) ∧ false = false) ∧ ((if aloneErr (bDraw ds (((List.length (bWarps h8 ws)) : Nat) : Int).toNat) = 0 then outW (bDraw ds (((List.length (bWarps h8 ws)) : Nat) : Int).toNat) else []) = (if aloneErr (bDraw ds (((List.length (bWarps h8 ws)) : Nat) : Int).toNat) = 0 then outW (bDraw ds (((List.length (bWarps h8 ws)) : Nat) : Int).toNat) else []) ∧ (List.isEmpty (if aloneErr (bDraw ds (((List.length (bWarps h8 ws)) : Nat) : Int).toNat) = 0 then outW (bDraw ds (((List.length (bWarps h8 ws)) : Nat) : Int).toNat) else [])) = (List.isEmpty (if aloneErr (bDraw ds (((List.length (bWarps h8 ws)) : Nat) : Int).toNat) = 0 then outW (bDraw ds (((List.length (bWarps h8 ws)) : Nat) : Int).toNat) else []))) ∧ ((if aloneErr (bDraw ds (((List.length (bWarps h8 ws)) : Nat) : Int).toNat) = 0 then layersW (bDraw ds (((List.length (bWarps h8 ws)) : Nat) : Int).toNat) else []) = (if aloneErr (bDraw ds (((List.length (bWarps h8 ws)) : Nat) : Int).toNat) = 0 then layersW (bDraw ds (((List.length (bWarps h8 ws)) : Nat) : Int).toNat) else []) ∧ (List.isEmpty (if aloneErr (bDraw ds (((List.length (bWarps h8 ws)) : Nat) : Int).toNat) = 0 then layersW (bDraw ds (((List.length (bWarps h8 ws)) : Nat) : Int).toNat) else [])) = (List.isEmpty (if aloneErr (bDraw ds (((List.length (bWarps h8 ws)) : Nat) : Int).toNat) = 0 then layersW (bDraw ds (((List.length (bWarps h8 ws)) : Nat) : Int).toNat) else []))) ∧ (d7.1 = e19.1) ∧ ((List.set (List.set d7.2.2.1 (Int.toNat d7.2.2.2) y262) (Int.toNat d7.2.2.2) y261) = e19.2.2.1 ∧ false = false) ∧ True)) ∧
                LoopP (fun (d19 : Bool × Int) (q19 : (Bool × Int) → Prop) =>
                  ∀ (y294 : Bool), y294 = (decide (d19.2 < (((List.length (bWarps h8 ws)) : Nat) : Int))) → (y294 = true →
                    ∀ (y295 : Bool), y295 = (gq.aget (.i .i64) e19.1 d19.2 false) → ∀ (y296 : Bool), y296 = (decide (d19.2 < e19.2.2.2.2)) → (y295 = true → y296 = true → 0 ≤ d19.2) ∧ (y295 = true → y296 = true → d19.2 < (List.length (bDraw ds (((List.length (bWarps h8 ws)) : Nat) : Int).toNat))) ∧ ∀ (y297 : Int), y297 = (List.getD (bDraw ds (((List.length (bWarps h8 ws)) : Nat) : Int).toNat) (Int.toNat d19.2) 0) → (y295 = true → y296 = true → 0 ≤ e19.2.2.2.2) ∧ (y295 = true → y296 = true → e19.2.2.2.2 < (List.length (bDraw ds (((List.length (bWarps h8 ws)) : Nat) : Int).toNat))) ∧ ∀ (y298 : Int), y298 = (List.getD (bDraw ds (((List.length (bWarps h8 ws)) : Nat) : Int).toNat) (Int.toNat e19.2.2.2.2) 0) → ∀ (y299 : Bool), y299 = (decide (y297 ≥ y298)) → ∀ (y300 : Bool), y300 = (y296 && y299) → ∀ (y301 : Bool), y301 = (decide (d19.2 > e19.2.2.2.2)) → (y295 = true → y300 = false → y301 = true → 0 ≤ e19.2.2.2.2) ∧ (y295 = true → y300 = false → y301 = true → e19.2.2.2.2 < (List.length (bDraw ds (((List.length (bWarps h8 ws)) : Nat) : Int).toNat))) ∧ ∀ (y302 : Int), y302 = (List.getD (bDraw ds (((List.length (bWarps h8 ws)) : Nat) : Int).toNat) (Int.toNat e19.2.2.2.2) 0) → (y295 = true → y300 = false → y301 = true → 0 ≤ d19.2) ∧ (y295 = true → y300 = false → y301 = true → d19.2 < (List.length (bDraw ds (((List.length (bWarps h8 ws)) : Nat) : Int).toNat))) ∧ ∀ (y303 : Int), y303 = (List.getD (bDraw ds (((List.length (bWarps h8 ws)) : Nat) : Int).toNat) (Int.toNat d19.2) 0) → ∀ (y304 : Bool), y304 = (decide (y302 ≥ y303)) → ∀ (y305 : Bool), y305 = (y301 && y304) → ∀ (y306 : Bool), y306 = (y300 || y305) → ∀ (y307 : Bool), y307 = (y295 && y306) → (y307 = true →
                      (InK .i64 (d19.2 + (1 : Int))) ∧ (∃ d20 : Bool × Int, ((mix = mix ∧ wh = wh ∧ (((List.length (bWarps h8 ws)) : Nat) : Int) = (((List.length (bWarps h8 ws)) : Nat) : Int) ∧ True ∧ True ∧ (if aloneErr (bDraw ds (((List.length (bWarps h8 ws)) : Nat) : Int).toNat) = 0 then crossingsI (bDraw ds (((List.length (bWarps h8 ws)) : Nat) : Int).toNat) else 0) = (if aloneErr (bDraw ds (((List.length (bWarps h8 ws)) : Nat) : Int).toNat) = 0 then crossingsI (bDraw ds (((List.length (bWarps h8 ws)) : Nat) : Int).toNat) else 0) ∧ True ∧ True ∧ e19.2.1 = e19.2.1 ∧ True ∧ e19.2.2.2.1 = e19.2.2.2.1 ∧ e19.2.2.2.2 = e19.2.2.2.2 ∧ false = d20.1 ∧ (d19.2 + (1 : Int)) = d20.2 ∧ True) ∧ (((bDraw ds (((List.length (bWarps h8 ws)) : Nat) : Int).toNat) = (bDraw ds (((List.length (bWarps h8 ws)) : Nat) : Int).toNat) ∧ false = false) ∧ ((if aloneErr (bDraw ds (((List.length (bWarps h8 ws)) : Nat) : Int).toNat) = 0 then outW (bDraw ds (((List.length (bWarps h8 ws)) : Nat) : Int).toNat) else []) = (if aloneErr (bDraw ds (((List.length (bWarps h8 ws)) : Nat) : Int).toNat) = 0 then outW (bDraw ds (((List.length (bWarps h8 ws)) : Nat) : Int).toNat) else []) ∧ (List.isEmpty (if aloneErr (bDraw ds (((List.length (bWarps h8 ws)) : Nat) : Int).toNat) = 0 then outW (bDraw ds (((List.length (bWarps h8 ws)) : Nat) : Int).toNat) else [])) = (List.isEmpty (if aloneErr (bDraw ds (((List.length (bWarps h8 ws)) : Nat) : Int).toNat) = 0 then outW (bDraw ds (((List.length (bWarps h8 ws)) : Nat) : Int).toNat) else []))) ∧ ((if aloneErr (bDraw ds (((List.length (bWarps h8 ws)) : Nat) : Int).toNat) = 0 then layersW (bDraw ds (((List.length (bWarps h8 ws)) : Nat) : Int).toNat) else []) = (if aloneErr (bDraw ds (((List.length (bWarps h8 ws)) : Nat) : Int).toNat) = 0 then layersW (bDraw ds (((List.length (bWarps h8 ws)) : Nat) : Int).toNat) else []) ∧ (List.isEmpty (if aloneErr (bDraw ds (((List.length (bWarps h8 ws)) : Nat) : Int).toNat) = 0 then layersW (bDraw ds (((List.length (bWarps h8 ws)) : Nat) : Int).toNat) else [])) = (List.isEmpty (if aloneErr (bDraw ds (((List.length (bWarps h8 ws)) : Nat) : Int).toNat) = 0 then layersW (bDraw ds (((List.length (bWarps h8 ws)) : Nat) : Int).toNat) else []))) ∧ (e19.1 = e19.1) ∧ (e19.2.2.1 = e19.2.2.1 ∧ false = false) ∧ True)) ∧ q19 d20)) ∧
                    (y307 = false →
                      (InK .i64 (d19.2 + (1 : Int))) ∧ (∃ d21 : Bool × Int, ((mix = mix ∧ wh = wh ∧ (((List.length (bWarps h8 ws)) : Nat) : Int) = (((List.length (bWarps h8 ws)) : Nat) : Int) ∧ True ∧ True ∧ (if aloneErr (bDraw ds (((List.length (bWarps h8 ws)) : Nat) : Int).toNat) = 0 then crossingsI (bDraw ds (((List.length (bWarps h8 ws)) : Nat) : Int).toNat) else 0) = (if aloneErr (bDraw ds (((List.length (bWarps h8 ws)) : Nat) : Int).toNat) = 0 then crossingsI (bDraw ds (((List.length (bWarps h8 ws)) : Nat) : Int).toNat) else 0) ∧ True ∧ True ∧ e19.2.1 = e19.2.1 ∧ True ∧ e19.2.2.2.1 = e19.2.2.2.1 ∧ e19.2.2.2.2 = e19.2.2.2.2 ∧ d19.1 = d21.1 ∧ (d19.2 + (1 : Int)) = d21.2 ∧ True) ∧ (((bDraw ds (((List.length (bWarps h8 ws)) : Nat) : Int).toNat) = (bDraw ds (((List.length (bWarps h8 ws)) : Nat) : Int).toNat) ∧ false = false) ∧ ((if aloneErr (bDraw ds (((List.length (bWarps h8 ws)) : Nat) : Int).toNat) = 0 then outW (bDraw ds (((List.length (bWarps h8 ws)) : Nat) : Int).toNat) else []) = (if aloneErr (bDraw ds (((List.length (bWarps h8 ws)) : Nat) : Int).toNat) = 0 then outW (bDraw ds (((List.length (bWarps h8 ws)) : Nat) : Int).toNat) else []) ∧ (List.isEmpty (if aloneErr (bDraw ds (((List.length (bWarps h8 ws)) : Nat) : Int).toNat) = 0 then outW (bDraw ds (((List.length (bWarps h8 ws)) : Nat) : Int).toNat) else [])) = (List.isEmpty (if aloneErr (bDraw ds (((List.length (bWarps h8 ws)) : Nat) : Int).toNat) = 0 then outW (bDraw ds (((List.length (bWarps h8 ws)) : Nat) : Int).toNat) else []))) ∧ ((if aloneErr (bDraw ds (((List.length (bWarps h8 ws)) : Nat) : Int).toNat) = 0 then layersW (bDraw ds (((List.length (bWarps h8 ws)) : Nat) : Int).toNat) else []) = (if aloneErr (bDraw ds (((List.length (bWarps h8 ws)) : Nat) : Int).toNat) = 0 then layersW (bDraw ds (((List.length (bWarps h8 ws)) : Nat) : Int).toNat) else []) ∧ (List.isEmpty (if aloneErr (bDraw ds (((List.length (bWarps h8 ws)) : Nat) : Int).toNat) = 0 then layersW (bDraw ds (((List.length (bWarps h8 ws)) : Nat) : Int).toNat) else [])) = (List.isEmpty (if aloneErr (bDraw ds (((List.length (bWarps h8 ws)) : Nat) : Int).toNat) = 0 then layersW (bDraw ds (((List.length (bWarps h8 ws)) : Nat) : Int).toNat) else []))) ∧ (e19.1 = e19.1) ∧ (e19.2.2.1 = e19.2.2.1 ∧ false = false) ∧ True)) ∧ q19 d21))) ∧
                  (y294 = false →
                    ∀ (y308 : Bool), y308 = (!d19.1) → (y308 = true →
                      (InK .i64 (e19.2.1 + (1 : Int))) ∧ (InK .i64 (e19.2.2.2.1 + (1 : Int))) ∧ (∃ d22 : (List (Int × Bool)) × Int × (List Int) × Int, ((mix = mix ∧ wh = wh ∧ (((List.length (bWarps h8 ws)) : Nat) : Int) = (((List.length (bWarps h8 ws)) : Nat) : Int) ∧ True ∧ True ∧ (if aloneErr (bDraw ds (((List.length (bWarps h8 ws)) : Nat) : Int).toNat) = 0 then crossingsI (bDraw ds (((List.length (bWarps h8 ws)) : Nat) : Int).toNat) else 0) = (if aloneErr (bDraw ds (((List.length (bWarps h8 ws)) : Nat) : Int).toNat) = 0 then crossingsI (bDraw ds (((List.length (bWarps h8 ws)) : Nat) : Int).toNat) else 0) ∧ True ∧ True ∧ (e19.2.1 + (1 : Int)) = d22.2.1 ∧ True ∧ (e19.2.2.2.1 + (1 : Int)) = d22.2.2.2 ∧ True) ∧ (((bDraw ds (((List.length (bWarps h8 ws)) : Nat) : Int).toNat) = (bDraw ds (((List.length (bWarps h8 ws)) : Nat) : Int).toNat) ∧ false = false) ∧ ((if aloneErr (bDraw ds (((List.length (bWarps h8 ws)) : Nat) : Int).toNat) = 0 then outW (bDraw ds (((List.length (bWarps h8 ws)) : Nat) : Int).toNat) else []) = (if aloneErr (bDraw ds (((List.length (bWarps h8 ws)) : Nat) : Int).toNat) = 0 then outW (bDraw ds (((List.length (bWarps h8 ws)) : Nat) : Int).toNat) else []) ∧ (List.isEmpty (if aloneErr (bDraw ds (((List.length (bWarps h8 ws)) : Nat) : Int).toNat) = 0 then outW (bDraw ds (((List.length (bWarps h8 ws)) : Nat) : Int).toNat) else [])) = (List.isEmpty (if aloneErr (bDraw ds (((List.length (bWarps h8 ws)) : Nat) : Int).toNat) = 0 then outW (bDraw ds (((List.length (bWarps h8 ws)) : Nat) : Int).toNat) else []))) ∧ ((if aloneErr (bDraw ds (((List.length (bWarps h8 ws)) : Nat) : Int).toNat) = 0 then layersW (bDraw ds (((List.length (bWarps h8 ws)) : Nat) : Int).toNat) else []) = (if aloneErr (bDraw ds (((List.length (bWarps h8 ws)) : Nat) : Int).toNat) = 0 then layersW (bDraw ds (((List.length (bWarps h8 ws)) : Nat) : Int).toNat) else []) ∧ (List.isEmpty (if aloneErr (bDraw ds (((List.length (bWarps h8 ws)) : Nat) : Int).toNat) = 0 then layersW (bDraw ds (((List.length (bWarps h8 ws)) : Nat) : Int).toNat) else [])) = (List.isEmpty (if aloneErr (bDraw ds (((List.length (bWarps h8 ws)) : Nat) : Int).toNat) = 0 then layersW (bDraw ds (((List.length (bWarps h8 ws)) : Nat) : Int).toNat) else []))) ∧ ((aput (.i .i64) e19.1 e19.2.2.2.2 d19.1) = d22.1) ∧ (e19.2.2.1 = d22.2.2.1 ∧ false = false) ∧ True)) ∧ q7 d22)) ∧
                    (y308 = false →
                      (InK .i64 (e19.2.2.2.1 + (1 : Int))) ∧ (∃ d23 : (List (Int × Bool)) × Int × (List Int) × Int, ((mix = mix ∧ wh = wh ∧ (((List.length (bWarps h8 ws)) : Nat) : Int) = (((List.length (bWarps h8 ws)) : Nat) : Int) ∧ True ∧ True ∧ (if aloneErr (bDraw ds (((List.length (bWarps h8 ws)) : Nat) : Int).toNat) = 0 then crossingsI (bDraw ds (((List.length (bWarps h8 ws)) : Nat) : Int).toNat) else 0) = (if aloneErr (bDraw ds (((List.length (bWarps h8 ws)) : Nat) : Int).toNat) = 0 then crossingsI (bDraw ds (((List.length (bWarps h8 ws)) : Nat) : Int).toNat) else 0) ∧ True ∧ True ∧ e19.2.1 = d23.2.1 ∧ True ∧ (e19.2.2.2.1 + (1 : Int)) = d23.2.2.2 ∧ True) ∧ (((bDraw ds (((List.length (bWarps h8 ws)) : Nat) : Int).toNat) = (bDraw ds (((List.length (bWarps h8 ws)) : Nat) : Int).toNat) ∧ false = false) ∧ ((if aloneErr (bDraw ds (((List.length (bWarps h8 ws)) : Nat) : Int).toNat) = 0 then outW (bDraw ds (((List.length (bWarps h8 ws)) : Nat) : Int).toNat) else []) = (if aloneErr (bDraw ds (((List.length (bWarps h8 ws)) : Nat) : Int).toNat) = 0 then outW (bDraw ds (((List.length (bWarps h8 ws)) : Nat) : Int).toNat) else []) ∧ (List.isEmpty (if aloneErr (bDraw ds (((List.length (bWarps h8 ws)) : Nat) : Int).toNat) = 0 then outW (bDraw ds (((List.length (bWarps h8 ws)) : Nat) : Int).toNat) else [])) = (List.isEmpty (if aloneErr (bDraw ds (((List.length (bWarps h8 ws)) : Nat) : Int).toNat) = 0 then outW (bDraw ds (((List.length (bWarps h8 ws)) : Nat) : Int).toNat) else []))) ∧ ((if aloneErr (bDraw ds (((List.length (bWarps h8 ws)) : Nat) : Int).toNat) = 0 then layersW (bDraw ds (((List.length (bWarps h8 ws)) : Nat) : Int).toNat) else []) = (if aloneErr (bDraw ds (((List.length (bWarps h8 ws)) : Nat) : Int).toNat) = 0 then layersW (bDraw ds (((List.length (bWarps h8 ws)) : Nat) : Int).toNat) else []) ∧ (List.isEmpty (if aloneErr (bDraw ds (((List.length (bWarps h8 ws)) : Nat) : Int).toNat) = 0 then layersW (bDraw ds (((List.length (bWarps h8 ws)) : Nat) : Int).toNat) else [])) = (List.isEmpty (if aloneErr (bDraw ds (((List.length (bWarps h8 ws)) : Nat) : Int).toNat) = 0 then layersW (bDraw ds (((List.length (bWarps h8 ws)) : Nat) : Int).toNat) else []))) ∧ ((aput (.i .i64) e19.1 e19.2.2.2.2 d19.1) = d23.1) ∧ (e19.2.2.1 = d23.2.2.1 ∧ false = false) ∧ True)) ∧ q7 d23)))) d190))) ∧
          (y209 = false →
            ((bDraw ds (((List.length (bWarps h8 ws)) : Nat) : Int).toNat).length ≤ 110) ∧ (InK .i64 wh) ∧ ((((List.length (bWarps h8 ws)) : Nat) : Int) ≠ 0) ∧ ∀ (y309 : Int), y309 = (Int.tmod wh (((List.length (bWarps h8 ws)) : Nat) : Int)) → (0 ≤ y309) ∧ (y309 < (List.length (bDraw ds (((List.length (bWarps h8 ws)) : Nat) : Int).toNat))) ∧ ((List.set (bDraw ds (((List.length (bWarps h8 ws)) : Nat) : Int).toNat) (Int.toNat y309) (-1 : Int)).length ≤ 110) ∧ ((List.set (bDraw ds (((List.length (bWarps h8 ws)) : Nat) : Int).toNat) (Int.toNat y309) (-1 : Int)).length ≤ 110) ∧ ((List.set (bDraw ds (((List.length (bWarps h8 ws)) : Nat) : Int).toNat) (Int.toNat y309) (-1 : Int)).length ≤ 110) ∧ ((List.set (bDraw ds (((List.length (bWarps h8 ws)) : Nat) : Int).toNat) (Int.toNat y309) (-1 : Int)).length ≤ 110) ∧ ((List.set (bDraw ds (((List.length (bWarps h8 ws)) : Nat) : Int).toNat) (Int.toNat y309) (-1 : Int)).length ≤ 110) ∧ ∀ (y310 : Bool), y310 = (decide ((((List.length (if aloneErr (bDraw ds (((List.length (bWarps h8 ws)) : Nat) : Int).toNat) = 0 then outW (bDraw ds (((List.length (bWarps h8 ws)) : Nat) : Int).toNat) else [])) : Nat) : Int) ≤ d7.2.1)) → ∀ (y311 : Bool), y311 = (aloneErr (List.set (bDraw ds (((List.length (bWarps h8 ws)) : Nat) : Int).toNat) (Int.toNat y309) (-1 : Int)) == (0 : Int)) → ∀ (y312 : Bool), y312 = (y310 && y311) → ∀ (y313 : Bool), y313 = (aloneErr (List.set (bDraw ds (((List.length (bWarps h8 ws)) : Nat) : Int).toNat) (Int.toNat y309) (-1 : Int)) == (0 : Int)) → ∀ (y314 : Bool), y314 = (y312 && y313) → ∀ (y315 : Bool), y315 = (aloneErr (List.set (bDraw ds (((List.length (bWarps h8 ws)) : Nat) : Int).toNat) (Int.toNat y309) (-1 : Int)) == (0 : Int)) → ∀ (y316 : Bool), y316 = (y314 && y315) → ∀ (y317 : Bool), y317 = (decide ((((List.length (if aloneErr (List.set (bDraw ds (((List.length (bWarps h8 ws)) : Nat) : Int).toNat) (Int.toNat y309) (-1 : Int)) = 0 then outW (List.set (bDraw ds (((List.length (bWarps h8 ws)) : Nat) : Int).toNat) (Int.toNat y309) (-1 : Int)) else [])) : Nat) : Int) ≤ (((List.length (if aloneErr (bDraw ds (((List.length (bWarps h8 ws)) : Nat) : Int).toNat) = 0 then outW (bDraw ds (((List.length (bWarps h8 ws)) : Nat) : Int).toNat) else [])) : Nat) : Int))) → ∀ (y318 : Bool), y318 = (y316 && y317) → ∀ (y319 : Bool), y319 = (decide ((if aloneErr (List.set (bDraw ds (((List.length (bWarps h8 ws)) : Nat) : Int).toNat) (Int.toNat y309) (-1 : Int)) = 0 then crossingsI (List.set (bDraw ds (((List.length (bWarps h8 ws)) : Nat) : Int).toNat) (Int.toNat y309) (-1 : Int)) else 0) ≤ (if aloneErr (bDraw ds (((List.length (bWarps h8 ws)) : Nat) : Int).toNat) = 0 then crossingsI (bDraw ds (((List.length (bWarps h8 ws)) : Nat) : Int).toNat) else 0))) → ∀ (y320 : Bool), y320 = (y318 && y319) → ∀ (y321 : Bool), y321 = (decide ((((List.length (if aloneErr (List.set (bDraw ds (((List.length (bWarps h8 ws)) : Nat) : Int).toNat) (Int.toNat y309) (-1 : Int)) = 0 then layersW (List.set (bDraw ds (((List.length (bWarps h8 ws)) : Nat) : Int).toNat) (Int.toNat y309) (-1 : Int)) else [])) : Nat) : Int) ≤ (((List.length (if aloneErr (bDraw ds (((List.length (bWarps h8 ws)) : Nat) : Int).toNat) = 0 then layersW (bDraw ds (((List.length (bWarps h8 ws)) : Nat) : Int).toNat) else [])) : Nat) : Int))) → ∀ (y322 : Bool), y322 = (y320 && y321) → (y322 = true → True) ∧ ∀ (y323 : Bool), y323 = (y322 && true) → (y323 = true ∧ (True)))) d70)) d30)
def cx_law11_EyeFewer : Cx := ⟨[(3, (.i .i64)), (1000068, (.pair (.i .i64) .bo))], [(31, s_law11_Board_harness), (33, s_law11_Board_drawing), (14, s_law11_ints), (23, s_eye_Out), (22, s_eye_Crossings), (27, s_eye_Layers), (12, s_law11_known)], 235, [], 0, [], [], [], [], true⟩
def lp_law11_EyeFewer (h8 : Int) (ws : List Int) (rs : List Int) (ds : List Int) (mix : List Int) (wh : Int) : List (Nat × LoopAnn) := [(0, ⟨Unit, (List Int) × Int, [1, 2, 7, 8, 9, 11, 13, 15, 16, 17, 18], fun e x => [.val (.list (.i .u8)) mix, .val (.i .u8) wh, .val (.i .i64) (((List.length (bWarps h8 ws)) : Nat) : Int), .lst 39, .lst 43, .val (.i .i64) (if aloneErr (bDraw ds (((List.length (bWarps h8 ws)) : Nat) : Int).toNat) = 0 then crossingsI (bDraw ds (((List.length (bWarps h8 ws)) : Nat) : Int).toNat) else 0), .dd 55 .out, .map 68, .val (.i .i64) (0 : Int), .lst 69, .val (.i .i64) x.2], fun e x => [(39, .slot 8, .lst 3 (.i .i64) (bDraw ds (((List.length (bWarps h8 ws)) : Nat) : Int).toNat) false), (43, .slot 9, .lst 3 (.i .i64) (if aloneErr (bDraw ds (((List.length (bWarps h8 ws)) : Nat) : Int).toNat) = 0 then outW (bDraw ds (((List.length (bWarps h8 ws)) : Nat) : Int).toNat) else []) (List.isEmpty (if aloneErr (bDraw ds (((List.length (bWarps h8 ws)) : Nat) : Int).toNat) = 0 then outW (bDraw ds (((List.length (bWarps h8 ws)) : Nat) : Int).toNat) else []))), (55, .slot 13, .deep 22 (some 3) (.list (.i .i64)) (if aloneErr (bDraw ds (((List.length (bWarps h8 ws)) : Nat) : Int).toNat) = 0 then layersW (bDraw ds (((List.length (bWarps h8 ws)) : Nat) : Int).toNat) else []) (List.isEmpty (if aloneErr (bDraw ds (((List.length (bWarps h8 ws)) : Nat) : Int).toNat) = 0 then layersW (bDraw ds (((List.length (bWarps h8 ws)) : Nat) : Int).toNat) else [])) none), (68, .slot 15, .map (.i .i64) .bo ([] : List (Int × Bool))), (69, .slot 17, .lst 3 (.i .i64) x.1 false)]⟩),
  (2, ⟨Unit, (List (Int × Bool)) × Int × (List Int) × Int, [1, 2, 7, 8, 9, 11, 13, 15, 16, 17, 19], fun e x => [.val (.list (.i .u8)) mix, .val (.i .u8) wh, .val (.i .i64) (((List.length (bWarps h8 ws)) : Nat) : Int), .lst 39, .lst 43, .val (.i .i64) (if aloneErr (bDraw ds (((List.length (bWarps h8 ws)) : Nat) : Int).toNat) = 0 then crossingsI (bDraw ds (((List.length (bWarps h8 ws)) : Nat) : Int).toNat) else 0), .dd 55 .out, .map 68, .val (.i .i64) x.2.1, .lst 69, .val (.i .i64) x.2.2.2], fun e x => [(39, .slot 8, .lst 3 (.i .i64) (bDraw ds (((List.length (bWarps h8 ws)) : Nat) : Int).toNat) false), (43, .slot 9, .lst 3 (.i .i64) (if aloneErr (bDraw ds (((List.length (bWarps h8 ws)) : Nat) : Int).toNat) = 0 then outW (bDraw ds (((List.length (bWarps h8 ws)) : Nat) : Int).toNat) else []) (List.isEmpty (if aloneErr (bDraw ds (((List.length (bWarps h8 ws)) : Nat) : Int).toNat) = 0 then outW (bDraw ds (((List.length (bWarps h8 ws)) : Nat) : Int).toNat) else []))), (55, .slot 13, .deep 22 (some 3) (.list (.i .i64)) (if aloneErr (bDraw ds (((List.length (bWarps h8 ws)) : Nat) : Int).toNat) = 0 then layersW (bDraw ds (((List.length (bWarps h8 ws)) : Nat) : Int).toNat) else []) (List.isEmpty (if aloneErr (bDraw ds (((List.length (bWarps h8 ws)) : Nat) : Int).toNat) = 0 then layersW (bDraw ds (((List.length (bWarps h8 ws)) : Nat) : Int).toNat) else [])) none), (68, .slot 15, .map (.i .i64) .bo x.1), (69, .slot 17, .lst 3 (.i .i64) x.2.2.1 false)]⟩),
  (4, ⟨(List (Int × Bool)) × Int × (List Int) × Int × Int, Bool × Int, [1, 2, 7, 8, 9, 11, 13, 15, 16, 17, 19, 23, 24, 25], fun e x => [.val (.list (.i .u8)) mix, .val (.i .u8) wh, .val (.i .i64) (((List.length (bWarps h8 ws)) : Nat) : Int), .lst 39, .lst 43, .val (.i .i64) (if aloneErr (bDraw ds (((List.length (bWarps h8 ws)) : Nat) : Int).toNat) = 0 then crossingsI (bDraw ds (((List.length (bWarps h8 ws)) : Nat) : Int).toNat) else 0), .dd 55 .out, .map 68, .val (.i .i64) e.2.1, .lst 69, .val (.i .i64) e.2.2.2.1, .val (.i .i64) e.2.2.2.2, .val .bo x.1, .val (.i .i64) x.2], fun e x => [(39, .slot 8, .lst 3 (.i .i64) (bDraw ds (((List.length (bWarps h8 ws)) : Nat) : Int).toNat) false), (43, .slot 9, .lst 3 (.i .i64) (if aloneErr (bDraw ds (((List.length (bWarps h8 ws)) : Nat) : Int).toNat) = 0 then outW (bDraw ds (((List.length (bWarps h8 ws)) : Nat) : Int).toNat) else []) (List.isEmpty (if aloneErr (bDraw ds (((List.length (bWarps h8 ws)) : Nat) : Int).toNat) = 0 then outW (bDraw ds (((List.length (bWarps h8 ws)) : Nat) : Int).toNat) else []))), (55, .slot 13, .deep 22 (some 3) (.list (.i .i64)) (if aloneErr (bDraw ds (((List.length (bWarps h8 ws)) : Nat) : Int).toNat) = 0 then layersW (bDraw ds (((List.length (bWarps h8 ws)) : Nat) : Int).toNat) else []) (List.isEmpty (if aloneErr (bDraw ds (((List.length (bWarps h8 ws)) : Nat) : Int).toNat) = 0 then layersW (bDraw ds (((List.length (bWarps h8 ws)) : Nat) : Int).toNat) else [])) none), (68, .slot 15, .map (.i .i64) .bo e.1), (69, .slot 17, .lst 3 (.i .i64) e.2.2.1 false)]⟩)]
set_option maxRecDepth 100000 in
theorem vq_law11_EyeFewer (d : (Int × List Int × List Int × List Int) × List Int × Int) : gwp (cx_law11_EyeFewer) (lp_law11_EyeFewer d.1.1 d.1.2.1 d.1.2.2.1 d.1.2.2.2 d.2.1 d.2.2) c9 0 (gend [.tmp 6] (res_law11_EyeFewer d) (obs_law11_EyeFewer d)) (gstart 235 (AL.can al_law11_EyeFewer d)) = vc_law11_EyeFewer d.1.1 d.1.2.1 d.1.2.2.1 d.1.2.2.2 d.2.1 d.2.2 := by kernel_rfl
abbrev Ok_law11_EyeFewer : Prop := OkC Tryd.prog 9 s_law11_EyeFewer
theorem mk_law11_EyeFewer (h : ∀ (h8 : Int) (ws : List Int) (rs : List Int) (ds : List Int) (mix : List Int) (wh : Int), (bOk h8 ws rs ds ∧ u8s mix ∧ 0 ≤ wh ∧ wh ≤ 255) → vc_law11_EyeFewer h8 ws rs ds mix wh) : OkC Tryd.prog 9 s_law11_EyeFewer :=
  okC_vc fun9 mixed (C := cx_law11_EyeFewer) (V := fun (d : (Int × List Int × List Int × List Int) × List Int × Int) => vc_law11_EyeFewer d.1.1 d.1.2.1 d.1.2.2.1 d.1.2.2.2 d.2.1 d.2.2) ⟨(.cons ok_law11_Board_harness (.cons ok_law11_Board_drawing (.cons ok_law11_ints (.cons ok_eye_Out (.cons ok_eye_Crossings (.cons ok_eye_Layers (.cons ok_law11_known .nil))))))), XsOk.nil, ItsOk.nil⟩ (vq_law11_EyeFewer) fun d hp => h d.1.1 d.1.2.1 d.1.2.2.1 d.1.2.2.2 d.2.1 d.2.2 hp
end Go.Proofs.Tryd
set_option linter.unusedVariables false
namespace Go.Proofs.Tryd
open Go Go.V Go.Proofs
theorem bDraw_val {ds : List Int} {n : Nat} (hd : u8s ds) (hn : 1 ≤ n) : ∀ x ∈ bDraw ds n, -1 ≤ x ∧ x < n := fun x hx => by
  obtain ⟨k, hk, rfl⟩ := List.mem_iff_getElem.1 hx
  have hk' : k < n := by rw [bDraw_len] at hk; exact hk
  rw [bDraw_get ds hk']
  split
  · rename_i hkd
    have hd' := hd _ (List.getElem_mem hkd)
    rw [getD_nat hkd]
    split
    · omega
    · split
      · have h1 := Int.tmod_nonneg (n : Int) hd'.1
        have h2 := Int.tmod_lt_of_pos ds[k] (show (0 : Int) < n by omega)
        omega
      · omega
  · omega
theorem bWarps_len {h8 : Int} {ws : List Int} : 1 ≤ (bWarps h8 ws).length ∧ (bWarps h8 ws).length ≤ 24 := by
  have : (bWarps h8 ws).length = if ws = [] then 1 else min 24 ws.length := warpsN_len
  rw [this]
  split
  · omega
  · rename_i h
    have := List.length_pos_iff.2 h
    omega
theorem alone_of {l : List Int} (h : ∀ x ∈ l, -1 ≤ x ∧ x ≤ 95) (hn : l.length ≤ 96) : aloneErr l = 0 := by
  have h1 : ¬ 96 < l.length := by omega
  have h2 : l.any (fun x => !inI x (-1) 95) = false := by
    rw [List.any_eq_false]
    intro x hx
    have := h x hx
    simp only [inI, Bool.not_eq_true', Bool.and_eq_false_iff, decide_eq_false_iff_not]
    omega
  simp [aloneErr, h1, h2]
end Go.Proofs.Tryd
set_option linter.unusedVariables false
namespace Go.Proofs.Tryd
open Go Go.V Go.Proofs
theorem ok_law11_EyeFewer : Ok_law11_EyeFewer := mk_law11_EyeFewer fun h8 ws rs ds mix wh hb => by
  obtain ⟨hb, hmix, hwh0, hwh1⟩ := hb
  simp only [vc_law11_EyeFewer, true_and, and_true, exists_const, ne_eq, Int.toNat_natCast, gt_iff_lt, ge_iff_le, InK_i64]
  have hds := hb.2.2.2.2
  have hn := bWarps_len (h8 := h8) (ws := ws)
  have hlen := bDraw_len ds (bWarps h8 ws).length
  have hval := bDraw_val (n := (bWarps h8 ws).length) hds hn.1
  generalize bDraw ds (bWarps h8 ws).length = l at *
  have hv95 : ∀ x ∈ l, -1 ≤ x ∧ x ≤ 95 := fun x hx => by have := hval x hx; omega
  have he : aloneErr l = 0 := alone_of hv95 (by omega)
  rw [← hlen] at hval
  generalize hN : (bWarps h8 ws).length = n at *
  subst hlen
  refine ⟨hb, ⟨by omega, by omega, hb⟩, by omega, by omega, by omega, by omega, by omega, by omega, ?_⟩
  rintro _ rfl _ rfl _ rfl _ rfl _ rfl
  simp only [he, if_true]
  simp only [bne_self_eq_false, Bool.or_self]
  refine ⟨fun h => (by cases h), fun _ => ?_⟩
  refine ⟨([], 0), by and_intros <;> first | rfl | trivial, ?_⟩
  refine ⟨fun d => ∃ i : Nat, i ≤ l.length ∧ d.2 = i ∧ d.1 = (List.range i).map fun (w : Nat) => (w : Int), fun d => l.length - d.2.toNat, ⟨0, Nat.zero_le _, rfl, rfl⟩, ?_⟩
  rintro ⟨od, _⟩ ⟨i, hi, rfl, hod⟩
  dsimp only at hod ⊢
  have hol : od.length = i := by rw [hod]; simp
  rintro _ rfl
  refine ⟨fun hlt => ?_, fun hge => ?_⟩
  · have hlt : i < l.length := by have := of_decide_eq_true hlt; omega
    simp only [List.length_singleton]
    exact ⟨by omega, by omega, (od ++ [(i : Int)], (i : Int) + 1), by and_intros <;> first | rfl | trivial, ⟨i + 1, by omega, by simp, by rw [hod, List.range_succ]; simp⟩, by dsimp only; omega⟩
  have hi : i = l.length := by have := of_decide_eq_false hge; omega
  subst hi
  clear hge
  refine ⟨([], 0, od, 0), by and_intros <;> first | rfl | trivial, ?_⟩
  refine ⟨fun d => ∃ i : Nat, i ≤ l.length ∧ d.2.2.2 = i ∧ FewI l d.1 d.2.1 d.2.2.1 i, fun d => l.length - d.2.2.2.toNat, ⟨0, Nat.zero_le _, rfl, ⟨by rw [hod], fun w hw => (by cases hw), fun v w hv => (by cases hv), rfl⟩⟩, ?_⟩
  rintro ⟨m, tk, od, _⟩ ⟨i, hi, rfl, hI⟩
  dsimp only at hI ⊢
  have hol := hI.len
  have htk0 : tk ≤ i := by
    rw [hI.cnt]
    have := List.length_filter_le (fun (w : Int) => decide (0 ≤ l.getD w.toNat 0) && !gq.aget (.i .i64) m w false) (od.take i)
    rw [List.length_take] at this; omega
  have htk1 : 0 ≤ tk := by rw [hI.cnt]; omega
  rintro _ rfl
  refine ⟨fun hlt => ?_, fun hge => ?_⟩
  · have hlt : i < l.length := by have := of_decide_eq_true hlt; omega
    rintro _ rfl
    refine ⟨fun hmi => ?_, fun hmi => ?_⟩
    · have hmi : i < mix.length := by have := of_decide_eq_true hmi; omega
      have hmx := hmix _ (List.getElem_mem hmi)
      have h1 := Int.tmod_nonneg ((l.length : Int) - i) hmx.1
      have h2 := Int.tmod_lt_of_pos mix[i] (show (0 : Int) < (l.length : Int) - i by omega)
      simp only [Int.toNat_natCast, getD_nat hmi]
      refine ⟨by omega, by omega, ?_⟩
      rintro _ rfl
      refine ⟨by omega, by omega, by omega, ?_⟩
      rintro _ rfl
      obtain ⟨t, ht⟩ := Int.eq_ofNat_of_zero_le h1
      rw [ht] at h2 ⊢
      have ek : ((i : Int) + (t : Int)).toNat = i + t := by omega
      simp only [ek, List.length_set]
      refine ⟨by omega, by omega, by omega, ?_⟩
      rintro _ rfl
      refine ⟨by omega, by omega, ?_⟩
      rintro _ rfl
      refine ⟨by omega, by omega, by omega, by omega, by omega, by omega, ?_⟩
      rw [show (od.set i (od.getD (i + t) 0)).set (i + t) (od.getD i 0) = swp od i (i + t) from rfl, swp_get (show i ≤ i + t by omega) (show i + t < od.length by omega)]
      rintro _ rfl
      have hkl : i + t < l.length := by omega
      obtain ⟨hwb, hst1, hst2⟩ := hI.step (k := (i + t)) (by omega) (by omega)
      refine ⟨by omega, by omega, ?_⟩
      rintro _ rfl _ rfl
      refine ⟨fun hneg => ?_, fun hpos => ?_⟩
      · have hneg := of_decide_eq_true hneg
        exact ⟨by omega, (m, tk, swp od i (i + t), (i : Int) + 1), by and_intros <;> first | rfl | trivial, ⟨i + 1, by omega, by simp, hst1 hneg⟩, by dsimp only; omega⟩
      have hpos : 0 ≤ l.getD (od.getD (i + t) 0).toNat 0 := by have := of_decide_eq_false hpos; omega
      refine ⟨(m, tk, swp od i (i + t), (i : Int), od.getD (i + t) 0), (true, 0), by and_intros <;> first | rfl | trivial, ?_⟩
      refine ⟨fun d => ∃ v : Nat, v ≤ l.length ∧ d.2 = v ∧ d.1 = !((List.range v).any (badB l m (od.getD (i + t) 0))), fun d => l.length - d.2.toNat, ⟨0, Nat.zero_le _, rfl, rfl⟩, ?_⟩
      rintro ⟨ft, _⟩ ⟨v, hv, rfl, hft⟩
      dsimp only at hft ⊢
      rintro _ rfl
      refine ⟨fun hvl => ?_, fun hvg => ?_⟩
      · have hvl : v < l.length := by have := of_decide_eq_true hvl; omega
        have hsn : (List.range (v + 1)).any (badB l m (od.getD (i + t) 0)) = ((List.range v).any (badB l m (od.getD (i + t) 0)) || badB l m (od.getD (i + t) 0) v) := by rw [List.range_succ, List.any_append]; simp
        simp only [decide_eq_true_eq, Int.toNat_natCast, Int.ofNat_lt, forall_eq, Int.toNat_natCast]
        refine ⟨fun _ _ => by omega, fun _ _ => by omega, fun _ _ => by omega, fun _ _ => by omega, fun _ _ _ => by omega, fun _ _ _ => by omega, fun _ _ _ => by omega, fun _ _ _ => by omega, fun hb => ?_, fun hb => ?_⟩
        · have hb : badB l m (od.getD (i + t) 0) v = true := by rw [← hb]; rfl
          exact ⟨by omega, (false, (v : Int) + 1), ⟨rfl, rfl⟩, ⟨v + 1, by omega, by simp, by rw [hsn, hb]; simp⟩, by dsimp only; omega⟩
        · have hb : badB l m (od.getD (i + t) 0) v = false := by rw [← hb]; rfl
          exact ⟨by omega, (ft, (v : Int) + 1), ⟨rfl, rfl⟩, ⟨v + 1, by omega, by simp, by rw [hsn, hb, Bool.or_false]; exact hft⟩, by dsimp only; omega⟩
      have hv : v = l.length := by have := of_decide_eq_false hvg; omega
      subst hv
      have hI2 := hst2 hpos ft hft
      rintro _ rfl
      refine ⟨fun hf => ?_, fun hf => ?_⟩
      · have hf : ft = false := by simpa using hf
        subst hf
        exact ⟨by omega, by omega, (aput (.i .i64) m (od.getD (i + t) 0) false, tk + 1, swp od i (i + t), (i : Int) + 1), by and_intros <;> first | rfl | trivial, ⟨i + 1, by omega, by simp, hI2⟩, by dsimp only; omega⟩
      · have hf : ft = true := by simpa using hf
        subst hf
        exact ⟨by omega, (aput (.i .i64) m (od.getD (i + t) 0) true, tk, swp od i (i + t), (i : Int) + 1), by and_intros <;> first | rfl | trivial, ⟨i + 1, by omega, by simp, hI2⟩, by dsimp only; omega⟩
    · simp only [Int.toNat_natCast, List.length_set]
      refine ⟨by omega, by omega, ?_⟩
      rintro _ rfl
      refine ⟨by omega, by omega, ?_⟩
      rintro _ rfl
      refine ⟨by omega, by omega, by omega, by omega, by omega, by omega, ?_⟩
      rw [show (od.set i (od.getD i 0)).set i (od.getD i 0) = swp od i i from rfl, swp_get (Nat.le_refl i) (show i < od.length by omega)]
      rintro _ rfl
      obtain ⟨hwb, hst1, hst2⟩ := hI.step (k := i) (by omega) (by omega)
      refine ⟨by omega, by omega, ?_⟩
      rintro _ rfl _ rfl
      refine ⟨fun hneg => ?_, fun hpos => ?_⟩
      · have hneg := of_decide_eq_true hneg
        exact ⟨by omega, (m, tk, swp od i i, (i : Int) + 1), by and_intros <;> first | rfl | trivial, ⟨i + 1, by omega, by simp, hst1 hneg⟩, by dsimp only; omega⟩
      have hpos : 0 ≤ l.getD (od.getD i 0).toNat 0 := by have := of_decide_eq_false hpos; omega
      refine ⟨(m, tk, swp od i i, (i : Int), od.getD i 0), (true, 0), by and_intros <;> first | rfl | trivial, ?_⟩
      refine ⟨fun d => ∃ v : Nat, v ≤ l.length ∧ d.2 = v ∧ d.1 = !((List.range v).any (badB l m (od.getD i 0))), fun d => l.length - d.2.toNat, ⟨0, Nat.zero_le _, rfl, rfl⟩, ?_⟩
      rintro ⟨ft, _⟩ ⟨v, hv, rfl, hft⟩
      dsimp only at hft ⊢
      rintro _ rfl
      refine ⟨fun hvl => ?_, fun hvg => ?_⟩
      · have hvl : v < l.length := by have := of_decide_eq_true hvl; omega
        have hsn : (List.range (v + 1)).any (badB l m (od.getD i 0)) = ((List.range v).any (badB l m (od.getD i 0)) || badB l m (od.getD i 0) v) := by rw [List.range_succ, List.any_append]; simp
        simp only [decide_eq_true_eq, Int.toNat_natCast, Int.ofNat_lt, forall_eq, Int.toNat_natCast]
        refine ⟨fun _ _ => by omega, fun _ _ => by omega, fun _ _ => by omega, fun _ _ => by omega, fun _ _ _ => by omega, fun _ _ _ => by omega, fun _ _ _ => by omega, fun _ _ _ => by omega, fun hb => ?_, fun hb => ?_⟩
        · have hb : badB l m (od.getD i 0) v = true := by rw [← hb]; rfl
          exact ⟨by omega, (false, (v : Int) + 1), ⟨rfl, rfl⟩, ⟨v + 1, by omega, by simp, by rw [hsn, hb]; simp⟩, by dsimp only; omega⟩
        · have hb : badB l m (od.getD i 0) v = false := by rw [← hb]; rfl
          exact ⟨by omega, (ft, (v : Int) + 1), ⟨rfl, rfl⟩, ⟨v + 1, by omega, by simp, by rw [hsn, hb, Bool.or_false]; exact hft⟩, by dsimp only; omega⟩
      have hv : v = l.length := by have := of_decide_eq_false hvg; omega
      subst hv
      have hI2 := hst2 hpos ft hft
      rintro _ rfl
      refine ⟨fun hf => ?_, fun hf => ?_⟩
      · have hf : ft = false := by simpa using hf
        subst hf
        exact ⟨by omega, by omega, (aput (.i .i64) m (od.getD i 0) false, tk + 1, swp od i i, (i : Int) + 1), by and_intros <;> first | rfl | trivial, ⟨i + 1, by omega, by simp, hI2⟩, by dsimp only; omega⟩
      · have hf : ft = true := by simpa using hf
        subst hf
        exact ⟨by omega, (aput (.i .i64) m (od.getD i 0) true, tk, swp od i i, (i : Int) + 1), by and_intros <;> first | rfl | trivial, ⟨i + 1, by omega, by simp, hI2⟩, by dsimp only; omega⟩
  have hi : i = l.length := by have := of_decide_eq_false hge; omega
  subst hi
  have hfin := hI.fin hv95
  have h1 := Int.tmod_nonneg (l.length : Int) hwh0
  have h2 := Int.tmod_lt_of_pos wh (show (0 : Int) < l.length by omega)
  obtain ⟨k, hk⟩ := Int.eq_ofNat_of_zero_le h1
  refine ⟨by omega, by omega, by omega, ?_⟩
  rintro _ rfl
  rw [hk] at h2 ⊢
  have Lf := less_facts hv95 k
  have heL : aloneErr (lessL1 l k) = 0 := alone_of Lf.ok (by simp [lessL1]; omega)
  simp only [Int.toNat_natCast, List.length_set]
  rw [show l.set k (-1) = lessL1 l k from rfl]
  have q1 := Lf.cr
  have q2 := Lf.out
  have q3 := Lf.lay
  have d1 : decide (((outW l).length : Int) ≤ tk) = true := decide_eq_true hfin
  have d2 : decide (((outW (lessL1 l k)).length : Int) ≤ ((outW l).length : Int)) = true := decide_eq_true (by omega)
  have d3 : decide (crossingsI (lessL1 l k) ≤ crossingsI l) = true := decide_eq_true q1
  have d4 : decide (((layersW (lessL1 l k)).length : Int) ≤ ((layersW l).length : Int)) = true := decide_eq_true (by omega)
  refine ⟨by omega, by omega, by omega, by omega, by omega, by omega, by omega, ?_⟩
  rintro _ rfl _ rfl _ rfl _ rfl _ rfl _ rfl _ rfl _ rfl _ rfl _ rfl _ rfl _ rfl _ rfl
  simp only [heL, if_true, d1, d2, d3, d4, beq_self_eq_true, Bool.and_self]
  exact ⟨fun _ => trivial, fun _ h => h⟩
end Go.Proofs.Tryd
set_option linter.unusedVariables false
namespace Go.Proofs.Tryd
open Go Go.V Go.Proofs
theorem u8s_of {l : List Int} (h : KWf (.list (.i .u8)) l) : u8s l := fun x hx => (InK_u8 x).1 (h.2 x hx)
theorem u16s_of {l : List Int} (h : KWf (.list (.i .u16)) l) : u16s l := fun x hx => (InK_u16 x).1 (h.2 x hx)
theorem bOk_of {x : Int × List Int × List Int × List Int} (h : KWf (.pair (.i .u8) (.pair (.list (.i .u8)) (.pair (.list (.i .u16)) (.list (.i .u8))))) x) : bOk x.1 x.2.1 x.2.2.1 x.2.2.2 := by
  obtain ⟨h1, h2, h3, h4⟩ := h
  have h1 := (InK_u8 x.1).1 h1
  exact ⟨h1.1, h1.2, u8s_of h2, u16s_of h3, u8s_of h4⟩
theorem fewPre_of {x : (Int × List Int × List Int × List Int) × List Int × Int} (h : AWf [.pair (.i .u8) (.pair (.list (.i .u8)) (.pair (.list (.i .u16)) (.list (.i .u8)))), .list (.i .u8), .i .u8] x) : bOk x.1.1 x.1.2.1 x.1.2.2.1 x.1.2.2.2 ∧ u8s x.2.1 ∧ 0 ≤ x.2.2 ∧ x.2.2 ≤ 255 := by
  obtain ⟨h1, h2, h3⟩ := h
  have h3 := (InK_u8 x.2.2).1 h3
  exact ⟨bOk_of h1, u8s_of h2, h3.1, h3.2⟩
end Go.Proofs.Tryd