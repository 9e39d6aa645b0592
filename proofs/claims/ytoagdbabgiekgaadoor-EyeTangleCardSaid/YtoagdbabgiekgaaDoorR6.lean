/- A framework for walks, contracts of functions, and their proofs: part 6. -/
import Derived.Test.YtoagdbabgiekgaaDoorR5
set_option linter.unusedVariables false
namespace Go.Proofs.Tryd
open Go Go.V Go.Proofs
def rowOk (r : List (Int × Int)) : Prop := r ≠ [] ∧ r.Pairwise fun x y => x.1 < y.1 ∧ x.2 < y.2
structure LayI (t : List (Int × Int)) (G : List (List (Int × Int))) : Prop where
 rows : ∀ r ∈ G, rowOk r
 perm : G.flatten.Perm t
 heads : (G.map fun r => r.headD (0, 0)).Pairwise fun x y => x.1 < y.1
 chain : ∀ i (h : i < G.length), ∃ C : List (Int × Int), C.length = i ∧ (C ++ [G[i].getLastD (0, 0)]).Sublist t ∧ (C ++ [G[i].getLastD (0, 0)]).Pairwise fun x y => x.2 ≥ y.2
theorem rowOk_last {r : List (Int × Int)} (h : rowOk r) {x : Int × Int} (hx : x ∈ r) : x.2 ≤ (r.getLastD (0, 0)).2 := by
 obtain ⟨h1, h2⟩ := h
 rw [List.getLastD_eq_getLast?, List.getLast?_eq_some_getLast h1]
 rw [← List.dropLast_concat_getLast h1] at hx h2
 rcases List.mem_append.1 hx with hx | hx
 ·have := (List.pairwise_append.1 h2).2.2 x hx _ (List.mem_singleton.2 rfl)
  simp only [Option.getD_some]; omega
 ·rw [List.mem_singleton.1 hx]; simp
theorem rowOk_snoc {r : List (Int × Int)} (h : rowOk r) {a : Int × Int} (h1 : ∀ x ∈ r, x.1 < a.1) (h2 : (r.getLastD (0, 0)).2 < a.2) : rowOk (r ++ [a]) := by
 refine ⟨by simp, List.pairwise_append.2 ⟨h.2, by simp, fun x hx y hy => ?_⟩⟩
 rw [List.mem_singleton.1 hy]
 have := rowOk_last h hx
 exact ⟨h1 x hx, by omega⟩
theorem flatten_set {α : Type} : ∀ {G : List (List α)} {i : Nat} {r : List α} {a : α}, i < G.length → r = G.getD i [] → (G.set i (r ++ [a])).flatten.Perm (G.flatten ++ [a])
 | g :: G, 0, r, a, _, hr => by
  simp only [List.getD_cons_zero] at hr
  subst hr
  simp only [List.set_cons_zero, List.flatten_cons, List.append_assoc]
  exact List.Perm.append_left _ List.perm_append_comm
 | g :: G, i + 1, r, a, h, hr => by
  simp only [List.getD_cons_succ] at hr
  simp only [List.set_cons_succ, List.flatten_cons, List.append_assoc]
  exact List.Perm.append_left _ (flatten_set (by simpa using h) hr)
theorem getLastD_snoc {α : Type} (r : List α) (a d : α) : (r ++ [a]).getLastD d = a := by simp
theorem headD_snoc {α : Type} {r : List α} (h : r ≠ []) (a d : α) : (r ++ [a]).headD d = r.headD d := by
 cases r with
 | nil => exact absurd rfl h
 | cons x r => rfl
theorem layI_step {t : List (Int × Int)} {G : List (List (Int × Int))} (hI : LayI t G) {a : Int × Int} (ha : ∀ x ∈ t, x.1 < a.1) :
  ∃ G', LayI (t ++ [a]) G' ∧ layStep (G.map (·.map Prod.fst), G.map fun r => r.getLastD (0, 0)) a = (G'.map (·.map Prod.fst), G'.map fun r => r.getLastD (0, 0)) ∧
   ∃ i, i ≤ G.length ∧ G'.map (·.map Prod.fst) = putG (G.map (·.map Prod.fst)) i a.1 ∧ rowOk (G'.getD i []) := by
 have hin : ∀ r ∈ G, ∀ x ∈ r, x.1 < a.1 := fun r hr x hx => ha x (hI.perm.mem_iff.1 (List.mem_flatten.2 ⟨r, hr, hx⟩))
 rcases idxG_cases (G.map fun r => r.getLastD (0, 0)) (fun x => !(decide (x.2 ≥ a.2))) with ⟨h, _⟩ | ⟨i, hi, h, _⟩
 ·have hge : ∀ r ∈ G, (r.getLastD (0, 0)).2 ≥ a.2 := fun r hr => by
   have := List.findIdx?_eq_none_iff.1 h _ (List.mem_map.2 ⟨r, hr, rfl⟩)
   simpa using this
  refine ⟨G ++ [[a]], ⟨fun r hr => ?_, ?_, ?_, fun i hi => ?_⟩, ?_, G.length, Nat.le_refl _, ?_, ?_⟩
  ·rcases List.mem_append.1 hr with hr | hr
   ·exact hI.rows r hr
   ·rw [List.mem_singleton.1 hr]; exact ⟨by simp, by simp⟩
  ·rw [List.flatten_append]; exact (hI.perm.append_right _).trans (by simp)
  ·rw [List.map_append]
   refine List.pairwise_append.2 ⟨hI.heads, by simp, fun x hx y hy => ?_⟩
   obtain ⟨r, hr, rfl⟩ := List.mem_map.1 hx
   simp at hy; subst hy
   have hne := (hI.rows r hr).1
   cases r with
   | nil => exact absurd rfl hne
   | cons b r => exact hin _ hr b (by simp)
  ·by_cases hlt : i < G.length
   ·obtain ⟨C, c1, c2, c3⟩ := hI.chain i hlt
    refine ⟨C, c1, ?_, ?_⟩
    ·rw [List.getElem_append_left hlt]; exact c2.trans (List.sublist_append_left _ _)
    ·rw [List.getElem_append_left hlt]; exact c3
   ·have e : i = G.length := by simp at hi; omega
    subst e
    simp only [List.getElem_concat_length]
    cases hG : G.length with
    | zero => exact ⟨[], rfl, by simp, by simp⟩
    | succ n =>
     have hn : n < G.length := by omega
     obtain ⟨C, c1, c2, c3⟩ := hI.chain n hn
     refine ⟨C ++ [G[n].getLastD (0, 0)], by simp [c1], List.Sublist.append c2 (List.Sublist.refl _), List.pairwise_append.2 ⟨c3, by simp, fun x hx y hy => ?_⟩⟩
     rw [List.mem_singleton.1 hy]
     have hg := hge _ (List.getElem_mem hn)
     rcases List.mem_append.1 hx with hx | hx
     ·have := (List.pairwise_append.1 c3).2.2 x hx _ (List.mem_singleton.2 rfl)
      show x.2 ≥ a.2
      omega
     ·rw [List.mem_singleton.1 hx]; exact hg
  ·rw [layStep_none h]; simp
  ·simp [putG]
  ·simp only [List.getD_eq_getElem?_getD, List.getElem?_concat_length, Option.getD_some]; exact ⟨by simp, by simp⟩
 ·obtain ⟨hi2, hlt2, hbef⟩ := List.findIdx?_eq_some_iff_getElem.1 h
  have hi : i < G.length := by simpa using hi
  have hlt : (G[i].getLastD (0, 0)).2 < a.2 := by simpa using hlt2
  have hrow := hI.rows _ (List.getElem_mem hi)
  have hnew : rowOk (G[i] ++ [a]) := rowOk_snoc hrow (hin _ (List.getElem_mem hi)) hlt
  refine ⟨G.set i (G[i] ++ [a]), ⟨fun r hr => ?_, ?_, ?_, fun j hj => ?_⟩, ?_, i, by omega, ?_, ?_⟩
  ·rcases List.mem_or_eq_of_mem_set hr with hr | hr
   ·exact hI.rows r hr
   ·rw [hr]; exact hnew
  ·exact (flatten_set hi (by rw [getD_nat hi])).trans (hI.perm.append_right _)
  ·have : (G.set i (G[i] ++ [a])).map (fun r => r.headD (0, 0)) = G.map fun r => r.headD (0, 0) := by
    rw [List.map_set, headD_snoc hrow.1]
    apply List.ext_getElem (by simp)
    intro k h1 h2
    rw [List.getElem_set]
    split
    ·rename_i e; subst e; simp
    ·rfl
   rw [this]; exact hI.heads
  ·have hj' : j < G.length := by simpa using hj
   rw [List.getElem_set]
   split
   ·rename_i e
    subst e
    rw [getLastD_snoc]
    cases i with
    | zero => exact ⟨[], rfl, by simp, by simp⟩
    | succ n =>
     have hn : n < G.length := by omega
     obtain ⟨C, c1, c2, c3⟩ := hI.chain n hn
     refine ⟨C ++ [G[n].getLastD (0, 0)], by simp [c1], List.Sublist.append c2 (List.Sublist.refl _), List.pairwise_append.2 ⟨c3, by simp, fun x hx y hy => ?_⟩⟩
     rw [List.mem_singleton.1 hy]
     have hg : (G[n].getLastD (0, 0)).2 ≥ a.2 := by
      have := hbef n (by omega)
      simpa using this
     rcases List.mem_append.1 hx with hx | hx
     ·have := (List.pairwise_append.1 c3).2.2 x hx _ (List.mem_singleton.2 rfl)
      omega
     ·rw [List.mem_singleton.1 hx]; exact hg
   ·obtain ⟨C, c1, c2, c3⟩ := hI.chain j hj'
    exact ⟨C, c1, c2.trans (List.sublist_append_left _ _), c3⟩
  ·rw [layStep_some h]
   refine Prod.ext ?_ ?_
   ·simp only [List.map_set, List.map_append, List.map_cons, List.map_nil]
    congr 1
    simp [List.getD_eq_getElem?_getD, hi]
   ·simp only [List.map_set, getLastD_snoc]
  ·have hne : ¬ i = G.length := by omega
   simp only [putG, List.length_map, if_neg hne, List.map_set, List.map_append, List.map_cons, List.map_nil]
   congr 1
   simp [List.getD_eq_getElem?_getD, hi]
  ·rw [List.getD_eq_getElem?_getD, List.getElem?_set_self hi]; exact hnew
theorem layI_nil : LayI [] [] := ⟨fun r hr => (by cases hr), List.Perm.refl _, List.Pairwise.nil, fun i h => absurd h (Nat.not_lt_zero i)⟩
theorem layF_I : ∀ (t : List (Int × Int)), t.Pairwise (fun x y => x.1 < y.1) → ∃ G, LayI t G ∧ layF t = (G.map (·.map Prod.fst), G.map fun r => r.getLastD (0, 0)) := by
 intro t
 induction h : t.length generalizing t with
 | zero => intro _; obtain rfl := List.length_eq_zero_iff.1 h; exact ⟨[], layI_nil, rfl⟩
 | succ n ih =>
  intro ht
  have hne : t ≠ [] := by rintro rfl; simp at h
  rw [← List.dropLast_concat_getLast hne] at ht ⊢
  obtain ⟨h1, _, h3⟩ := List.pairwise_append.1 ht
  obtain ⟨G, hI, hG⟩ := ih t.dropLast (by simp [h]) h1
  obtain ⟨G', k1, k2, _⟩ := layI_step hI (a := t.getLast hne) fun x hx => h3 x hx _ (List.mem_singleton.2 rfl)
  exact ⟨G', k1, by rw [layF_snoc, hG, k2]⟩
theorem fold_min_le {α : Type} {f : α → Int} {v : α → Bool} : ∀ (L : List α) (b : Int), L.foldl (fun b i => if v i then gmin b (f i) else b) b ≤ b ∧ ∀ i ∈ L, v i = true → L.foldl (fun b i => if v i then gmin b (f i) else b) b ≤ f i
 | [], b => ⟨Int.le_refl _, fun i hi => by cases hi⟩
 | x :: L, b => by
  rw [List.foldl_cons]
  obtain ⟨h1, h2⟩ := fold_min_le (f := f) (v := v) L (if v x then gmin b (f x) else b)
  have hb : (if v x then gmin b (f x) else b) ≤ b := by
   split
   ·simp only [gmin]; split <;> omega
   ·omega
  refine ⟨by omega, fun i hi hv => ?_⟩
  rcases List.mem_cons.1 hi with rfl | hi
  ·rw [if_pos hv] at h1
   rw [if_pos hv]
   have : gmin b (f i) ≤ f i := by simp only [gmin]; split <;> omega
   omega
  ·exact h2 i hi hv
theorem fold_min_ge {α : Type} {f : α → Int} {v : α → Bool} {c : Int} : ∀ (L : List α) (b : Int), c ≤ b → (∀ i ∈ L, v i = true → c ≤ f i) → c ≤ L.foldl (fun b i => if v i then gmin b (f i) else b) b
 | [], b, hb, _ => hb
 | x :: L, b, hb, h => by
  rw [List.foldl_cons]
  refine fold_min_ge L _ ?_ fun i hi => h i (List.mem_cons_of_mem _ hi)
  split
  ·rename_i hv
   have := h x List.mem_cons_self hv
   simp only [gmin]; split <;> omega
  ·exact hb
theorem nodup_lenG {α : Type} [DecidableEq α] : ∀ {l m : List α}, l.Nodup → (∀ x ∈ l, x ∈ m) → l.length ≤ m.length
 | [], m, _, _ => Nat.zero_le _
 | x :: l, m, hn, hs => by
  have hx := hs x List.mem_cons_self
  rw [List.nodup_cons] at hn
  have := nodup_lenG (l := l) (m := m.erase x) hn.2 fun y hy => (List.mem_erase_of_ne (by rintro rfl; exact hn.1 hy)).2 (hs y (List.mem_cons_of_mem _ hy))
  rw [List.length_erase_of_mem hx] at this
  have := List.length_pos_of_mem hx
  simp only [List.length_cons]; omega
theorem layR_greedy {l : List Int} (n : Nat) : ∀ (r t : List (Int × Int)) (G : List (List (Int × Int))), LayI t G → (t ++ r).Pairwise (fun x y => x.1 < y.1) → (∀ s : List (Int × Int), (∀ x ∈ s, x ∈ t ++ r) → rowOk s → eachB l (s.map Prod.fst) false = true) →
  layR l n (r.map Prod.fst) (G.map (·.map Prod.fst)) ≤ (r.foldl layStep (G.map (·.map Prod.fst), G.map fun r => r.getLastD (0, 0))).1.length
 | [], t, G, _, _, _ => by simp [layR]
 | a :: r, t, G, hI, ht, hv => by
  obtain ⟨G', k1, k2, i, k3, k4, k5⟩ := layI_step hI (a := a) fun x hx => (List.pairwise_append.1 ht).2.2 x hx a List.mem_cons_self
  rw [List.foldl_cons, k2]
  have e : t ++ a :: r = (t ++ [a]) ++ r := by simp
  rw [e] at ht hv
  have ih := layR_greedy (l := l) n r (t ++ [a]) G' k1 ht hv
  rw [List.map_cons, layR_fold, List.length_map]
  refine Int.le_trans ((fold_min_le (f := fun i => layR l n (r.map Prod.fst) (putG (G.map (·.map Prod.fst)) i a.1)) (v := fun i => eachB l ((putG (G.map (·.map Prod.fst)) i a.1).getD i []) false) (List.range (G.length + 1)) _).2 i (List.mem_range.2 (by omega)) ?_) ?_
  ·rw [← k4]
   have hi : i < G'.length := by
    have := congrArg List.length k4
    rw [putG_len] at this
    simp only [List.length_map] at this
    split at this <;> omega
   have e2 : (G'.map (·.map Prod.fst)).getD i [] = (G'.getD i []).map Prod.fst := by simp [List.getD_eq_getElem?_getD, hi]
   rw [e2]
   refine hv _ (fun x hx => List.mem_append_left _ (k1.perm.mem_iff.1 (List.mem_flatten.2 ⟨_, ?_, hx⟩))) k5
   rw [getD_nat hi]; exact List.getElem_mem hi
  ·rw [← k4]; exact ih
theorem layR_lower {l : List Int} {n : Nat} {C : List Int} (hC : C.Nodup) (hx : ∀ x ∈ C, ∀ y ∈ C, x ≠ y → crossB l x y = true) (hn : C.length ≤ n + 1) : ∀ (r : List Int) (g : List (List Int)), (∀ s ∈ g, eachB l s false = true) → (∀ x ∈ C, x ∈ g.flatten ++ r) → (C.length : Int) ≤ layR l n r g
 | [], g, hg, hs => by
  simp only [layR]
  have hidx : ∀ x ∈ C, ∃ i, i < g.length ∧ x ∈ g.getD i [] := fun x hxC => by
   have := hs x hxC
   rw [List.append_nil] at this
   obtain ⟨s, hs1, hs2⟩ := List.mem_flatten.1 this
   obtain ⟨i, hi, rfl⟩ := List.mem_iff_getElem.1 hs1
   exact ⟨i, hi, by rw [getD_nat hi]; exact hs2⟩
  have key : ∀ (D : List Int), D.Nodup → (∀ x ∈ D, x ∈ C) → ∃ L : List Nat, L.length = D.length ∧ L.Nodup ∧ (∀ i ∈ L, i < g.length) ∧ ∀ i ∈ L, ∃ x ∈ D, x ∈ g.getD i [] := fun D => by
   induction D with
   | nil => exact fun _ _ => ⟨[], rfl, List.nodup_nil, fun i hi => (by cases hi), fun i hi => (by cases hi)⟩
   | cons x D ih =>
    intro hnd hsub
    rw [List.nodup_cons] at hnd
    obtain ⟨L, h1, h2, h3, h4⟩ := ih hnd.2 fun y hy => hsub y (List.mem_cons_of_mem _ hy)
    obtain ⟨i, hi, hxi⟩ := hidx x (hsub x List.mem_cons_self)
    refine ⟨i :: L, by simp [h1], List.nodup_cons.2 ⟨fun hm => ?_, h2⟩, fun j hj => ?_, fun j hj => ?_⟩
    ·obtain ⟨y, hy, hyi⟩ := h4 i hm
     have hne : x ≠ y := fun e => hnd.1 (e ▸ hy)
     have hc := hx x (hsub x List.mem_cons_self) y (hsub y (List.mem_cons_of_mem _ hy)) hne
     have he := hg _ (List.getElem_mem hi)
     rw [getD_nat hi] at hxi hyi
     obtain ⟨p, hp, rfl⟩ := List.mem_iff_getElem.1 hxi
     obtain ⟨q, hq, rfl⟩ := List.mem_iff_getElem.1 hyi
     have hpq : p ≠ q := fun e => hne (by subst e; rfl)
     simp only [eachB, List.all_eq_true, List.mem_range] at he
     rcases Nat.lt_or_ge q p with hlt | hge
     ·have := he p hp q hlt
      rw [getD_nat hp, getD_nat hq, hc] at this
      cases this
     ·have := he q hq p (by omega)
      rw [getD_nat hp, getD_nat hq, cross_comm, hc] at this
      cases this
    ·rcases List.mem_cons.1 hj with rfl | hj
     ·exact hi
     ·exact h3 j hj
    ·rcases List.mem_cons.1 hj with rfl | hj
     ·exact ⟨x, List.mem_cons_self, hxi⟩
     ·obtain ⟨y, hy, hyi⟩ := h4 j hj; exact ⟨y, List.mem_cons_of_mem _ hy, hyi⟩
  obtain ⟨L, h1, h2, h3, _⟩ := key C hC fun _ h => h
  have := nodup_lenG (l := L) (m := List.range g.length) h2 fun i hi => List.mem_range.2 (h3 i hi)
  rw [List.length_range] at this
  omega
 | w :: r, g, hg, hs => by
  rw [layR_fold]
  refine fold_min_ge (f := fun i => layR l n r (putG g i w)) (v := fun i => eachB l ((putG g i w).getD i []) false) _ _ (by omega) fun i hi hv => ?_
  have hi : i ≤ g.length := by have := List.mem_range.1 hi; omega
  have hl : i < (putG g i w).length := by rw [putG_len]; split <;> omega
  refine layR_lower hC hx hn r _ (fun s hsm => ?_) fun x hxC => ?_
  ·unfold putG at hsm hv
   split at hsm
   ·rename_i e
    rw [if_pos e] at hv
    rcases List.mem_append.1 hsm with hsm | hsm
    ·exact hg s hsm
    ·rw [List.mem_singleton.1 hsm]; subst e; simpa using hv
   ·rename_i e
    rw [if_neg e] at hv
    have hi2 : i < g.length := by omega
    rcases List.mem_or_eq_of_mem_set hsm with hsm | hsm
    ·exact hg s hsm
    ·rw [hsm]; simpa [List.getD_eq_getElem?_getD, hi2] using hv
  ·have hm := hs x hxC
   rw [List.mem_append, List.mem_cons] at hm
   rw [List.mem_append]
   have hput : ∀ y, y ∈ g.flatten ∨ y = w → y ∈ (putG g i w).flatten := fun y hy => by
    unfold putG
    split
    ·rw [List.flatten_append, List.mem_append]
     exact hy.imp id fun h => by simp [h]
    ·have hi2 : i < g.length := by omega
     refine ((flatten_set (a := w) hi2 rfl).mem_iff).2 (List.mem_append.2 (hy.imp id fun h => by simp [h]))
   rcases hm with hm | rfl | hm
   ·exact .inl (hput x (.inl hm))
   ·exact .inl (hput _ (.inr rfl))
   ·exact .inr hm
theorem and_dec {a b : Prop} [Decidable a] [Decidable b] (h : a → ¬ b) : (decide a && decide b) = false := by
 by_cases ha : a
 ·simp [ha, h ha]
 ·simp [ha]
theorem sorted_sublist : ∀ {t s : List (Int × Int)}, s.Pairwise (fun x y => x.1 < y.1) → t.Pairwise (fun x y => x.1 < y.1) → (∀ x ∈ s, x ∈ t) → s.Sublist t
 | [], s, _, _, h => by
  cases s with
  | nil => exact List.Sublist.refl _
  | cons a s => cases h a List.mem_cons_self
 | b :: t, [], _, _, _ => List.nil_sublist _
 | b :: t, a :: s, hs, ht, h => by
  obtain ⟨hs1, hs2⟩ := List.pairwise_cons.1 hs
  obtain ⟨ht1, ht2⟩ := List.pairwise_cons.1 ht
  rcases List.mem_cons.1 (h a List.mem_cons_self) with rfl | ha
  ·refine List.Sublist.cons_cons _ (sorted_sublist hs2 ht2 fun x hx => ?_)
   rcases List.mem_cons.1 (h x (List.mem_cons_of_mem _ hx)) with rfl | hx'
   ·have := hs1 x hx; omega
   ·exact hx'
  ·have hb := ht1 a ha
   refine List.Sublist.cons _ (sorted_sublist hs ht2 fun x hx => ?_)
   rcases List.mem_cons.1 (h x hx) with rfl | hx'
   ·rcases List.mem_cons.1 hx with rfl | hx
    ·omega
    ·have := hs1 x hx; omega
   ·exact hx'
theorem pairwise_or {α : Type} {R : α → α → Prop} : ∀ {l : List α}, l.Pairwise R → ∀ {x y : α}, x ∈ l → y ∈ l → x ≠ y → R x y ∨ R y x
 | a :: l, h, x, y, hx, hy, hne => by
  obtain ⟨h1, h2⟩ := List.pairwise_cons.1 h
  rcases List.mem_cons.1 hx with ex | hx' <;> rcases List.mem_cons.1 hy with ey | hy'
  ·exact absurd (ex.trans ey.symm) hne
  ·exact .inl (ex ▸ h1 y hy')
  ·exact .inr (ey ▸ h1 x hx')
  ·exact pairwise_or h2 hx' hy' hne
structure LayFacts (l : List Int) : Prop where
 len : ((layersW l).length : Int) = layR l (refThr l).length (refThr l) []
 row : ∀ r ∈ layersW l, r ≠ [] ∧ r.Pairwise (· < ·) ∧ (∀ x ∈ r, 0 ≤ x ∧ x < l.length ∧ 0 ≤ l.getD x.toNat 0) ∧ eachB l r false = true
 heads : (layersW l).Pairwise fun r s => r.getD 0 0 < s.getD 0 0
 nodup : (layersW l).flatten.Nodup
 size : (layersW l).flatten.length = (refThr l).length
theorem lay_facts {l : List Int} (h : ∀ x ∈ l, -1 ≤ x ∧ x ≤ 95) : LayFacts l := by
 have hs := thr_sorted l
 obtain ⟨G, hI, hG⟩ := layF_I (thr l) hs
 have hr : refThr l = (thr l).map Prod.fst := refThr_eq fun x hx => (h x hx).1
 have hL : layersW l = G.map (·.map Prod.fst) := by
  have : layersW l = (layF (thr l)).1 := rfl
  rw [this, hG]
 have hmem : ∀ R ∈ G, ∀ x ∈ R, x ∈ thr l := fun R hR x hx => hI.perm.mem_iff.1 (List.mem_flatten.2 ⟨R, hR, hx⟩)
 have hsub : ∀ R ∈ G, R.Sublist (thr l) := fun R hR => sorted_sublist ((hI.rows R hR).2.imp fun h => h.1) hs (hmem R hR)
 have hev : ∀ s : List (Int × Int), (∀ x ∈ s, x ∈ thr l) → rowOk s → eachB l (s.map Prod.fst) false = true := fun s hm hok =>
  (each_eq h (sorted_sublist (hok.2.imp fun h => h.1) hs hm) false).2 (hok.2.imp fun h => by simp; omega)
 have hfl : (G.map (·.map Prod.fst)).flatten = G.flatten.map Prod.fst := by rw [List.map_flatten]
 have hpm : (layersW l).flatten.Perm (refThr l) := by rw [hL, hfl, hr]; exact hI.perm.map _
 refine ⟨?_, fun r hrm => ?_, ?_, ?_, hpm.length_eq⟩
 ·have hle : layR l (refThr l).length (refThr l) [] ≤ (layersW l).length := by
   have := layR_greedy (l := l) (refThr l).length (thr l) [] [] layI_nil (by simpa using hs) fun s hm hok => hev s (by simpa using hm) hok
   rw [hr] at this ⊢
   exact this
  have hge : ((layersW l).length : Int) ≤ layR l (refThr l).length (refThr l) [] := by
   cases hk : G.length with
   | zero =>
    have e : (layersW l).length = 0 := by rw [hL, List.length_map, hk]
    rw [e]
    exact layR_lower (C := []) List.nodup_nil (fun x hx => by cases hx) (Nat.zero_le _) _ _ (fun s hs => by cases hs) fun x hx => by cases hx
   | succ k =>
    have hkl : k < G.length := by omega
    obtain ⟨C, c1, c2, c3⟩ := hI.chain k hkl
    have hnd : ((C ++ [G[k].getLastD (0, 0)]).map Prod.fst).Pairwise (· < ·) := by
     rw [List.pairwise_map]; exact hs.sublist c2
    have := layR_lower (l := l) (n := (refThr l).length) (C := (C ++ [G[k].getLastD (0, 0)]).map Prod.fst) (hnd.imp fun h => by omega) (fun x hx y hy hne => ?_) ?_ (refThr l) [] (fun s hs => by cases hs) fun x hx => ?_
    ·rw [List.length_map, List.length_append, c1] at this
     rw [hL, List.length_map, hk]
     simpa using this
    ·obtain ⟨x', hx', rfl⟩ := List.mem_map.1 hx
     obtain ⟨y', hy', rfl⟩ := List.mem_map.1 hy
     have hpw := (hs.sublist c2).and c3
     rcases pairwise_or hpw hx' hy' (fun e => hne (by rw [e])) with ⟨k1, k2⟩ | ⟨k1, k2⟩
     ·rw [cross_comm, cross_eq h (c2.subset hx') (c2.subset hy') k1]; simpa using k2
     ·rw [cross_eq h (c2.subset hy') (c2.subset hx') k1]; simpa using k2
    ·have := c2.length_le
     rw [hr, List.length_map, List.length_map]; omega
    ·rw [List.flatten_nil, List.nil_append, hr]
     obtain ⟨x', hx', rfl⟩ := List.mem_map.1 hx
     exact List.mem_map.2 ⟨x', c2.subset hx', rfl⟩
  omega
 ·rw [hL] at hrm
  obtain ⟨R, hR, rfl⟩ := List.mem_map.1 hrm
  have hok := hI.rows R hR
  refine ⟨by simpa using hok.1, ?_, fun x hx => ?_, hev R (hmem R hR) hok⟩
  ·rw [List.pairwise_map]; exact hok.2.imp fun h => h.1
  ·obtain ⟨p, hp, rfl⟩ := List.mem_map.1 hx
   obtain ⟨k1, k2, k3, k4, _⟩ := thr_eyes h (hmem R hR p hp)
   exact ⟨k1, k2, by rw [k3]; exact k4⟩
 ·rw [hL, List.pairwise_map]
  have := hI.heads
  rw [List.pairwise_map] at this
  refine List.Pairwise.imp_of_mem (fun {R S} hR hS hlt => ?_) this
  have e : ∀ R ∈ G, (R.map Prod.fst).getD 0 0 = (R.headD (0, 0)).1 := fun R hR => by
   have := (hI.rows R hR).1
   cases R with
   | nil => exact absurd rfl this
   | cons a R => rfl
  rw [e R hR, e S hS]; exact hlt
 ·refine (hpm.nodup_iff).2 ?_
  rw [hr, List.Nodup, List.pairwise_map]; exact hs.imp fun h => by omega
end Go.Proofs.Tryd
set_option linter.unusedVariables false
namespace Go.Proofs.Tryd
open Go Go.V Go.Proofs
theorem pk_cover {α : Type} {l : List α} {x : α} : ∀ {b : Nat}, x ∈ l → x ∈ pkI b l ∨ x ∈ pkN b l := by
 induction l with
 | nil => intro b h; cases h
 | cons y r ih =>
  intro b h
  simp only [pkI, pkN]
  rcases List.mem_cons.1 h with rfl | h
  ·split
   ·exact .inl List.mem_cons_self
   ·exact .inr List.mem_cons_self
  ·split
   ·exact (ih h).imp (List.mem_cons_of_mem _) id
   ·exact (ih h).imp id (List.mem_cons_of_mem _)
structure TanFacts (l : List Int) : Prop where
 tan : (tangleW l).Pairwise (fun x y => x < y ∧ l.getD y.toNat 0 ≤ l.getD x.toNat 0)
 tanIn : ∀ x ∈ tangleW l, 0 ≤ x ∧ x < l.length ∧ 0 ≤ l.getD x.toNat 0
 tanLen : (tangleW l).length = best crossR (-1, 96) (thr l)
 out : (outW l).Pairwise (· < ·)
 outIn : ∀ x ∈ outW l, 0 ≤ x ∧ x < l.length ∧ 0 ≤ l.getD x.toNat 0
 outLen : (outW l).length + best apartR (-1, -1) (thr l) = (thr l).length
 apart : ∀ a b : Nat, a < b → b < l.length → 0 ≤ l.getD a 0 → 0 ≤ l.getD b 0 → l.getD b 0 ≤ l.getD a 0 → (a : Int) ∈ outW l ∨ (b : Int) ∈ outW l
 layLen : (layersW l).length = best crossR (-1, 96) (thr l)
 none : crossingsI l = 0 → (outW l) = [] ∧ best crossR (-1, 96) (thr l) ≤ 1
theorem sub_pair_of {l : List Int} (h : ∀ x ∈ l, -1 ≤ x ∧ x ≤ 95) {s : List (Int × Int)} (hs : s.Sublist (thr l)) : (s.map Prod.fst).Pairwise (· < ·) := by
 rw [List.pairwise_map]; exact (thr_sorted l).sublist hs
theorem in_thr {l : List Int} (h : ∀ x ∈ l, -1 ≤ x ∧ x ≤ 95) {s : List (Int × Int)} (hs : s.Sublist (thr l)) : ∀ x ∈ s.map Prod.fst, 0 ≤ x ∧ x < l.length ∧ 0 ≤ l.getD x.toNat 0 := fun x hx => by
 obtain ⟨p, hp, rfl⟩ := List.mem_map.1 hx
 obtain ⟨k1, k2, k3, k4, _⟩ := thr_eyes h (hs.subset hp)
 exact ⟨k1, k2, by rw [k3]; exact k4⟩
theorem tan_facts {l : List Int} (h : ∀ x ∈ l, -1 ≤ x ∧ x ≤ 95) : TanFacts l := by
 have hs := thr_sorted l
 obtain ⟨bt, _, t1, t2⟩ := tanG_pk (R := crossR) cross_trans (l := thr l) (a := (-1, 96))
 obtain ⟨bo, _, o1, o2⟩ := outG_pk (R := apartR) apart_trans (l := thr l) (a := (-1, -1))
 have tsub : (pkI bt (thr l)).Sublist (thr l) := pkI_sub
 have osub : (pkN bo (thr l)).Sublist (thr l) := pkN_sub
 have ht : tangleW l = (pkI bt (thr l)).map Prod.fst := by rw [t1]; rfl
 have ho : outW l = (pkN bo (thr l)).map Prod.fst := by rw [o1]; rfl
 have htl : (tangleW l).length = best crossR (-1, 96) (thr l) := by rw [ht, List.length_map, t1]; exact tanG_len
 have hol : (outW l).length + best apartR (-1, -1) (thr l) = (thr l).length := by rw [ho, List.length_map, o1]; exact outG_len
 have f := lay_facts h
 refine ⟨?_, by rw [ht]; exact in_thr h tsub, htl, by rw [ho]; exact sub_pair_of h osub, by rw [ho]; exact in_thr h osub, hol, fun a b hab hb ha0 hb0 hc => ?_, ?_, fun hz => ?_⟩
 ·rw [ht, List.pairwise_map]
  refine List.Pairwise.imp_of_mem (fun {x y} hx hy hr => ?_) ((hs.sublist tsub).and (List.pairwise_cons.1 t2).2)
  obtain ⟨r1, r2⟩ := hr
  rw [(thr_eyes h (tsub.subset hx)).2.2.1, (thr_eyes h (tsub.subset hy)).2.2.1]
  simp only [crossR, decide_eq_true_eq] at r2
  exact ⟨r1, by omega⟩
 ·have ma : ((a : Int), l.getD a 0) ∈ thr l := thr_mem.2 ⟨a, by omega, rfl, by simp only; omega⟩
  have mb : ((b : Int), l.getD b 0) ∈ thr l := thr_mem.2 ⟨b, hb, rfl, by simp only; omega⟩
  rcases pk_cover (b := bo) ma with ia | ia
  ·rcases pk_cover (b := bo) mb with ib | ib
   ·have hpw := (hs.sublist (pkI_sub (b := bo))).and (List.pairwise_cons.1 o2).2
    rcases pairwise_or hpw ia ib (fun e => by have := (Prod.mk.inj e).1; omega) with ⟨k1, k2⟩ | ⟨k1, k2⟩
    ·simp only [apartR, decide_eq_true_eq] at k2; omega
    ·simp only at k1; omega
   ·right; rw [ho]; exact List.mem_map.2 ⟨_, ib, rfl⟩
  ·left; rw [ho]; exact List.mem_map.2 ⟨_, ia, rfl⟩
 ·have hr : refThr l = (thr l).map Prod.fst := refThr_eq fun x hx => (h x hx).1
  obtain ⟨G, hI, hG⟩ := layF_I (thr l) hs
  have hL : layersW l = G.map (·.map Prod.fst) := by
   have : layersW l = (layF (thr l)).1 := rfl
   rw [this, hG]
  apply Nat.le_antisymm
  ·rw [hL, List.length_map]
   cases hk : G.length with
   | zero => exact Nat.zero_le _
   | succ k =>
    obtain ⟨C, c1, c2, c3⟩ := hI.chain k (by omega)
    have := best_le (R := crossR) (a := (-1, 96)) c2 (List.pairwise_cons.2 ⟨fun x hx => first_cross h x (c2.subset hx), c3.imp fun h => by simpa [crossR] using h⟩)
    rw [List.length_append, c1] at this
    simpa using this
  ·have hpw := (hs.sublist tsub).and (List.pairwise_cons.1 t2).2
   have := layR_lower (l := l) (n := (refThr l).length) (C := tangleW l) ?_ (fun x hx y hy hne => ?_) ?_ (refThr l) [] (fun s hs => by cases hs) fun x hx => ?_
   ·rw [← f.len] at this; rw [← htl]; omega
   ·rw [ht]; exact (sub_pair_of h tsub).imp fun h => by omega
   ·rw [ht] at hx hy
    obtain ⟨x', hx', rfl⟩ := List.mem_map.1 hx
    obtain ⟨y', hy', rfl⟩ := List.mem_map.1 hy
    rcases pairwise_or hpw hx' hy' (fun e => hne (by rw [e])) with ⟨k1, k2⟩ | ⟨k1, k2⟩
    ·rw [cross_comm, cross_eq h (tsub.subset hx') (tsub.subset hy') k1]; simpa [crossR] using k2
    ·rw [cross_eq h (tsub.subset hy') (tsub.subset hx') k1]; simpa [crossR] using k2
   ·have := tsub.length_le
    rw [ht, hr, List.length_map, List.length_map]; omega
   ·rw [List.flatten_nil, List.nil_append, hr]
    rw [ht] at hx
    obtain ⟨x', hx', rfl⟩ := List.mem_map.1 hx
    exact List.mem_map.2 ⟨x', tsub.subset hx', rfl⟩
 ·rw [crossings_eq h] at hz
  have hap : (thr l).Pairwise fun x y => apartR x y = true := by
   have hz : pairs crossR (thr l) = 0 := by omega
   clear hs t1 t2 o1 o2 tsub osub ht ho htl hol f
   generalize thr l = T at hz
   induction T with
   | nil => exact List.Pairwise.nil
   | cons a r ih =>
    simp only [pairs] at hz
    refine List.pairwise_cons.2 ⟨fun x hx => ?_, ih (by omega)⟩
    have h0 : r.filter (crossR a) = [] := List.length_eq_zero_iff.1 (by omega)
    have := List.filter_eq_nil_iff.1 h0 x hx
    simp only [crossR, decide_eq_true_eq] at this
    simp only [apartR, decide_eq_true_eq]; omega
  constructor
  ·have := best_le (R := apartR) (a := (-1, -1)) (List.Sublist.refl (thr l)) (List.pairwise_cons.2 ⟨first_apart h, hap⟩)
   exact List.length_eq_zero_iff.1 (by omega)
  ·rw [← htl, ht, List.length_map]
   have hc := (List.pairwise_cons.1 t2).2
   have ha := hap.sublist tsub
   cases hp : pkI bt (thr l) with
   | nil => exact Nat.zero_le _
   | cons x r =>
    cases r with
    | nil => exact Nat.le_refl _
    | cons y r =>
     rw [hp] at hc ha
     have h1 := (List.pairwise_cons.1 hc).1 y List.mem_cons_self
     have h2 := (List.pairwise_cons.1 ha).1 y List.mem_cons_self
     simp only [crossR, apartR, decide_eq_true_eq] at h1 h2
     omega
def mirP (n : Int) (p : Int × Int) : Int × Int := (n - 1 - p.1, n - 1 - p.2)
def mirL (l : List Int) : List Int := (l.map fun e => if 0 ≤ e then (l.length : Int) - 1 - e else e).reverse
theorem mirL_len (l : List Int) : (mirL l).length = l.length := by simp [mirL]
theorem best_mir {α : Type} {R : α → α → Bool} (ht : ∀ x y z, R x y = true → R y z = true → R x z = true) {a a' : α} {T : List α} {m : α → α} (hm : ∀ x y, R x y = true → R (m y) (m x) = true) (ha : ∀ x ∈ T, R a' (m x) = true) :
  best R a T ≤ best R a' ((T.map m).reverse) := by
 obtain ⟨b, _, h1, h2⟩ := tanG_pk (R := R) ht (l := T) (a := a)
 rw [← tanG_len, ← h1]
 have h3 := best_le (R := R) (a := a') (s := ((pkI b T).map m).reverse) ((pkI_sub.map m).reverse) (List.pairwise_cons.2 ⟨fun x hx => ?_, ?_⟩)
 ·simpa using h3
 ·obtain ⟨y, hy, rfl⟩ := List.mem_map.1 (List.mem_reverse.1 hx)
  exact ha y (pkI_sub.subset hy)
 ·rw [List.pairwise_reverse, List.pairwise_map]
  exact (List.pairwise_cons.1 h2).2.imp fun h => hm _ _ h
theorem pairs_reverse {α : Type} (p : α → α → Bool) (l : List α) : pairs p l.reverse = pairs (fun a b => p b a) l := by
 induction l with
 | nil => rfl
 | cons a r ih => rw [List.reverse_cons, pairs_snoc, ih, List.filter_reverse, List.length_reverse]; simp only [pairs]; omega
theorem thr_mir {l : List Int} (h : ∀ x ∈ l, -1 ≤ x ∧ x < l.length) : thr (mirL l) = ((thr l).map (mirP l.length)).reverse := by
 have hg : ∀ k : Nat, k < l.length → (mirL l).getD k 0 = if 0 ≤ l.getD (l.length - 1 - k) 0 then (l.length : Int) - 1 - l.getD (l.length - 1 - k) 0 else l.getD (l.length - 1 - k) 0 := fun k hk => by
  have h1 : k < (l.map fun e => if 0 ≤ e then (l.length : Int) - 1 - e else e).length := by simpa using hk
  have h2 : l.length - 1 - k < l.length := by omega
  simp only [mirL]
  rw [List.getD_eq_getElem?_getD, List.getElem?_reverse h1]
  simp [List.getD_eq_getElem?_getD, h2]
 have hrev : (List.range l.length).reverse = (List.range l.length).map fun k => l.length - 1 - k := by
  apply List.ext_getElem (by simp)
  intro k h1 h2
  simp
 have e1 : ((thr l).map (mirP l.length)).reverse = ((List.range l.length).filter fun k => l.getD (l.length - 1 - k) 0 != -1).map fun k => mirP l.length (((l.length - 1 - k : Nat) : Int), l.getD (l.length - 1 - k) 0) := by
  unfold thr
  rw [← List.map_reverse, ← List.filter_reverse, ← List.map_reverse, hrev, List.map_map, List.filter_map, List.map_map]
  rfl
 rw [e1]
 unfold thr
 rw [List.filter_map, mirL_len]
 have e2 : (List.range l.length).filter ((fun p : Int × Int => p.2 != -1) ∘ fun (w : Nat) => ((w : Int), (mirL l).getD w 0)) = (List.range l.length).filter fun k => l.getD (l.length - 1 - k) 0 != -1 := by
  refine List.filter_congr fun k hk => ?_
  have hk := List.mem_range.1 hk
  have hb := h _ (List.getElem_mem (show l.length - 1 - k < l.length by omega))
  simp only [Function.comp, hg k hk, getD_nat (show l.length - 1 - k < l.length by omega)]
  rw [Bool.eq_iff_iff]
  simp only [bne_iff_ne, ne_eq]
  split <;> omega
 rw [e2]
 refine List.map_congr_left fun k hk => ?_
 obtain ⟨hk, hne⟩ := List.mem_filter.1 hk
 have hk := List.mem_range.1 hk
 have hb := h _ (List.getElem_mem (show l.length - 1 - k < l.length by omega))
 rw [hg k hk]
 simp only [bne_iff_ne, ne_eq] at hne
 rw [getD_nat (show l.length - 1 - k < l.length by omega)] at hne ⊢
 rw [if_pos (by omega)]
 simp only [mirP]
 exact Prod.ext (by simp only; omega) rfl
structure MirFacts (l : List Int) : Prop where
 ok : ∀ x ∈ mirL l, -1 ≤ x ∧ x ≤ 95
 cr : crossingsI (mirL l) = crossingsI l
 out : (outW (mirL l)).length = (outW l).length
 lay : (layersW (mirL l)).length = (layersW l).length
theorem mir_facts {l : List Int} (h : ∀ x ∈ l, -1 ≤ x ∧ x < l.length) (hn : l.length ≤ 96) : MirFacts l := by
 have hl : ∀ x ∈ l, -1 ≤ x ∧ x ≤ 95 := fun x hx => by have := h x hx; omega
 have ok : ∀ x ∈ mirL l, -1 ≤ x ∧ x ≤ 95 := fun x hx => by
  obtain ⟨e, he, rfl⟩ := List.mem_map.1 (List.mem_reverse.1 hx)
  have := h e he
  split <;> omega
 have hm := thr_mir h
 have inv : thr l = ((thr (mirL l)).map (mirP l.length)).reverse := by
  rw [hm, List.map_reverse, List.reverse_reverse, List.map_map]
  have : (mirP l.length ∘ mirP l.length) = id := by
   funext p; simp only [Function.comp, mirP, id]; exact Prod.ext (by simp only; omega) (by simp only; omega)
  rw [this, List.map_id]
 have cM : ∀ x y, crossR x y = true → crossR (mirP l.length y) (mirP l.length x) = true := fun x y hxy => by
  have h := of_decide_eq_true hxy
  exact decide_eq_true (show (l.length : Int) - 1 - y.2 ≥ (l.length : Int) - 1 - x.2 by omega)
 have aM : ∀ x y, apartR x y = true → apartR (mirP l.length y) (mirP l.length x) = true := fun x y hxy => by
  have h := of_decide_eq_true hxy
  exact decide_eq_true (show (l.length : Int) - 1 - y.2 < (l.length : Int) - 1 - x.2 by omega)
 have mem2 : ∀ x ∈ thr l, mirP l.length x ∈ thr (mirL l) := fun x hx => by rw [hm]; exact List.mem_reverse.2 (List.mem_map.2 ⟨x, hx, rfl⟩)
 have mem1 : ∀ x ∈ thr (mirL l), mirP l.length x ∈ thr l := fun x hx => by rw [inv]; exact List.mem_reverse.2 (List.mem_map.2 ⟨x, hx, rfl⟩)
 have b1 : best crossR (-1, 96) (thr (mirL l)) = best crossR (-1, 96) (thr l) := by
  apply Nat.le_antisymm
  ·have := best_mir (R := crossR) cross_trans (a := (-1, 96)) (a' := (-1, 96)) (T := thr (mirL l)) cM fun x hx => first_cross hl _ (mem1 x hx)
   rwa [← inv] at this
  ·have := best_mir (R := crossR) cross_trans (a := (-1, 96)) (a' := (-1, 96)) (T := thr l) cM fun x hx => first_cross ok _ (mem2 x hx)
   rwa [← hm] at this
 have b2 : best apartR (-1, -1) (thr (mirL l)) = best apartR (-1, -1) (thr l) := by
  apply Nat.le_antisymm
  ·have := best_mir (R := apartR) apart_trans (a := (-1, -1)) (a' := (-1, -1)) (T := thr (mirL l)) aM fun x hx => first_apart hl _ (mem1 x hx)
   rwa [← inv] at this
  ·have := best_mir (R := apartR) apart_trans (a := (-1, -1)) (a' := (-1, -1)) (T := thr l) aM fun x hx => first_apart ok _ (mem2 x hx)
   rwa [← hm] at this
 have t1 := tan_facts hl
 have t2 := tan_facts ok
 have tl : (thr (mirL l)).length = (thr l).length := by rw [hm]; simp
 refine ⟨ok, ?_, ?_, by rw [t2.layLen, t1.layLen, b1]⟩
 ·rw [crossings_eq ok, crossings_eq hl, hm, pairs_reverse, pairs_map]
  have e : (fun a b => crossR (mirP (↑l.length) b) (mirP (↑l.length) a)) = crossR := by
   funext a b
   simp only [crossR, mirP]
   exact decide_eq_decide.2 ⟨fun h => by omega, fun h => by omega⟩
  rw [e]
 ·have h1 := t1.outLen; have h2 := t2.outLen; omega
theorem cross_lt {l : List Int} {a b : Nat} (h : a < b) : crossB l a b = ((decide (0 ≤ l.getD a 0) && decide (0 ≤ l.getD b 0)) && decide (l.getD b 0 ≤ l.getD a 0)) := by
 have h1 : ¬ (b : Int) < a := by omega
 have h2 : (a : Int) < b := by omega
 simp [crossB, gmin, gmax, h1, h2]
theorem aput_new {F : List Int} {k : Int} (h : k ∉ F) : aput (.i .i64) (F.map fun x => (x, true)) k true = (F ++ [k]).map fun x => (x, true) := by
 induction F with
 | nil => rfl
 | cons a F ih =>
  have h1 : k ≠ a := fun e => h (by rw [e]; exact List.mem_cons_self)
  have h2 : k ∉ F := fun e => h (List.mem_cons_of_mem _ e)
  simp only [List.map_cons, List.cons_append]
  rw [aput_cons, if_neg h1, ih h2]
theorem aget_map {F : List Int} {k : Int} : gq.aget (.i .i64) (F.map fun x => (x, true)) k false = decide (k ∈ F) := by
 induction F with
 | nil => rfl
 | cons a F ih =>
  simp only [List.map_cons]
  rw [aget_cons, ih]
  by_cases e : k = a
  ·simp [e]
  ·simp [e]
theorem refThr_count (l : List Int) : (refThr l).length = ((List.range l.length).filter fun w => decide (0 ≤ l.getD w 0)).length := by simp [refThr]
theorem mirL_get {l : List Int} {j : Nat} (h : j < l.length) : (mirL l).getD (l.length - 1 - j) 0 = if 0 ≤ l.getD j 0 then (l.length : Int) - 1 - l.getD j 0 else l.getD j 0 := by
 have h1 : l.length - 1 - j < (l.map fun e => if 0 ≤ e then (l.length : Int) - 1 - e else e).length := by simp; omega
 have h2 : l.length - 1 - (l.length - 1 - j) = j := by omega
 simp only [mirL]
 rw [List.getD_eq_getElem?_getD, List.getElem?_reverse h1]
 simp [List.getD_eq_getElem?_getD, h, h2]
theorem cnt_succ (p : Nat → Bool) (b : Nat) : ((List.range (b + 1)).filter p).length = ((List.range b).filter p).length + if p b then 1 else 0 := by
 rw [List.range_succ, List.filter_append, List.length_append]
 congr 1
 simp only [List.filter_cons, List.filter_nil]
 split <;> rfl
theorem cnt_le (p : Nat → Bool) (b : Nat) : ((List.range b).filter p).length ≤ b := by
 have := List.length_filter_le p (List.range b); rwa [List.length_range] at this
def al_law11_Board_harness : AL (Int × List Int × List Int × List Int) := (.one (.agg (.cons (.k (.i .u8)) (.cons (.k (.list (.i .u8))) (.cons (.k (.list (.i .u16))) (.one (.k (.list (.i .u8)))))))))
def pre_law11_Board_harness (d : Int × List Int × List Int × List Int) : Prop := bOk d.1 d.2.1 d.2.2.1 d.2.2.2
def res_law11_Board_harness (d : Int × List Int × List Int × List Int) : SV := .agg [.val (.i .i64) (bHk d.1), .lst 0]
def obs_law11_Board_harness (d : Int × List Int × List Int × List Int) : List OB := [.lst 3 (.i .i64) (bWarps d.1 d.2.1) false]
def s_law11_Board_harness : CSp := mkSp al_law11_Board_harness pre_law11_Board_harness res_law11_Board_harness obs_law11_Board_harness
def vc_law11_Board_harness (h8 : Int) (ws : List Int) (rs : List Int) (ds : List Int) : Prop :=
 (I64 h8) ∧ ((10 : Int) ≠ 0) ∧ (I64 ((1 : Int) + (Int.tmod h8 (10 : Int)))) ∧ ∃ (e4 : Unit) (d40 : (List Int) × Int), ((True ∧ True ∧ True ∧ (0 : Int) = d40.2 ∧ True) ∧ ((h8 = h8 ∧ ws = ws ∧ rs = rs ∧ ds = ds ∧ (([] : List SV) = [])) ∧ ((0 : Int) = (0 : Int) ∧ True ∧ (([] : List SV) = [])) ∧ (((1 : Int) + (Int.tmod h8 (10 : Int))) = ((1 : Int) + (Int.tmod h8 (10 : Int))) ∧ True ∧ (([] : List SV) = [])) ∧ (d40.1 = [] ∧ (List.isEmpty d40.1) = true) ∧ True)) ∧
 LoopP (fun (d4 : (List Int) × Int) (q4 : ((List Int) × Int) → Prop) =>
  (((d4.2 == (0 : Int)) || ((decide (d4.2 < (lI ws))) && (decide (d4.2 < (24 : Int))))) = true →
   ((decide (d4.2 < (lI ws))) = true →
    (0 ≤ d4.2) ∧ (d4.2 < (List.length ws)) ∧ (I64 (gD ws d4.2 0)) ∧ (((1 : Int) + (Int.tmod h8 (10 : Int))) ≠ 0) ∧ (((List.length d4.1) + (List.length [(Int.tmod (gD ws d4.2 0) ((1 : Int) + (Int.tmod h8 (10 : Int))))])) * 8 ≤ 70368744177664) ∧ (I64 (d4.2 + (1 : Int))) ∧ (∃ d5 : (List Int) × Int, ((True ∧ True ∧ True ∧ (d4.2 + (1 : Int)) = d5.2 ∧ True) ∧ ((h8 = h8 ∧ ws = ws ∧ rs = rs ∧ ds = ds ∧ (([] : List SV) = [])) ∧ ((0 : Int) = (0 : Int) ∧ True ∧ (([] : List SV) = [])) ∧ (((1 : Int) + (Int.tmod h8 (10 : Int))) = ((1 : Int) + (Int.tmod h8 (10 : Int))) ∧ True ∧ (([] : List SV) = [])) ∧ ((d4.1 ++ [(Int.tmod (gD ws d4.2 0) ((1 : Int) + (Int.tmod h8 (10 : Int))))]) = d5.1 ∧ false = (List.isEmpty d5.1)) ∧ True)) ∧ q4 d5)) ∧
   ((decide (d4.2 < (lI ws))) = false →
    (((List.length d4.1) + (List.length [(0 : Int)])) * 8 ≤ 70368744177664) ∧ (I64 (d4.2 + (1 : Int))) ∧ (∃ d6 : (List Int) × Int, ((True ∧ True ∧ True ∧ (d4.2 + (1 : Int)) = d6.2 ∧ True) ∧ ((h8 = h8 ∧ ws = ws ∧ rs = rs ∧ ds = ds ∧ (([] : List SV) = [])) ∧ ((0 : Int) = (0 : Int) ∧ True ∧ (([] : List SV) = [])) ∧ (((1 : Int) + (Int.tmod h8 (10 : Int))) = ((1 : Int) + (Int.tmod h8 (10 : Int))) ∧ True ∧ (([] : List SV) = [])) ∧ ((d4.1 ++ [(0 : Int)]) = d6.1 ∧ false = (List.isEmpty d6.1)) ∧ True)) ∧ q4 d6))) ∧
  (((d4.2 == (0 : Int)) || ((decide (d4.2 < (lI ws))) && (decide (d4.2 < (24 : Int))))) = false →
   ((((1 : Int) + (Int.tmod h8 (10 : Int))) = (bHk h8) ∧ True ∧ (([] : List SV) = [])) ∧ ((d4.1 = (bWarps h8 ws) ∧ (List.isEmpty d4.1) = false) ∧ True)))) d40
def cx_law11_Board_harness : Cx := ⟨[(3, (.i .i64))], [], 48, [], 0, [], [], [], [], false⟩
def lp_law11_Board_harness (h8 : Int) (ws : List Int) (rs : List Int) (ds : List Int) : List (Nat × LoopAnn) := [(0, ⟨Unit, (List Int) × Int, [1, 2, 3, 4], fun e x => [.box 1 0, .box 2 0, .box 3 0, .val (.i .i64) x.2], fun e x => [(1, .slot 1, .cells [.val (.i .u8) h8, .val (.list (.i .u8)) ws, .val (.list (.i .u16)) rs, .val (.list (.i .u8)) ds] (some 58)), (2, .slot 2, .cells [.val (.i .i64) (0 : Int), .nilS] (some 24)), (3, .slot 3, .cells [.val (.i .i64) ((1 : Int) + (Int.tmod h8 (10 : Int))), .lst 45] (some 24)), (45, .cell 3 1, .lst 3 (.i .i64) x.1 (List.isEmpty x.1))]⟩)]
set_option maxRecDepth 100000 in
theorem vq_law11_Board_harness (d : Int × List Int × List Int × List Int) : gwp (cx_law11_Board_harness) (lp_law11_Board_harness d.1 d.2.1 d.2.2.1 d.2.2.2) c31 0 (gend [.cell 2 true 2] (res_law11_Board_harness d) (obs_law11_Board_harness d)) (gstart 48 (AL.can al_law11_Board_harness d)) = vc_law11_Board_harness d.1 d.2.1 d.2.2.1 d.2.2.2 := by kernel_rfl
abbrev Ok_law11_Board_harness : Prop := OkC Tryd.prog 31 s_law11_Board_harness
theorem mk_law11_Board_harness (h : ∀ (h8 : Int) (ws : List Int) (rs : List Int) (ds : List Int), (bOk h8 ws rs ds) → vc_law11_Board_harness h8 ws rs ds) : OkC Tryd.prog 31 s_law11_Board_harness :=
 okC_vc fun31 mixed (C := cx_law11_Board_harness) (V := fun (d : Int × List Int × List Int × List Int) => vc_law11_Board_harness d.1 d.2.1 d.2.2.1 d.2.2.2) ⟨.nil, XsOk.nil, ItsOk.nil⟩ (vq_law11_Board_harness) fun d hp => h d.1 d.2.1 d.2.2.1 d.2.2.2 hp
theorem hkN_range {m h8 : Int} (hm : 0 < m) (h : 0 ≤ h8) : 1 ≤ hkN m h8 ∧ hkN m h8 ≤ m := by
 have h1 := Int.tmod_nonneg m h
 have h2 := Int.tmod_lt_of_pos h8 hm
 simp only [hkN]; omega
theorem warpsN_len {hk : Int} {cap : Nat} {ws : List Int} : (warpsN hk cap ws).length = if ws = [] then 1 else min cap ws.length := by
 unfold warpsN; split <;> simp
theorem warpsN_get {hk : Int} {cap : Nat} {ws : List Int} {i : Nat} (h : i < ws.length) (hc : i < cap) : (warpsN hk cap ws)[i]? = some (Int.tmod (ws.getD i 0) hk) := by
 have hne : ws ≠ [] := by rintro rfl; simp at h
 unfold warpsN; rw [if_neg hne]
 simp [hc, h]
theorem ok_law11_Board_harness : Ok_law11_Board_harness := mk_law11_Board_harness fun h8 ws rs ds h => by
 obtain ⟨h1, h2, hws, hrs, hds⟩ := h
 have hk := hkN_range (m := 10) (by omega) h1
 have e : (1 + Int.tmod h8 10) = bHk h8 := rfl
 have hk : 1 ≤ bHk h8 ∧ bHk h8 ≤ 10 := hk
 unfold vc_law11_Board_harness; (try delta lI gD sT I64); simp only [true_and, and_true, exists_const, decide_eq_true_eq, decide_eq_false_iff_not, ne_eq, InK_i64, e]
 refine ⟨by omega, by omega, by omega, ([], 0), ⟨rfl, rfl, rfl⟩, ?_⟩
 have hN : (bWarps h8 ws).length = if ws = [] then 1 else min 24 ws.length := warpsN_len
 have hcond : ∀ k : Nat, (((k : Int) == 0) || (decide ((k : Int) < ws.length) && decide ((k : Int) < 24))) = decide (k < (bWarps h8 ws).length) := fun k => by
  rw [hN]
  by_cases hz : ws = []
  ·subst hz
   cases k <;> simp; omega
  ·have : 0 < ws.length := List.length_pos_iff.2 hz
   rw [if_neg hz]
   cases k with
   | zero => simp; omega
   | succ k =>
    rw [Bool.eq_iff_iff]
    simp; omega
 have hNle : (bWarps h8 ws).length ≤ 24 := by rw [hN]; split <;> omega
 refine LoopP.count2 (bWarps h8 ws).length (fun k xs => xs = (bWarps h8 ws).take k) (by simp) fun k xs hk hJ q hq => ?_
 dsimp only
 rw [hcond]
 simp only [decide_eq_true_eq, decide_eq_false_iff_not, Int.toNat_natCast, Int.ofNat_lt]
 refine ⟨fun hlt => ⟨fun hw => ?_, fun hw => ?_⟩, fun hge => ?_⟩
 ·have hw : k < ws.length := by omega
  have hws' := hws _ (List.getElem_mem hw)
  have hk24 : k < 24 := by omega
  simp only [getD_nat hw, List.length_singleton]
  have hv : (bWarps h8 ws)[k] = Int.tmod ws[k] (bHk h8) := by
   have := warpsN_get (hk := bHk h8) hw hk24
   rw [getD_nat hw] at this
   have h3 := List.getElem?_eq_getElem hlt
   exact Option.some.inj (h3.symm.trans this)
  refine ⟨by omega, by omega, by omega, by omega, by rw [hJ, List.length_take]; omega, by omega, (xs ++ [Int.tmod ws[k] (bHk h8)], (k : Int) + 1), ⟨rfl, rfl, by simp⟩, hq _ hlt ?_⟩
  rw [take_succ_eq hlt, ← hJ, hv]
 ·have hz : ws = [] := by
   cases hws : ws with
   | nil => rfl
   | cons a l =>
    exfalso
    rw [hN] at hlt
    have : ws ≠ [] := by rw [hws]; simp
    rw [if_neg this] at hlt
    omega
  have hk0 : k = 0 := by rw [hN, if_pos hz] at hlt; omega
  subst hk0
  simp only [List.length_singleton]
  refine ⟨by rw [hJ, List.length_take]; omega, by omega, (xs ++ [0], 1), ⟨rfl, rfl, by simp⟩, hq _ hlt ?_⟩
  rw [take_succ_eq hlt, ← hJ]
  simp [bWarps, warpsN, hz]
 ·have : k = (bWarps h8 ws).length := by omega
  subst this
  rw [List.take_length] at hJ
  subst hJ
  refine ⟨rfl, ?_⟩
  rw [List.isEmpty_eq_false_iff]
  intro hz
  rw [hz] at hN
  split at hN
  ·cases hN
  ·rename_i hne
   have := List.length_pos_iff.2 hne
   simp only [List.length_nil] at hN
   omega
def al_law11_Board_drawing : AL ((Int × List Int × List Int × List Int) × Int) := (.cons (.agg (.cons (.k (.i .u8)) (.cons (.k (.list (.i .u8))) (.cons (.k (.list (.i .u16))) (.one (.k (.list (.i .u8)))))))) (.one (.k (.i .i64))))
def pre_law11_Board_drawing (d : (Int × List Int × List Int × List Int) × Int) : Prop := 1 ≤ d.2 ∧ d.2 ≤ 24 ∧ bOk d.1.1 d.1.2.1 d.1.2.2.1 d.1.2.2.2
def res_law11_Board_drawing (d : (Int × List Int × List Int × List Int) × Int) : SV := .lst 0
def obs_law11_Board_drawing (d : (Int × List Int × List Int × List Int) × Int) : List OB := [.lst 3 (.i .i64) (bDraw d.1.2.2.2 d.2.toNat) false]
def s_law11_Board_drawing : CSp := mkSp al_law11_Board_drawing pre_law11_Board_drawing res_law11_Board_drawing obs_law11_Board_drawing
def vc_law11_Board_drawing (h8 : Int) (ws : List Int) (rs : List Int) (ds : List Int) (n : Int) : Prop :=
 ∃ (e3 : Unit) (d30 : (List Int) × Int), ((n = n ∧ True ∧ True ∧ (0 : Int) = d30.2 ∧ True) ∧ ((h8 = h8 ∧ ws = ws ∧ rs = rs ∧ ds = ds ∧ (([] : List SV) = [])) ∧ (([] : List Int) = d30.1 ∧ false = false) ∧ True)) ∧
 LoopP (fun (d3 : (List Int) × Int) (q3 : ((List Int) × Int) → Prop) =>
  ((decide (d3.2 < n)) = true →
   ((decide (d3.2 < (lI ds))) = true →
    (0 ≤ d3.2) ∧ (d3.2 < (List.length ds)) ∧ (I64 (gD ds d3.2 0)) ∧ ((16 : Int) ≠ 0) ∧ (((Int.tmod (gD ds d3.2 0) (16 : Int)) == (15 : Int)) = true →
     (((List.length d3.1) + (List.length [(-1 : Int)])) * 8 ≤ 70368744177664) ∧ (I64 (d3.2 + (1 : Int))) ∧ (∃ d4 : (List Int) × Int, ((n = n ∧ True ∧ True ∧ (d3.2 + (1 : Int)) = d4.2 ∧ True) ∧ ((h8 = h8 ∧ ws = ws ∧ rs = rs ∧ ds = ds ∧ (([] : List SV) = [])) ∧ ((d3.1 ++ [(-1 : Int)]) = d4.1 ∧ false = false) ∧ True)) ∧ q3 d4)) ∧
    (((Int.tmod (gD ds d3.2 0) (16 : Int)) == (15 : Int)) = false →
     ((decide ((gD ds d3.2 0) ≥ (80 : Int))) = true →
      (n ≠ 0) ∧ (((List.length d3.1) + (List.length [(Int.tmod (gD ds d3.2 0) n)])) * 8 ≤ 70368744177664) ∧ (I64 (d3.2 + (1 : Int))) ∧ (∃ d5 : (List Int) × Int, ((n = n ∧ True ∧ True ∧ (d3.2 + (1 : Int)) = d5.2 ∧ True) ∧ ((h8 = h8 ∧ ws = ws ∧ rs = rs ∧ ds = ds ∧ (([] : List SV) = [])) ∧ ((d3.1 ++ [(Int.tmod (gD ds d3.2 0) n)]) = d5.1 ∧ false = false) ∧ True)) ∧ q3 d5)) ∧
     ((decide ((gD ds d3.2 0) ≥ (80 : Int))) = false →
      (((List.length d3.1) + (List.length [d3.2])) * 8 ≤ 70368744177664) ∧ (I64 (d3.2 + (1 : Int))) ∧ (∃ d6 : (List Int) × Int, ((n = n ∧ True ∧ True ∧ (d3.2 + (1 : Int)) = d6.2 ∧ True) ∧ ((h8 = h8 ∧ ws = ws ∧ rs = rs ∧ ds = ds ∧ (([] : List SV) = [])) ∧ ((d3.1 ++ [d3.2]) = d6.1 ∧ false = false) ∧ True)) ∧ q3 d6)))) ∧
   ((decide (d3.2 < (lI ds))) = false →
    (((List.length d3.1) + (List.length [d3.2])) * 8 ≤ 70368744177664) ∧ (I64 (d3.2 + (1 : Int))) ∧ (∃ d7 : (List Int) × Int, ((n = n ∧ True ∧ True ∧ (d3.2 + (1 : Int)) = d7.2 ∧ True) ∧ ((h8 = h8 ∧ ws = ws ∧ rs = rs ∧ ds = ds ∧ (([] : List SV) = [])) ∧ ((d3.1 ++ [d3.2]) = d7.1 ∧ false = false) ∧ True)) ∧ q3 d7))) ∧
  ((decide (d3.2 < n)) = false →
   (True ∧ ((d3.1 = (bDraw ds n.toNat) ∧ false = false) ∧ True)))) d30
def cx_law11_Board_drawing : Cx := ⟨[(3, (.i .i64))], [], 40, [], 0, [], [], [], [], false⟩
def lp_law11_Board_drawing (h8 : Int) (ws : List Int) (rs : List Int) (ds : List Int) (n : Int) : List (Nat × LoopAnn) := [(0, ⟨Unit, (List Int) × Int, [1, 2, 5, 6], fun e x => [.val (.i .i64) n, .box 2 0, .lst 9, .val (.i .i64) x.2], fun e x => [(2, .slot 2, .cells [.val (.i .u8) h8, .val (.list (.i .u8)) ws, .val (.list (.i .u16)) rs, .val (.list (.i .u8)) ds] (some 58)), (9, .slot 5, .lst 3 (.i .i64) x.1 false)]⟩)]
set_option maxRecDepth 100000 in
theorem vq_law11_Board_drawing (d : (Int × List Int × List Int × List Int) × Int) : gwp (cx_law11_Board_drawing) (lp_law11_Board_drawing d.1.1 d.1.2.1 d.1.2.2.1 d.1.2.2.2 d.2) c33 0 (gend [.tmp 4] (res_law11_Board_drawing d) (obs_law11_Board_drawing d)) (gstart 40 (AL.can al_law11_Board_drawing d)) = vc_law11_Board_drawing d.1.1 d.1.2.1 d.1.2.2.1 d.1.2.2.2 d.2 := by kernel_rfl
abbrev Ok_law11_Board_drawing : Prop := OkC Tryd.prog 33 s_law11_Board_drawing
theorem mk_law11_Board_drawing (h : ∀ (h8 : Int) (ws : List Int) (rs : List Int) (ds : List Int) (n : Int), (1 ≤ n ∧ n ≤ 24 ∧ bOk h8 ws rs ds) → vc_law11_Board_drawing h8 ws rs ds n) : OkC Tryd.prog 33 s_law11_Board_drawing :=
 okC_vc fun33 mixed (C := cx_law11_Board_drawing) (V := fun (d : (Int × List Int × List Int × List Int) × Int) => vc_law11_Board_drawing d.1.1 d.1.2.1 d.1.2.2.1 d.1.2.2.2 d.2) ⟨.nil, XsOk.nil, ItsOk.nil⟩ (vq_law11_Board_drawing) fun d hp => h d.1.1 d.1.2.1 d.1.2.2.1 d.1.2.2.2 d.2 hp
theorem bDraw_len (ds : List Int) (n : Nat) : (bDraw ds n).length = n := by simp [bDraw]
theorem bDraw_get (ds : List Int) {n k : Nat} (h : k < n) : (bDraw ds n)[k]'(by rw [bDraw_len]; exact h) = if k < ds.length then (if Int.tmod (ds.getD k 0) 16 = 15 then -1 else if ds.getD k 0 ≥ 80 then Int.tmod (ds.getD k 0) n else k) else k := by
 simp [bDraw]
theorem ok_law11_Board_drawing : Ok_law11_Board_drawing := mk_law11_Board_drawing fun h8 ws rs ds n h => by
 obtain ⟨hn1, hn2, h1, h2, hws, hrs, hds⟩ := h
 obtain ⟨n, rfl⟩ := Int.eq_ofNat_of_zero_le (show 0 ≤ n by omega)
 unfold vc_law11_Board_drawing; (try delta lI gD sT I64); simp only [true_and, and_true, exists_const, decide_eq_true_eq, decide_eq_false_iff_not, beq_iff_eq, ne_eq, beq_eq_false_iff_ne, Int.toNat_natCast, ge_iff_le, InK_i64]
 refine ⟨([], 0), ⟨rfl, rfl⟩, ?_⟩
 have hl := bDraw_len ds n
 refine LoopP.count2 n (fun k xs => xs = (bDraw ds n).take k) (by simp) fun k xs hk hJ q hq => ?_
 have hxl : xs.length = k := by rw [hJ, List.length_take]; omega
 dsimp only
 simp only [Int.toNat_natCast, Int.ofNat_lt]
 have fin : ∀ (hlt : k < n) (v : Int), (bDraw ds n)[k]'(by rw [hl]; exact hlt) = v → ∃ d : List Int × Int, ((k : Int) + 1 = d.2 ∧ xs ++ [v] = d.1) ∧ q d := fun hlt v hv => by
  refine ⟨(xs ++ [v], (k : Int) + 1), ⟨rfl, rfl⟩, hq _ hlt ?_⟩
  rw [take_succ_eq (by rw [hl]; exact hlt), ← hJ, hv]
 refine ⟨fun hlt => ⟨fun hw => ?_, fun hw => ?_⟩, fun hge => ?_⟩
 ·have hw : k < ds.length := by omega
  have hd := hds _ (List.getElem_mem hw)
  have hg := bDraw_get ds (n := n) (k := k) (by omega)
  rw [if_pos hw] at hg
  simp only [getD_nat hw, List.length_singleton] at hg ⊢
  refine ⟨by omega, by omega, by omega, by omega, fun h16 => ?_, fun h16 => ⟨fun h80 => ?_, fun h80 => ?_⟩⟩
  ·rw [if_pos h16] at hg
   exact ⟨by omega, by omega, fin (by omega) _ hg⟩
  ·rw [if_neg h16, if_pos h80] at hg
   exact ⟨by omega, by omega, by omega, fin (by omega) _ hg⟩
  ·rw [if_neg h16, if_neg h80] at hg
   exact ⟨by omega, by omega, fin (by omega) _ hg⟩
 ·have hw : ¬ k < ds.length := by omega
  have hg := bDraw_get ds (n := n) (k := k) (by omega)
  rw [if_neg hw] at hg
  simp only [List.length_singleton]
  exact ⟨by omega, by omega, fin (by omega) _ hg⟩
 ·have : k = n := by omega
  subst this
  rw [hJ, List.take_of_length_le (by omega)]
end Go.Proofs.Tryd
set_option linter.unusedVariables false
namespace Go.Proofs.Tryd
open Go Go.V Go.Proofs
structure FewI (l : List Int) (m : List (Int × Bool)) (tk : Int) (od : List Int) (i : Nat) : Prop where
 perm : od.Perm ((List.range l.length).map fun (w : Nat) => (w : Int))
 st : ∀ w : Int, gq.aget (.i .i64) m w false = true → w ∈ od.take i ∧ 0 ≤ l.getD w.toNat 0
 ap : ∀ v w : Int, gq.aget (.i .i64) m v false = true → gq.aget (.i .i64) m w false = true → v < w → l.getD v.toNat 0 < l.getD w.toNat 0
 cnt : tk = ((od.take i).filter fun (w : Int) => decide (0 ≤ l.getD w.toNat 0) && !gq.aget (.i .i64) m w false).length
theorem FewI.len {l : List Int} {m : List (Int × Bool)} {tk : Int} {od : List Int} {i : Nat} (h : FewI l m tk od i) : od.length = l.length := by rw [h.perm.length_eq]; simp
theorem FewI.mem {l : List Int} {m : List (Int × Bool)} {tk : Int} {od : List Int} {i : Nat} (h : FewI l m tk od i) {w : Int} (hw : w ∈ od) : 0 ≤ w ∧ w < l.length := by
 obtain ⟨k, hk, rfl⟩ := List.mem_map.1 (h.perm.mem_iff.1 hw)
 have := List.mem_range.1 hk
 omega
theorem FewI.fin {l : List Int} (hl : ∀ x ∈ l, -1 ≤ x ∧ x ≤ 95) {m : List (Int × Bool)} {tk : Int} {od : List Int} (h : FewI l m tk od l.length) : ((outW l).length : Int) ≤ tk := by
 have hlen := h.len
 have htake : od.take l.length = od := List.take_of_length_le (by omega)
 have hcnt := h.cnt
 rw [htake] at hcnt
 have T := tan_facts hl
 have hp := (h.perm.filter fun (w : Int) => decide (0 ≤ l.getD w.toNat 0) && !gq.aget (.i .i64) m w false).length_eq
 have hthr : refThr l = (thr l).map Prod.fst := refThr_eq fun x hx => (hl x hx).1
 have e1 : ((List.range l.length).map fun (w : Nat) => (w : Int)).filter (fun (w : Int) => decide (0 ≤ l.getD w.toNat 0) && !gq.aget (.i .i64) m w false) = (refThr l).filter fun (w : Int) => !gq.aget (.i .i64) m w false := by
  unfold refThr
  rw [List.filter_map, List.filter_map, List.filter_filter]
  congr 1
  refine List.filter_congr fun w hw => ?_
  simp only [Function.comp, Int.toNat_natCast]
  exact Bool.and_comm _ _
 rw [e1, hthr, List.filter_map, List.length_map] at hp
 have hst : ((thr l).filter fun p => gq.aget (.i .i64) m p.1 false).Pairwise fun x y => apartR x y = true := by
  refine List.Pairwise.imp_of_mem (fun {x y} hx hy hlt => ?_) ((thr_sorted l).sublist List.filter_sublist)
  obtain ⟨x1, x2⟩ := List.mem_filter.1 hx
  obtain ⟨y1, y2⟩ := List.mem_filter.1 hy
  have := h.ap x.1 y.1 x2 y2 hlt
  rw [(thr_eyes hl x1).2.2.1, (thr_eyes hl y1).2.2.1] at this
  exact decide_eq_true this
 have hb := best_le (R := apartR) (a := (-1, -1)) (List.filter_sublist (p := fun p : Int × Int => gq.aget (.i .i64) m p.1 false) (l := thr l)) (List.pairwise_cons.2 ⟨fun x hx => first_apart hl x (List.mem_filter.1 hx).1, hst⟩)
 have hsum : ∀ (q : Int × Int → Bool) (L : List (Int × Int)), (L.filter q).length + (L.filter fun p => !q p).length = L.length := fun q L => by
  induction L with
  | nil => rfl
  | cons a L ih => simp only [List.filter_cons]; cases q a <;> simp <;> omega
 have := hsum (fun p => gq.aget (.i .i64) m p.1 false) (thr l)
 have hol := T.outLen
 have e2 : ((thr l).filter ((fun (w : Int) => !gq.aget (.i .i64) m w false) ∘ Prod.fst)).length = ((thr l).filter fun p => !gq.aget (.i .i64) m p.1 false).length := rfl
 rw [e2] at hp
 omega
end Go.Proofs.Tryd
set_option linter.unusedVariables false
namespace Go.Proofs.Tryd
open Go Go.V Go.Proofs
def al_law11_EyeTangle : AL (Int × List Int × List Int × List Int) := (.one (.agg (.cons (.k (.i .u8)) (.cons (.k (.list (.i .u8))) (.cons (.k (.list (.i .u16))) (.one (.k (.list (.i .u8)))))))))
def pre_law11_EyeTangle (d : Int × List Int × List Int × List Int) : Prop := bOk d.1 d.2.1 d.2.2.1 d.2.2.2
def res_law11_EyeTangle (d : Int × List Int × List Int × List Int) : SV := .val .bo true
def obs_law11_EyeTangle (d : Int × List Int × List Int × List Int) : List OB := []
def s_law11_EyeTangle : CSp := mkSp al_law11_EyeTangle pre_law11_EyeTangle res_law11_EyeTangle obs_law11_EyeTangle
def vc_law11_EyeTangle (h8 : Int) (ws : List Int) (rs : List Int) (ds : List Int) : Prop :=
 (bOk h8 ws rs ds) ∧ (1 ≤ (lI (bWarps h8 ws)) ∧ (lI (bWarps h8 ws)) ≤ 24 ∧ bOk h8 ws rs ds) ∧ ((bDraw ds (lI (bWarps h8 ws)).toNat).length ≤ 110) ∧ ((bDraw ds (lI (bWarps h8 ws)).toNat).length ≤ 110) ∧ ((bDraw ds (lI (bWarps h8 ws)).toNat).length ≤ 110) ∧ ((bDraw ds (lI (bWarps h8 ws)).toNat).length ≤ 110) ∧ ((bDraw ds (lI (bWarps h8 ws)).toNat).length ≤ 110) ∧ ((bDraw ds (lI (bWarps h8 ws)).toNat).length ≤ 110) ∧ ((bDraw ds (lI (bWarps h8 ws)).toNat).length ≤ 110) ∧ ((bDraw ds (lI (bWarps h8 ws)).toNat).length ≤ 110) ∧ ∀ (y1 : Bool), y1 = (aloneErr (bDraw ds (lI (bWarps h8 ws)).toNat) != (0 : Int)) → ∀ (y2 : Bool), y2 = (aloneErr (bDraw ds (lI (bWarps h8 ws)).toNat) != (0 : Int)) → ∀ (y3 : Bool), y3 = (y1 || y2) → ∀ (y4 : Bool), y4 = (aloneErr (bDraw ds (lI (bWarps h8 ws)).toNat) != (0 : Int)) → ∀ (y5 : Bool), y5 = (y3 || y4) → ∀ (y6 : Bool), y6 = (aloneErr (bDraw ds (lI (bWarps h8 ws)).toNat) != (0 : Int)) → ∀ (y7 : Bool), y7 = (y5 || y6) → ∀ (y8 : Bool), y8 = ((lI (if aloneErr (bDraw ds (lI (bWarps h8 ws)).toNat) = 0 then layersW (bDraw ds (lI (bWarps h8 ws)).toNat) else [])) != (lI (if aloneErr (bDraw ds (lI (bWarps h8 ws)).toNat) = 0 then tangleW (bDraw ds (lI (bWarps h8 ws)).toNat) else []))) → ∀ (y9 : Bool), y9 = (y7 || y8) → (y9 = true →
  (false = true ∧ (True))) ∧
 (y9 = false →
  ∃ (e3 : Unit) (d30 : (List (Int × Bool)) × Int), (((lI (bWarps h8 ws)) = (lI (bWarps h8 ws)) ∧ True ∧ (if aloneErr (bDraw ds (lI (bWarps h8 ws)).toNat) = 0 then crossingsI (bDraw ds (lI (bWarps h8 ws)).toNat) else 0) = (if aloneErr (bDraw ds (lI (bWarps h8 ws)).toNat) = 0 then crossingsI (bDraw ds (lI (bWarps h8 ws)).toNat) else 0) ∧ True ∧ True ∧ True ∧ True ∧ True ∧ (0 : Int) = (0 : Int) ∧ (0 : Int) = d30.2 ∧ True) ∧ (((bDraw ds (lI (bWarps h8 ws)).toNat) = (bDraw ds (lI (bWarps h8 ws)).toNat) ∧ false = false) ∧ ((if aloneErr (bDraw ds (lI (bWarps h8 ws)).toNat) = 0 then outW (bDraw ds (lI (bWarps h8 ws)).toNat) else []) = (if aloneErr (bDraw ds (lI (bWarps h8 ws)).toNat) = 0 then outW (bDraw ds (lI (bWarps h8 ws)).toNat) else []) ∧ (if aloneErr (bDraw ds (lI (bWarps h8 ws)).toNat) = 0 then outW (bDraw ds (lI (bWarps h8 ws)).toNat) else []).isEmpty = (List.isEmpty (if aloneErr (bDraw ds (lI (bWarps h8 ws)).toNat) = 0 then outW (bDraw ds (lI (bWarps h8 ws)).toNat) else []))) ∧ ((if aloneErr (bDraw ds (lI (bWarps h8 ws)).toNat) = 0 then layersW (bDraw ds (lI (bWarps h8 ws)).toNat) else []) = (if aloneErr (bDraw ds (lI (bWarps h8 ws)).toNat) = 0 then layersW (bDraw ds (lI (bWarps h8 ws)).toNat) else []) ∧ (if aloneErr (bDraw ds (lI (bWarps h8 ws)).toNat) = 0 then layersW (bDraw ds (lI (bWarps h8 ws)).toNat) else []).isEmpty = (List.isEmpty (if aloneErr (bDraw ds (lI (bWarps h8 ws)).toNat) = 0 then layersW (bDraw ds (lI (bWarps h8 ws)).toNat) else []))) ∧ ((if aloneErr (bDraw ds (lI (bWarps h8 ws)).toNat) = 0 then tangleW (bDraw ds (lI (bWarps h8 ws)).toNat) else []) = (if aloneErr (bDraw ds (lI (bWarps h8 ws)).toNat) = 0 then tangleW (bDraw ds (lI (bWarps h8 ws)).toNat) else []) ∧ (if aloneErr (bDraw ds (lI (bWarps h8 ws)).toNat) = 0 then tangleW (bDraw ds (lI (bWarps h8 ws)).toNat) else []).isEmpty = (List.isEmpty (if aloneErr (bDraw ds (lI (bWarps h8 ws)).toNat) = 0 then tangleW (bDraw ds (lI (bWarps h8 ws)).toNat) else []))) ∧ (([] : List (Int × Bool)) = d30.1) ∧ (([] : List (Int × Bool)) = ([] : List (Int × Bool))) ∧ True)) ∧
  LoopP (fun (d3 : (List (Int × Bool)) × Int) (q3 : ((List (Int × Bool)) × Int) → Prop) =>
   ∀ (y44 : Bool), y44 = (decide (d3.2 < (lI (if aloneErr (bDraw ds (lI (bWarps h8 ws)).toNat) = 0 then outW (bDraw ds (lI (bWarps h8 ws)).toNat) else [])))) → (y44 = true →
    (0 ≤ d3.2) ∧ (d3.2 < (List.length (if aloneErr (bDraw ds (lI (bWarps h8 ws)).toNat) = 0 then outW (bDraw ds (lI (bWarps h8 ws)).toNat) else []))) ∧ ∀ (y45 : Int), y45 = (gD (if aloneErr (bDraw ds (lI (bWarps h8 ws)).toNat) = 0 then outW (bDraw ds (lI (bWarps h8 ws)).toNat) else []) d3.2 0) → ∀ (y46 : Bool), y46 = (decide (y45 < (0 : Int))) → (y46 = false → 0 ≤ d3.2) ∧ (y46 = false → d3.2 < (List.length (if aloneErr (bDraw ds (lI (bWarps h8 ws)).toNat) = 0 then outW (bDraw ds (lI (bWarps h8 ws)).toNat) else []))) ∧ ∀ (y47 : Int), y47 = (gD (if aloneErr (bDraw ds (lI (bWarps h8 ws)).toNat) = 0 then outW (bDraw ds (lI (bWarps h8 ws)).toNat) else []) d3.2 0) → ∀ (y48 : Bool), y48 = (decide (y47 ≥ (lI (bWarps h8 ws)))) → ∀ (y49 : Bool), y49 = (y46 || y48) → (y49 = false → 0 ≤ d3.2) ∧ (y49 = false → d3.2 < (List.length (if aloneErr (bDraw ds (lI (bWarps h8 ws)).toNat) = 0 then outW (bDraw ds (lI (bWarps h8 ws)).toNat) else []))) ∧ ∀ (y50 : Int), y50 = (gD (if aloneErr (bDraw ds (lI (bWarps h8 ws)).toNat) = 0 then outW (bDraw ds (lI (bWarps h8 ws)).toNat) else []) d3.2 0) → (y49 = false → 0 ≤ y50) ∧ (y49 = false → y50 < (List.length (bDraw ds (lI (bWarps h8 ws)).toNat))) ∧ ∀ (y51 : Int), y51 = (gD (bDraw ds (lI (bWarps h8 ws)).toNat) y50 0) → ∀ (y52 : Bool), y52 = (decide (y51 < (0 : Int))) → ∀ (y53 : Bool), y53 = (y49 || y52) → ∀ (y54 : Bool), y54 = (decide (d3.2 > (0 : Int))) → (y53 = false → y54 = true → 0 ≤ d3.2) ∧ (y53 = false → y54 = true → d3.2 < (List.length (if aloneErr (bDraw ds (lI (bWarps h8 ws)).toNat) = 0 then outW (bDraw ds (lI (bWarps h8 ws)).toNat) else []))) ∧ ∀ (y55 : Int), y55 = (gD (if aloneErr (bDraw ds (lI (bWarps h8 ws)).toNat) = 0 then outW (bDraw ds (lI (bWarps h8 ws)).toNat) else []) d3.2 0) → (y53 = false → y54 = true → InK .i64 (d3.2 - (1 : Int))) ∧ (y53 = false → y54 = true → 0 ≤ (d3.2 - (1 : Int))) ∧ (y53 = false → y54 = true → (d3.2 - (1 : Int)) < (List.length (if aloneErr (bDraw ds (lI (bWarps h8 ws)).toNat) = 0 then outW (bDraw ds (lI (bWarps h8 ws)).toNat) else []))) ∧ ∀ (y56 : Int), y56 = (gD (if aloneErr (bDraw ds (lI (bWarps h8 ws)).toNat) = 0 then outW (bDraw ds (lI (bWarps h8 ws)).toNat) else []) (d3.2 - (1 : Int)) 0) → ∀ (y57 : Bool), y57 = (decide (y55 ≤ y56)) → ∀ (y58 : Bool), y58 = (y54 && y57) → ∀ (y59 : Bool), y59 = (y53 || y58) → (y59 = true →
     (false = true ∧ (True))) ∧
    (y59 = false →
     (0 ≤ d3.2) ∧ (d3.2 < (List.length (if aloneErr (bDraw ds (lI (bWarps h8 ws)).toNat) = 0 then outW (bDraw ds (lI (bWarps h8 ws)).toNat) else []))) ∧ ∀ (y60 : Int), y60 = (gD (if aloneErr (bDraw ds (lI (bWarps h8 ws)).toNat) = 0 then outW (bDraw ds (lI (bWarps h8 ws)).toNat) else []) d3.2 0) → (I64 (d3.2 + (1 : Int))) ∧ (∃ d4 : (List (Int × Bool)) × Int, (((lI (bWarps h8 ws)) = (lI (bWarps h8 ws)) ∧ True ∧ (if aloneErr (bDraw ds (lI (bWarps h8 ws)).toNat) = 0 then crossingsI (bDraw ds (lI (bWarps h8 ws)).toNat) else 0) = (if aloneErr (bDraw ds (lI (bWarps h8 ws)).toNat) = 0 then crossingsI (bDraw ds (lI (bWarps h8 ws)).toNat) else 0) ∧ True ∧ True ∧ True ∧ True ∧ True ∧ (0 : Int) = (0 : Int) ∧ (d3.2 + (1 : Int)) = d4.2 ∧ True) ∧ (((bDraw ds (lI (bWarps h8 ws)).toNat) = (bDraw ds (lI (bWarps h8 ws)).toNat) ∧ false = false) ∧ ((if aloneErr (bDraw ds (lI (bWarps h8 ws)).toNat) = 0 then outW (bDraw ds (lI (bWarps h8 ws)).toNat) else []) = (if aloneErr (bDraw ds (lI (bWarps h8 ws)).toNat) = 0 then outW (bDraw ds (lI (bWarps h8 ws)).toNat) else []) ∧ (List.isEmpty (if aloneErr (bDraw ds (lI (bWarps h8 ws)).toNat) = 0 then outW (bDraw ds (lI (bWarps h8 ws)).toNat) else [])) = (List.isEmpty (if aloneErr (bDraw ds (lI (bWarps h8 ws)).toNat) = 0 then outW (bDraw ds (lI (bWarps h8 ws)).toNat) else []))) ∧ ((if aloneErr (bDraw ds (lI (bWarps h8 ws)).toNat) = 0 then layersW (bDraw ds (lI (bWarps h8 ws)).toNat) else []) = (if aloneErr (bDraw ds (lI (bWarps h8 ws)).toNat) = 0 then layersW (bDraw ds (lI (bWarps h8 ws)).toNat) else []) ∧ (List.isEmpty (if aloneErr (bDraw ds (lI (bWarps h8 ws)).toNat) = 0 then layersW (bDraw ds (lI (bWarps h8 ws)).toNat) else [])) = (List.isEmpty (if aloneErr (bDraw ds (lI (bWarps h8 ws)).toNat) = 0 then layersW (bDraw ds (lI (bWarps h8 ws)).toNat) else []))) ∧ ((if aloneErr (bDraw ds (lI (bWarps h8 ws)).toNat) = 0 then tangleW (bDraw ds (lI (bWarps h8 ws)).toNat) else []) = (if aloneErr (bDraw ds (lI (bWarps h8 ws)).toNat) = 0 then tangleW (bDraw ds (lI (bWarps h8 ws)).toNat) else []) ∧ (List.isEmpty (if aloneErr (bDraw ds (lI (bWarps h8 ws)).toNat) = 0 then tangleW (bDraw ds (lI (bWarps h8 ws)).toNat) else [])) = (List.isEmpty (if aloneErr (bDraw ds (lI (bWarps h8 ws)).toNat) = 0 then tangleW (bDraw ds (lI (bWarps h8 ws)).toNat) else []))) ∧ ((aput (.i .i64) d3.1 y60 true) = d4.1) ∧ (([] : List (Int × Bool)) = ([] : List (Int × Bool))) ∧ True)) ∧ q3 d4))) ∧
   (y44 = false →
    ∃ (e7 : (List (Int × Bool))) (d70 : Int × Int × Int), (((lI (bWarps h8 ws)) = (lI (bWarps h8 ws)) ∧ True ∧ (if aloneErr (bDraw ds (lI (bWarps h8 ws)).toNat) = 0 then crossingsI (bDraw ds (lI (bWarps h8 ws)).toNat) else 0) = (if aloneErr (bDraw ds (lI (bWarps h8 ws)).toNat) = 0 then crossingsI (bDraw ds (lI (bWarps h8 ws)).toNat) else 0) ∧ True ∧ True ∧ True ∧ True ∧ True ∧ (0 : Int) = d70.1 ∧ (0 : Int) = d70.2.1 ∧ (0 : Int) = d70.2.2 ∧ True) ∧ (((bDraw ds (lI (bWarps h8 ws)).toNat) = (bDraw ds (lI (bWarps h8 ws)).toNat) ∧ false = false) ∧ ((if aloneErr (bDraw ds (lI (bWarps h8 ws)).toNat) = 0 then outW (bDraw ds (lI (bWarps h8 ws)).toNat) else []) = (if aloneErr (bDraw ds (lI (bWarps h8 ws)).toNat) = 0 then outW (bDraw ds (lI (bWarps h8 ws)).toNat) else []) ∧ (List.isEmpty (if aloneErr (bDraw ds (lI (bWarps h8 ws)).toNat) = 0 then outW (bDraw ds (lI (bWarps h8 ws)).toNat) else [])) = (List.isEmpty (if aloneErr (bDraw ds (lI (bWarps h8 ws)).toNat) = 0 then outW (bDraw ds (lI (bWarps h8 ws)).toNat) else []))) ∧ ((if aloneErr (bDraw ds (lI (bWarps h8 ws)).toNat) = 0 then layersW (bDraw ds (lI (bWarps h8 ws)).toNat) else []) = (if aloneErr (bDraw ds (lI (bWarps h8 ws)).toNat) = 0 then layersW (bDraw ds (lI (bWarps h8 ws)).toNat) else []) ∧ (List.isEmpty (if aloneErr (bDraw ds (lI (bWarps h8 ws)).toNat) = 0 then layersW (bDraw ds (lI (bWarps h8 ws)).toNat) else [])) = (List.isEmpty (if aloneErr (bDraw ds (lI (bWarps h8 ws)).toNat) = 0 then layersW (bDraw ds (lI (bWarps h8 ws)).toNat) else []))) ∧ ((if aloneErr (bDraw ds (lI (bWarps h8 ws)).toNat) = 0 then tangleW (bDraw ds (lI (bWarps h8 ws)).toNat) else []) = (if aloneErr (bDraw ds (lI (bWarps h8 ws)).toNat) = 0 then tangleW (bDraw ds (lI (bWarps h8 ws)).toNat) else []) ∧ (List.isEmpty (if aloneErr (bDraw ds (lI (bWarps h8 ws)).toNat) = 0 then tangleW (bDraw ds (lI (bWarps h8 ws)).toNat) else [])) = (List.isEmpty (if aloneErr (bDraw ds (lI (bWarps h8 ws)).toNat) = 0 then tangleW (bDraw ds (lI (bWarps h8 ws)).toNat) else []))) ∧ (d3.1 = e7) ∧ (([] : List (Int × Bool)) = ([] : List (Int × Bool))) ∧ True)) ∧
    LoopP (fun (d7 : Int × Int × Int) (q7 : (Int × Int × Int) → Prop) =>
     ∀ (y139 : Bool), y139 = (decide (d7.2.2 < (lI (bWarps h8 ws)))) → (y139 = true →
      (0 ≤ d7.2.2) ∧ (d7.2.2 < (List.length (bDraw ds (lI (bWarps h8 ws)).toNat))) ∧ ∀ (y140 : Int), y140 = (gD (bDraw ds (lI (bWarps h8 ws)).toNat) d7.2.2 0) → ∀ (y141 : Bool), y141 = (decide (y140 < (0 : Int))) → (y141 = true →
       (I64 (d7.2.2 + (1 : Int))) ∧ (∃ d8 : Int × Int × Int, (((lI (bWarps h8 ws)) = (lI (bWarps h8 ws)) ∧ True ∧ (if aloneErr (bDraw ds (lI (bWarps h8 ws)).toNat) = 0 then crossingsI (bDraw ds (lI (bWarps h8 ws)).toNat) else 0) = (if aloneErr (bDraw ds (lI (bWarps h8 ws)).toNat) = 0 then crossingsI (bDraw ds (lI (bWarps h8 ws)).toNat) else 0) ∧ True ∧ True ∧ True ∧ True ∧ True ∧ d7.1 = d8.1 ∧ d7.2.1 = d8.2.1 ∧ (d7.2.2 + (1 : Int)) = d8.2.2 ∧ True) ∧ (((bDraw ds (lI (bWarps h8 ws)).toNat) = (bDraw ds (lI (bWarps h8 ws)).toNat) ∧ false = false) ∧ ((if aloneErr (bDraw ds (lI (bWarps h8 ws)).toNat) = 0 then outW (bDraw ds (lI (bWarps h8 ws)).toNat) else []) = (if aloneErr (bDraw ds (lI (bWarps h8 ws)).toNat) = 0 then outW (bDraw ds (lI (bWarps h8 ws)).toNat) else []) ∧ (List.isEmpty (if aloneErr (bDraw ds (lI (bWarps h8 ws)).toNat) = 0 then outW (bDraw ds (lI (bWarps h8 ws)).toNat) else [])) = (List.isEmpty (if aloneErr (bDraw ds (lI (bWarps h8 ws)).toNat) = 0 then outW (bDraw ds (lI (bWarps h8 ws)).toNat) else []))) ∧ ((if aloneErr (bDraw ds (lI (bWarps h8 ws)).toNat) = 0 then layersW (bDraw ds (lI (bWarps h8 ws)).toNat) else []) = (if aloneErr (bDraw ds (lI (bWarps h8 ws)).toNat) = 0 then layersW (bDraw ds (lI (bWarps h8 ws)).toNat) else []) ∧ (List.isEmpty (if aloneErr (bDraw ds (lI (bWarps h8 ws)).toNat) = 0 then layersW (bDraw ds (lI (bWarps h8 ws)).toNat) else [])) = (List.isEmpty (if aloneErr (bDraw ds (lI (bWarps h8 ws)).toNat) = 0 then layersW (bDraw ds (lI (bWarps h8 ws)).toNat) else []))) ∧ ((if aloneErr (bDraw ds (lI (bWarps h8 ws)).toNat) = 0 then tangleW (bDraw ds (lI (bWarps h8 ws)).toNat) else []) = (if aloneErr (bDraw ds (lI (bWarps h8 ws)).toNat) = 0 then tangleW (bDraw ds (lI (bWarps h8 ws)).toNat) else []) ∧ (List.isEmpty (if aloneErr (bDraw ds (lI (bWarps h8 ws)).toNat) = 0 then tangleW (bDraw ds (lI (bWarps h8 ws)).toNat) else [])) = (List.isEmpty (if aloneErr (bDraw ds (lI (bWarps h8 ws)).toNat) = 0 then tangleW (bDraw ds (lI (bWarps h8 ws)).toNat) else []))) ∧ (e7 = e7) ∧ (([] : List (Int × Bool)) = ([] : List (Int × Bool))) ∧ True)) ∧ q7 d8)) ∧
      (y141 = false →
       (I64 (d7.1 + (1 : Int))) ∧ ∃ (e11 : (List (Int × Bool)) × Int × Int) (d110 : Int × Int), (((lI (bWarps h8 ws)) = (lI (bWarps h8 ws)) ∧ True ∧ (if aloneErr (bDraw ds (lI (bWarps h8 ws)).toNat) = 0 then crossingsI (bDraw ds (lI (bWarps h8 ws)).toNat) else 0) = (if aloneErr (bDraw ds (lI (bWarps h8 ws)).toNat) = 0 then crossingsI (bDraw ds (lI (bWarps h8 ws)).toNat) else 0) ∧ True ∧ True ∧ True ∧ True ∧ True ∧ (d7.1 + (1 : Int)) = e11.2.1 ∧ d7.2.1 = d110.1 ∧ d7.2.2 = e11.2.2 ∧ (0 : Int) = d110.2 ∧ True) ∧ (((bDraw ds (lI (bWarps h8 ws)).toNat) = (bDraw ds (lI (bWarps h8 ws)).toNat) ∧ false = false) ∧ ((if aloneErr (bDraw ds (lI (bWarps h8 ws)).toNat) = 0 then outW (bDraw ds (lI (bWarps h8 ws)).toNat) else []) = (if aloneErr (bDraw ds (lI (bWarps h8 ws)).toNat) = 0 then outW (bDraw ds (lI (bWarps h8 ws)).toNat) else []) ∧ (List.isEmpty (if aloneErr (bDraw ds (lI (bWarps h8 ws)).toNat) = 0 then outW (bDraw ds (lI (bWarps h8 ws)).toNat) else [])) = (List.isEmpty (if aloneErr (bDraw ds (lI (bWarps h8 ws)).toNat) = 0 then outW (bDraw ds (lI (bWarps h8 ws)).toNat) else []))) ∧ ((if aloneErr (bDraw ds (lI (bWarps h8 ws)).toNat) = 0 then layersW (bDraw ds (lI (bWarps h8 ws)).toNat) else []) = (if aloneErr (bDraw ds (lI (bWarps h8 ws)).toNat) = 0 then layersW (bDraw ds (lI (bWarps h8 ws)).toNat) else []) ∧ (List.isEmpty (if aloneErr (bDraw ds (lI (bWarps h8 ws)).toNat) = 0 then layersW (bDraw ds (lI (bWarps h8 ws)).toNat) else [])) = (List.isEmpty (if aloneErr (bDraw ds (lI (bWarps h8 ws)).toNat) = 0 then layersW (bDraw ds (lI (bWarps h8 ws)).toNat) else []))) ∧ ((if aloneErr (bDraw ds (lI (bWarps h8 ws)).toNat) = 0 then tangleW (bDraw ds (lI (bWarps h8 ws)).toNat) else []) = (if aloneErr (bDraw ds (lI (bWarps h8 ws)).toNat) = 0 then tangleW (bDraw ds (lI (bWarps h8 ws)).toNat) else []) ∧ (List.isEmpty (if aloneErr (bDraw ds (lI (bWarps h8 ws)).toNat) = 0 then tangleW (bDraw ds (lI (bWarps h8 ws)).toNat) else [])) = (List.isEmpty (if aloneErr (bDraw ds (lI (bWarps h8 ws)).toNat) = 0 then tangleW (bDraw ds (lI (bWarps h8 ws)).toNat) else []))) ∧ (e7 = e11.1) ∧ (([] : List (Int × Bool)) = ([] : List (Int × Bool))) ∧ True)) ∧
       LoopP (fun (d11 : Int × Int) (q11 : (Int × Int) → Prop) =>
        ∀ (y166 : Bool), y166 = (decide (d11.2 < e11.2.2)) → (y166 = true →
         (0 ≤ d11.2) ∧ (d11.2 < (List.length (bDraw ds (lI (bWarps h8 ws)).toNat))) ∧ ∀ (y167 : Int), y167 = (gD (bDraw ds (lI (bWarps h8 ws)).toNat) d11.2 0) → ∀ (y168 : Bool), y168 = (decide (y167 ≥ (0 : Int))) → (y168 = true → 0 ≤ d11.2) ∧ (y168 = true → d11.2 < (List.length (bDraw ds (lI (bWarps h8 ws)).toNat))) ∧ ∀ (y169 : Int), y169 = (gD (bDraw ds (lI (bWarps h8 ws)).toNat) d11.2 0) → (y168 = true → 0 ≤ e11.2.2) ∧ (y168 = true → e11.2.2 < (List.length (bDraw ds (lI (bWarps h8 ws)).toNat))) ∧ ∀ (y170 : Int), y170 = (gD (bDraw ds (lI (bWarps h8 ws)).toNat) e11.2.2 0) → ∀ (y171 : Bool), y171 = (decide (y169 ≥ y170)) → ∀ (y172 : Bool), y172 = (y168 && y171) → (y172 = true →
          (I64 (d11.1 + (1 : Int))) ∧ ∀ (y173 : Bool), y173 = (gq.aget (.i .i64) e11.1 d11.2 false) → ∀ (y174 : Bool), y174 = (!y173) → ∀ (y175 : Bool), y175 = (gq.aget (.i .i64) e11.1 e11.2.2 false) → ∀ (y176 : Bool), y176 = (!y175) → ∀ (y177 : Bool), y177 = (y174 && y176) → (y177 = true →
           (false = true ∧ (True))) ∧
          (y177 = false →
           (I64 (d11.2 + (1 : Int))) ∧ (∃ d12 : Int × Int, (((lI (bWarps h8 ws)) = (lI (bWarps h8 ws)) ∧ True ∧ (if aloneErr (bDraw ds (lI (bWarps h8 ws)).toNat) = 0 then crossingsI (bDraw ds (lI (bWarps h8 ws)).toNat) else 0) = (if aloneErr (bDraw ds (lI (bWarps h8 ws)).toNat) = 0 then crossingsI (bDraw ds (lI (bWarps h8 ws)).toNat) else 0) ∧ True ∧ True ∧ True ∧ True ∧ True ∧ e11.2.1 = e11.2.1 ∧ (d11.1 + (1 : Int)) = d12.1 ∧ e11.2.2 = e11.2.2 ∧ (d11.2 + (1 : Int)) = d12.2 ∧ True) ∧ (((bDraw ds (lI (bWarps h8 ws)).toNat) = (bDraw ds (lI (bWarps h8 ws)).toNat) ∧ false = false) ∧ ((if aloneErr (bDraw ds (lI (bWarps h8 ws)).toNat) = 0 then outW (bDraw ds (lI (bWarps h8 ws)).toNat) else []) = (if aloneErr (bDraw ds (lI (bWarps h8 ws)).toNat) = 0 then outW (bDraw ds (lI (bWarps h8 ws)).toNat) else []) ∧ (List.isEmpty (if aloneErr (bDraw ds (lI (bWarps h8 ws)).toNat) = 0 then outW (bDraw ds (lI (bWarps h8 ws)).toNat) else [])) = (List.isEmpty (if aloneErr (bDraw ds (lI (bWarps h8 ws)).toNat) = 0 then outW (bDraw ds (lI (bWarps h8 ws)).toNat) else []))) ∧ ((if aloneErr (bDraw ds (lI (bWarps h8 ws)).toNat) = 0 then layersW (bDraw ds (lI (bWarps h8 ws)).toNat) else []) = (if aloneErr (bDraw ds (lI (bWarps h8 ws)).toNat) = 0 then layersW (bDraw ds (lI (bWarps h8 ws)).toNat) else []) ∧ (List.isEmpty (if aloneErr (bDraw ds (lI (bWarps h8 ws)).toNat) = 0 then layersW (bDraw ds (lI (bWarps h8 ws)).toNat) else [])) = (List.isEmpty (if aloneErr (bDraw ds (lI (bWarps h8 ws)).toNat) = 0 then layersW (bDraw ds (lI (bWarps h8 ws)).toNat) else []))) ∧ ((if aloneErr (bDraw ds (lI (bWarps h8 ws)).toNat) = 0 then tangleW (bDraw ds (lI (bWarps h8 ws)).toNat) else []) = (if aloneErr (bDraw ds (lI (bWarps h8 ws)).toNat) = 0 then tangleW (bDraw ds (lI (bWarps h8 ws)).toNat) else []) ∧ (List.isEmpty (if aloneErr (bDraw ds (lI (bWarps h8 ws)).toNat) = 0 then tangleW (bDraw ds (lI (bWarps h8 ws)).toNat) else [])) = (List.isEmpty (if aloneErr (bDraw ds (lI (bWarps h8 ws)).toNat) = 0 then tangleW (bDraw ds (lI (bWarps h8 ws)).toNat) else []))) ∧ (e11.1 = e11.1) ∧ (([] : List (Int × Bool)) = ([] : List (Int × Bool))) ∧ True)) ∧ q11 d12))) ∧
         (y172 = false →
          (I64 (d11.2 + (1 : Int))) ∧ (∃ d13 : Int × Int, (((lI (bWarps h8 ws)) = (lI (bWarps h8 ws)) ∧ True ∧ (if aloneErr (bDraw ds (lI (bWarps h8 ws)).toNat) = 0 then crossingsI (bDraw ds (lI (bWarps h8 ws)).toNat) else 0) = (if aloneErr (bDraw ds (lI (bWarps h8 ws)).toNat) = 0 then crossingsI (bDraw ds (lI (bWarps h8 ws)).toNat) else 0) ∧ True ∧ True ∧ True ∧ True ∧ True ∧ e11.2.1 = e11.2.1 ∧ d11.1 = d13.1 ∧ e11.2.2 = e11.2.2 ∧ (d11.2 + (1 : Int)) = d13.2 ∧ True) ∧ (((bDraw ds (lI (bWarps h8 ws)).toNat) = (bDraw ds (lI (bWarps h8 ws)).toNat) ∧ false = false) ∧ ((if aloneErr (bDraw ds (lI (bWarps h8 ws)).toNat) = 0 then outW (bDraw ds (lI (bWarps h8 ws)).toNat) else []) = (if aloneErr (bDraw ds (lI (bWarps h8 ws)).toNat) = 0 then outW (bDraw ds (lI (bWarps h8 ws)).toNat) else []) ∧ (List.isEmpty (if aloneErr (bDraw ds (lI (bWarps h8 ws)).toNat) = 0 then outW (bDraw ds (lI (bWarps h8 ws)).toNat) else [])) = (List.isEmpty (if aloneErr (bDraw ds (lI (bWarps h8 ws)).toNat) = 0 then outW (bDraw ds (lI (bWarps h8 ws)).toNat) else []))) ∧ ((if aloneErr (bDraw ds (lI (bWarps h8 ws)).toNat) = 0 then layersW (bDraw ds (lI (bWarps h8 ws)).toNat) else []) = (if aloneErr (bDraw ds (lI (bWarps h8 ws)).toNat) = 0 then layersW (bDraw ds (lI (bWarps h8 ws)).toNat) else []) ∧ (List.isEmpty (if aloneErr (bDraw ds (lI (bWarps h8 ws)).toNat) = 0 then layersW (bDraw ds (lI (bWarps h8 ws)).toNat) else [])) = (List.isEmpty (if aloneErr (bDraw ds (lI (bWarps h8 ws)).toNat) = 0 then layersW (bDraw ds (lI (bWarps h8 ws)).toNat) else []))) ∧ ((if aloneErr (bDraw ds (lI (bWarps h8 ws)).toNat) = 0 then tangleW (bDraw ds (lI (bWarps h8 ws)).toNat) else []) = (if aloneErr (bDraw ds (lI (bWarps h8 ws)).toNat) = 0 then tangleW (bDraw ds (lI (bWarps h8 ws)).toNat) else []) ∧ (List.isEmpty (if aloneErr (bDraw ds (lI (bWarps h8 ws)).toNat) = 0 then tangleW (bDraw ds (lI (bWarps h8 ws)).toNat) else [])) = (List.isEmpty (if aloneErr (bDraw ds (lI (bWarps h8 ws)).toNat) = 0 then tangleW (bDraw ds (lI (bWarps h8 ws)).toNat) else []))) ∧ (e11.1 = e11.1) ∧ (([] : List (Int × Bool)) = ([] : List (Int × Bool))) ∧ True)) ∧ q11 d13))) ∧
        (y166 = false →
         (I64 (e11.2.2 + (1 : Int))) ∧ (∃ d14 : Int × Int × Int, (((lI (bWarps h8 ws)) = (lI (bWarps h8 ws)) ∧ True ∧ (if aloneErr (bDraw ds (lI (bWarps h8 ws)).toNat) = 0 then crossingsI (bDraw ds (lI (bWarps h8 ws)).toNat) else 0) = (if aloneErr (bDraw ds (lI (bWarps h8 ws)).toNat) = 0 then crossingsI (bDraw ds (lI (bWarps h8 ws)).toNat) else 0) ∧ True ∧ True ∧ True ∧ True ∧ True ∧ e11.2.1 = d14.1 ∧ d11.1 = d14.2.1 ∧ (e11.2.2 + (1 : Int)) = d14.2.2 ∧ True) ∧ (((bDraw ds (lI (bWarps h8 ws)).toNat) = (bDraw ds (lI (bWarps h8 ws)).toNat) ∧ false = false) ∧ ((if aloneErr (bDraw ds (lI (bWarps h8 ws)).toNat) = 0 then outW (bDraw ds (lI (bWarps h8 ws)).toNat) else []) = (if aloneErr (bDraw ds (lI (bWarps h8 ws)).toNat) = 0 then outW (bDraw ds (lI (bWarps h8 ws)).toNat) else []) ∧ (List.isEmpty (if aloneErr (bDraw ds (lI (bWarps h8 ws)).toNat) = 0 then outW (bDraw ds (lI (bWarps h8 ws)).toNat) else [])) = (List.isEmpty (if aloneErr (bDraw ds (lI (bWarps h8 ws)).toNat) = 0 then outW (bDraw ds (lI (bWarps h8 ws)).toNat) else []))) ∧ ((if aloneErr (bDraw ds (lI (bWarps h8 ws)).toNat) = 0 then layersW (bDraw ds (lI (bWarps h8 ws)).toNat) else []) = (if aloneErr (bDraw ds (lI (bWarps h8 ws)).toNat) = 0 then layersW (bDraw ds (lI (bWarps h8 ws)).toNat) else []) ∧ (List.isEmpty (if aloneErr (bDraw ds (lI (bWarps h8 ws)).toNat) = 0 then layersW (bDraw ds (lI (bWarps h8 ws)).toNat) else [])) = (List.isEmpty (if aloneErr (bDraw ds (lI (bWarps h8 ws)).toNat) = 0 then layersW (bDraw ds (lI (bWarps h8 ws)).toNat) else []))) ∧ ((if aloneErr (bDraw ds (lI (bWarps h8 ws)).toNat) = 0 then tangleW (bDraw ds (lI (bWarps h8 ws)).toNat) else []) = (if aloneErr (bDraw ds (lI (bWarps h8 ws)).toNat) = 0 then tangleW (bDraw ds (lI (bWarps h8 ws)).toNat) else []) ∧ (List.isEmpty (if aloneErr (bDraw ds (lI (bWarps h8 ws)).toNat) = 0 then tangleW (bDraw ds (lI (bWarps h8 ws)).toNat) else [])) = (List.isEmpty (if aloneErr (bDraw ds (lI (bWarps h8 ws)).toNat) = 0 then tangleW (bDraw ds (lI (bWarps h8 ws)).toNat) else []))) ∧ (e11.1 = e7) ∧ (([] : List (Int × Bool)) = ([] : List (Int × Bool))) ∧ True)) ∧ q7 d14))) d110)) ∧
     (y139 = false →
      ∃ (e17 : Int × Int) (d170 : Int), (((lI (bWarps h8 ws)) = (lI (bWarps h8 ws)) ∧ True ∧ (if aloneErr (bDraw ds (lI (bWarps h8 ws)).toNat) = 0 then crossingsI (bDraw ds (lI (bWarps h8 ws)).toNat) else 0) = (if aloneErr (bDraw ds (lI (bWarps h8 ws)).toNat) = 0 then crossingsI (bDraw ds (lI (bWarps h8 ws)).toNat) else 0) ∧ True ∧ True ∧ True ∧ True ∧ d7.1 = e17.1 ∧ d7.2.1 = e17.2 ∧ (0 : Int) = d170 ∧ True) ∧ (((bDraw ds (lI (bWarps h8 ws)).toNat) = (bDraw ds (lI (bWarps h8 ws)).toNat) ∧ false = false) ∧ ((if aloneErr (bDraw ds (lI (bWarps h8 ws)).toNat) = 0 then outW (bDraw ds (lI (bWarps h8 ws)).toNat) else []) = (if aloneErr (bDraw ds (lI (bWarps h8 ws)).toNat) = 0 then outW (bDraw ds (lI (bWarps h8 ws)).toNat) else []) ∧ (List.isEmpty (if aloneErr (bDraw ds (lI (bWarps h8 ws)).toNat) = 0 then outW (bDraw ds (lI (bWarps h8 ws)).toNat) else [])) = (List.isEmpty (if aloneErr (bDraw ds (lI (bWarps h8 ws)).toNat) = 0 then outW (bDraw ds (lI (bWarps h8 ws)).toNat) else []))) ∧ ((if aloneErr (bDraw ds (lI (bWarps h8 ws)).toNat) = 0 then layersW (bDraw ds (lI (bWarps h8 ws)).toNat) else []) = (if aloneErr (bDraw ds (lI (bWarps h8 ws)).toNat) = 0 then layersW (bDraw ds (lI (bWarps h8 ws)).toNat) else []) ∧ (List.isEmpty (if aloneErr (bDraw ds (lI (bWarps h8 ws)).toNat) = 0 then layersW (bDraw ds (lI (bWarps h8 ws)).toNat) else [])) = (List.isEmpty (if aloneErr (bDraw ds (lI (bWarps h8 ws)).toNat) = 0 then layersW (bDraw ds (lI (bWarps h8 ws)).toNat) else []))) ∧ ((if aloneErr (bDraw ds (lI (bWarps h8 ws)).toNat) = 0 then tangleW (bDraw ds (lI (bWarps h8 ws)).toNat) else []) = (if aloneErr (bDraw ds (lI (bWarps h8 ws)).toNat) = 0 then tangleW (bDraw ds (lI (bWarps h8 ws)).toNat) else []) ∧ (List.isEmpty (if aloneErr (bDraw ds (lI (bWarps h8 ws)).toNat) = 0 then tangleW (bDraw ds (lI (bWarps h8 ws)).toNat) else [])) = (List.isEmpty (if aloneErr (bDraw ds (lI (bWarps h8 ws)).toNat) = 0 then tangleW (bDraw ds (lI (bWarps h8 ws)).toNat) else []))) ∧ (([] : List (Int × Bool)) = ([] : List (Int × Bool))) ∧ True)) ∧
      LoopP (fun (d17 : Int) (q17 : (Int) → Prop) =>
       ∀ (y222 : Bool), y222 = (decide (d17 < (lI (if aloneErr (bDraw ds (lI (bWarps h8 ws)).toNat) = 0 then tangleW (bDraw ds (lI (bWarps h8 ws)).toNat) else [])))) → (y222 = true →
        (0 ≤ d17) ∧ (d17 < (List.length (if aloneErr (bDraw ds (lI (bWarps h8 ws)).toNat) = 0 then tangleW (bDraw ds (lI (bWarps h8 ws)).toNat) else []))) ∧ ∀ (y223 : Int), y223 = (gD (if aloneErr (bDraw ds (lI (bWarps h8 ws)).toNat) = 0 then tangleW (bDraw ds (lI (bWarps h8 ws)).toNat) else []) d17 0) → ∀ (y224 : Bool), y224 = (decide (y223 < (0 : Int))) → (y224 = false → 0 ≤ d17) ∧ (y224 = false → d17 < (List.length (if aloneErr (bDraw ds (lI (bWarps h8 ws)).toNat) = 0 then tangleW (bDraw ds (lI (bWarps h8 ws)).toNat) else []))) ∧ ∀ (y225 : Int), y225 = (gD (if aloneErr (bDraw ds (lI (bWarps h8 ws)).toNat) = 0 then tangleW (bDraw ds (lI (bWarps h8 ws)).toNat) else []) d17 0) → ∀ (y226 : Bool), y226 = (decide (y225 ≥ (lI (bWarps h8 ws)))) → ∀ (y227 : Bool), y227 = (y224 || y226) → (y227 = false → 0 ≤ d17) ∧ (y227 = false → d17 < (List.length (if aloneErr (bDraw ds (lI (bWarps h8 ws)).toNat) = 0 then tangleW (bDraw ds (lI (bWarps h8 ws)).toNat) else []))) ∧ ∀ (y228 : Int), y228 = (gD (if aloneErr (bDraw ds (lI (bWarps h8 ws)).toNat) = 0 then tangleW (bDraw ds (lI (bWarps h8 ws)).toNat) else []) d17 0) → (y227 = false → 0 ≤ y228) ∧ (y227 = false → y228 < (List.length (bDraw ds (lI (bWarps h8 ws)).toNat))) ∧ ∀ (y229 : Int), y229 = (gD (bDraw ds (lI (bWarps h8 ws)).toNat) y228 0) → ∀ (y230 : Bool), y230 = (decide (y229 < (0 : Int))) → ∀ (y231 : Bool), y231 = (y227 || y230) → ∀ (y232 : Bool), y232 = (decide (d17 > (0 : Int))) → (y231 = false → y232 = true → 0 ≤ d17) ∧ (y231 = false → y232 = true → d17 < (List.length (if aloneErr (bDraw ds (lI (bWarps h8 ws)).toNat) = 0 then tangleW (bDraw ds (lI (bWarps h8 ws)).toNat) else []))) ∧ ∀ (y233 : Int), y233 = (gD (if aloneErr (bDraw ds (lI (bWarps h8 ws)).toNat) = 0 then tangleW (bDraw ds (lI (bWarps h8 ws)).toNat) else []) d17 0) → (y231 = false → y232 = true → InK .i64 (d17 - (1 : Int))) ∧ (y231 = false → y232 = true → 0 ≤ (d17 - (1 : Int))) ∧ (y231 = false → y232 = true → (d17 - (1 : Int)) < (List.length (if aloneErr (bDraw ds (lI (bWarps h8 ws)).toNat) = 0 then tangleW (bDraw ds (lI (bWarps h8 ws)).toNat) else []))) ∧ ∀ (y234 : Int), y234 = (gD (if aloneErr (bDraw ds (lI (bWarps h8 ws)).toNat) = 0 then tangleW (bDraw ds (lI (bWarps h8 ws)).toNat) else []) (d17 - (1 : Int)) 0) → ∀ (y235 : Bool), y235 = (decide (y233 ≤ y234)) → (y231 = false → y232 = true → y235 = false → InK .i64 (d17 - (1 : Int))) ∧ (y231 = false → y232 = true → y235 = false → 0 ≤ (d17 - (1 : Int))) ∧ (y231 = false → y232 = true → y235 = false → (d17 - (1 : Int)) < (List.length (if aloneErr (bDraw ds (lI (bWarps h8 ws)).toNat) = 0 then tangleW (bDraw ds (lI (bWarps h8 ws)).toNat) else []))) ∧ ∀ (y236 : Int), y236 = (gD (if aloneErr (bDraw ds (lI (bWarps h8 ws)).toNat) = 0 then tangleW (bDraw ds (lI (bWarps h8 ws)).toNat) else []) (d17 - (1 : Int)) 0) → (y231 = false → y232 = true → y235 = false → 0 ≤ y236) ∧ (y231 = false → y232 = true → y235 = false → y236 < (List.length (bDraw ds (lI (bWarps h8 ws)).toNat))) ∧ ∀ (y237 : Int), y237 = (gD (bDraw ds (lI (bWarps h8 ws)).toNat) y236 0) → (y231 = false → y232 = true → y235 = false → 0 ≤ d17) ∧ (y231 = false → y232 = true → y235 = false → d17 < (List.length (if aloneErr (bDraw ds (lI (bWarps h8 ws)).toNat) = 0 then tangleW (bDraw ds (lI (bWarps h8 ws)).toNat) else []))) ∧ ∀ (y238 : Int), y238 = (gD (if aloneErr (bDraw ds (lI (bWarps h8 ws)).toNat) = 0 then tangleW (bDraw ds (lI (bWarps h8 ws)).toNat) else []) d17 0) → (y231 = false → y232 = true → y235 = false → 0 ≤ y238) ∧ (y231 = false → y232 = true → y235 = false → y238 < (List.length (bDraw ds (lI (bWarps h8 ws)).toNat))) ∧ ∀ (y239 : Int), y239 = (gD (bDraw ds (lI (bWarps h8 ws)).toNat) y238 0) → ∀ (y240 : Bool), y240 = (decide (y237 < y239)) → ∀ (y241 : Bool), y241 = (y235 || y240) → ∀ (y242 : Bool), y242 = (y232 && y241) → ∀ (y243 : Bool), y243 = (y231 || y242) → (y243 = true →
         (false = true ∧ (True))) ∧
        (y243 = false →
         (I64 (d17 + (1 : Int))) ∧ (∃ d18 : Int, (((lI (bWarps h8 ws)) = (lI (bWarps h8 ws)) ∧ True ∧ (if aloneErr (bDraw ds (lI (bWarps h8 ws)).toNat) = 0 then crossingsI (bDraw ds (lI (bWarps h8 ws)).toNat) else 0) = (if aloneErr (bDraw ds (lI (bWarps h8 ws)).toNat) = 0 then crossingsI (bDraw ds (lI (bWarps h8 ws)).toNat) else 0) ∧ True ∧ True ∧ True ∧ True ∧ e17.1 = e17.1 ∧ e17.2 = e17.2 ∧ (d17 + (1 : Int)) = d18 ∧ True) ∧ (((bDraw ds (lI (bWarps h8 ws)).toNat) = (bDraw ds (lI (bWarps h8 ws)).toNat) ∧ false = false) ∧ ((if aloneErr (bDraw ds (lI (bWarps h8 ws)).toNat) = 0 then outW (bDraw ds (lI (bWarps h8 ws)).toNat) else []) = (if aloneErr (bDraw ds (lI (bWarps h8 ws)).toNat) = 0 then outW (bDraw ds (lI (bWarps h8 ws)).toNat) else []) ∧ (List.isEmpty (if aloneErr (bDraw ds (lI (bWarps h8 ws)).toNat) = 0 then outW (bDraw ds (lI (bWarps h8 ws)).toNat) else [])) = (List.isEmpty (if aloneErr (bDraw ds (lI (bWarps h8 ws)).toNat) = 0 then outW (bDraw ds (lI (bWarps h8 ws)).toNat) else []))) ∧ ((if aloneErr (bDraw ds (lI (bWarps h8 ws)).toNat) = 0 then layersW (bDraw ds (lI (bWarps h8 ws)).toNat) else []) = (if aloneErr (bDraw ds (lI (bWarps h8 ws)).toNat) = 0 then layersW (bDraw ds (lI (bWarps h8 ws)).toNat) else []) ∧ (List.isEmpty (if aloneErr (bDraw ds (lI (bWarps h8 ws)).toNat) = 0 then layersW (bDraw ds (lI (bWarps h8 ws)).toNat) else [])) = (List.isEmpty (if aloneErr (bDraw ds (lI (bWarps h8 ws)).toNat) = 0 then layersW (bDraw ds (lI (bWarps h8 ws)).toNat) else []))) ∧ ((if aloneErr (bDraw ds (lI (bWarps h8 ws)).toNat) = 0 then tangleW (bDraw ds (lI (bWarps h8 ws)).toNat) else []) = (if aloneErr (bDraw ds (lI (bWarps h8 ws)).toNat) = 0 then tangleW (bDraw ds (lI (bWarps h8 ws)).toNat) else []) ∧ (List.isEmpty (if aloneErr (bDraw ds (lI (bWarps h8 ws)).toNat) = 0 then tangleW (bDraw ds (lI (bWarps h8 ws)).toNat) else [])) = (List.isEmpty (if aloneErr (bDraw ds (lI (bWarps h8 ws)).toNat) = 0 then tangleW (bDraw ds (lI (bWarps h8 ws)).toNat) else []))) ∧ (([] : List (Int × Bool)) = ([] : List (Int × Bool))) ∧ True)) ∧ q17 d18))) ∧
       (y222 = false →
        ∃ (e21 : Int × Int) (d210 : (List (Int × Bool)) × Int), (((lI (bWarps h8 ws)) = (lI (bWarps h8 ws)) ∧ True ∧ (if aloneErr (bDraw ds (lI (bWarps h8 ws)).toNat) = 0 then crossingsI (bDraw ds (lI (bWarps h8 ws)).toNat) else 0) = (if aloneErr (bDraw ds (lI (bWarps h8 ws)).toNat) = 0 then crossingsI (bDraw ds (lI (bWarps h8 ws)).toNat) else 0) ∧ True ∧ True ∧ True ∧ e17.1 = e21.1 ∧ e17.2 = e21.2 ∧ (0 : Int) = d210.2 ∧ True) ∧ (((bDraw ds (lI (bWarps h8 ws)).toNat) = (bDraw ds (lI (bWarps h8 ws)).toNat) ∧ false = false) ∧ ((if aloneErr (bDraw ds (lI (bWarps h8 ws)).toNat) = 0 then outW (bDraw ds (lI (bWarps h8 ws)).toNat) else []) = (if aloneErr (bDraw ds (lI (bWarps h8 ws)).toNat) = 0 then outW (bDraw ds (lI (bWarps h8 ws)).toNat) else []) ∧ (List.isEmpty (if aloneErr (bDraw ds (lI (bWarps h8 ws)).toNat) = 0 then outW (bDraw ds (lI (bWarps h8 ws)).toNat) else [])) = (List.isEmpty (if aloneErr (bDraw ds (lI (bWarps h8 ws)).toNat) = 0 then outW (bDraw ds (lI (bWarps h8 ws)).toNat) else []))) ∧ ((if aloneErr (bDraw ds (lI (bWarps h8 ws)).toNat) = 0 then layersW (bDraw ds (lI (bWarps h8 ws)).toNat) else []) = (if aloneErr (bDraw ds (lI (bWarps h8 ws)).toNat) = 0 then layersW (bDraw ds (lI (bWarps h8 ws)).toNat) else []) ∧ (List.isEmpty (if aloneErr (bDraw ds (lI (bWarps h8 ws)).toNat) = 0 then layersW (bDraw ds (lI (bWarps h8 ws)).toNat) else [])) = (List.isEmpty (if aloneErr (bDraw ds (lI (bWarps h8 ws)).toNat) = 0 then layersW (bDraw ds (lI (bWarps h8 ws)).toNat) else []))) ∧ (([] : List (Int × Bool)) = d210.1) ∧ True)) ∧
        LoopP (fun (d21 : (List (Int × Bool)) × Int) (q21 : ((List (Int × Bool)) × Int) → Prop) =>
         ∀ (y366 : Bool), y366 = (decide (d21.2 < (lI (if aloneErr (bDraw ds (lI (bWarps h8 ws)).toNat) = 0 then layersW (bDraw ds (lI (bWarps h8 ws)).toNat) else [])))) → (y366 = true →
          ∃ (e24 : Int × Int × Int) (d240 : (List (Int × Bool)) × Int), (((lI (bWarps h8 ws)) = (lI (bWarps h8 ws)) ∧ True ∧ (if aloneErr (bDraw ds (lI (bWarps h8 ws)).toNat) = 0 then crossingsI (bDraw ds (lI (bWarps h8 ws)).toNat) else 0) = (if aloneErr (bDraw ds (lI (bWarps h8 ws)).toNat) = 0 then crossingsI (bDraw ds (lI (bWarps h8 ws)).toNat) else 0) ∧ True ∧ True ∧ True ∧ e21.1 = e24.1 ∧ e21.2 = e24.2.1 ∧ d21.2 = e24.2.2 ∧ (0 : Int) = d240.2 ∧ True) ∧ (((bDraw ds (lI (bWarps h8 ws)).toNat) = (bDraw ds (lI (bWarps h8 ws)).toNat) ∧ false = false) ∧ ((if aloneErr (bDraw ds (lI (bWarps h8 ws)).toNat) = 0 then outW (bDraw ds (lI (bWarps h8 ws)).toNat) else []) = (if aloneErr (bDraw ds (lI (bWarps h8 ws)).toNat) = 0 then outW (bDraw ds (lI (bWarps h8 ws)).toNat) else []) ∧ (List.isEmpty (if aloneErr (bDraw ds (lI (bWarps h8 ws)).toNat) = 0 then outW (bDraw ds (lI (bWarps h8 ws)).toNat) else [])) = (List.isEmpty (if aloneErr (bDraw ds (lI (bWarps h8 ws)).toNat) = 0 then outW (bDraw ds (lI (bWarps h8 ws)).toNat) else []))) ∧ ((if aloneErr (bDraw ds (lI (bWarps h8 ws)).toNat) = 0 then layersW (bDraw ds (lI (bWarps h8 ws)).toNat) else []) = (if aloneErr (bDraw ds (lI (bWarps h8 ws)).toNat) = 0 then layersW (bDraw ds (lI (bWarps h8 ws)).toNat) else []) ∧ (List.isEmpty (if aloneErr (bDraw ds (lI (bWarps h8 ws)).toNat) = 0 then layersW (bDraw ds (lI (bWarps h8 ws)).toNat) else [])) = (List.isEmpty (if aloneErr (bDraw ds (lI (bWarps h8 ws)).toNat) = 0 then layersW (bDraw ds (lI (bWarps h8 ws)).toNat) else []))) ∧ (d21.1 = d240.1) ∧ True)) ∧
          LoopP (fun (d24 : (List (Int × Bool)) × Int) (q24 : ((List (Int × Bool)) × Int) → Prop) =>
           (0 ≤ e24.2.2) ∧ (e24.2.2 < (List.length (if aloneErr (bDraw ds (lI (bWarps h8 ws)).toNat) = 0 then layersW (bDraw ds (lI (bWarps h8 ws)).toNat) else []))) ∧ ∀ (y407 : Bool), y407 = (decide (d24.2 < (lI (gD (if aloneErr (bDraw ds (lI (bWarps h8 ws)).toNat) = 0 then layersW (bDraw ds (lI (bWarps h8 ws)).toNat) else []) e24.2.2 [])))) → (y407 = true →
            (0 ≤ e24.2.2) ∧ (e24.2.2 < (List.length (if aloneErr (bDraw ds (lI (bWarps h8 ws)).toNat) = 0 then layersW (bDraw ds (lI (bWarps h8 ws)).toNat) else []))) ∧ (0 ≤ d24.2) ∧ (d24.2 < (List.length (gD (if aloneErr (bDraw ds (lI (bWarps h8 ws)).toNat) = 0 then layersW (bDraw ds (lI (bWarps h8 ws)).toNat) else []) e24.2.2 []))) ∧ ∀ (y408 : Int), y408 = (gD (gD (if aloneErr (bDraw ds (lI (bWarps h8 ws)).toNat) = 0 then layersW (bDraw ds (lI (bWarps h8 ws)).toNat) else []) e24.2.2 []) d24.2 0) → ∀ (y409 : Bool), y409 = (decide (y408 < (0 : Int))) → ∀ (y410 : Bool), y410 = (decide (y408 ≥ (lI (bWarps h8 ws)))) → ∀ (y411 : Bool), y411 = (y409 || y410) → (y411 = false → 0 ≤ y408) ∧ (y411 = false → y408 < (List.length (bDraw ds (lI (bWarps h8 ws)).toNat))) ∧ ∀ (y412 : Int), y412 = (gD (bDraw ds (lI (bWarps h8 ws)).toNat) y408 0) → ∀ (y413 : Bool), y413 = (decide (y412 < (0 : Int))) → ∀ (y414 : Bool), y414 = (y411 || y413) → ∀ (y415 : Bool), y415 = (gq.aget (.i .i64) d24.1 y408 false) → ∀ (y416 : Bool), y416 = (y414 || y415) → ∀ (y417 : Bool), y417 = (decide (d24.2 > (0 : Int))) → (y416 = false → y417 = true → 0 ≤ e24.2.2) ∧ (y416 = false → y417 = true → e24.2.2 < (List.length (if aloneErr (bDraw ds (lI (bWarps h8 ws)).toNat) = 0 then layersW (bDraw ds (lI (bWarps h8 ws)).toNat) else []))) ∧ (y416 = false → y417 = true → InK .i64 (d24.2 - (1 : Int))) ∧ (y416 = false → y417 = true → 0 ≤ (d24.2 - (1 : Int))) ∧ (y416 = false → y417 = true → (d24.2 - (1 : Int)) < (List.length (gD (if aloneErr (bDraw ds (lI (bWarps h8 ws)).toNat) = 0 then layersW (bDraw ds (lI (bWarps h8 ws)).toNat) else []) e24.2.2 []))) ∧ ∀ (y418 : Int), y418 = (gD (gD (if aloneErr (bDraw ds (lI (bWarps h8 ws)).toNat) = 0 then layersW (bDraw ds (lI (bWarps h8 ws)).toNat) else []) e24.2.2 []) (d24.2 - (1 : Int)) 0) → ∀ (y419 : Bool), y419 = (decide (y408 ≤ y418)) → (y416 = false → y417 = true → y419 = false → 0 ≤ e24.2.2) ∧ (y416 = false → y417 = true → y419 = false → e24.2.2 < (List.length (if aloneErr (bDraw ds (lI (bWarps h8 ws)).toNat) = 0 then layersW (bDraw ds (lI (bWarps h8 ws)).toNat) else []))) ∧ (y416 = false → y417 = true → y419 = false → InK .i64 (d24.2 - (1 : Int))) ∧ (y416 = false → y417 = true → y419 = false → 0 ≤ (d24.2 - (1 : Int))) ∧ (y416 = false → y417 = true → y419 = false → (d24.2 - (1 : Int)) < (List.length (gD (if aloneErr (bDraw ds (lI (bWarps h8 ws)).toNat) = 0 then layersW (bDraw ds (lI (bWarps h8 ws)).toNat) else []) e24.2.2 []))) ∧ ∀ (y420 : Int), y420 = (gD (gD (if aloneErr (bDraw ds (lI (bWarps h8 ws)).toNat) = 0 then layersW (bDraw ds (lI (bWarps h8 ws)).toNat) else []) e24.2.2 []) (d24.2 - (1 : Int)) 0) → (y416 = false → y417 = true → y419 = false → 0 ≤ y420) ∧ (y416 = false → y417 = true → y419 = false → y420 < (List.length (bDraw ds (lI (bWarps h8 ws)).toNat))) ∧ ∀ (y421 : Int), y421 = (gD (bDraw ds (lI (bWarps h8 ws)).toNat) y420 0) → (y416 = false → y417 = true → y419 = false → 0 ≤ y408) ∧ (y416 = false → y417 = true → y419 = false → y408 < (List.length (bDraw ds (lI (bWarps h8 ws)).toNat))) ∧ ∀ (y422 : Int), y422 = (gD (bDraw ds (lI (bWarps h8 ws)).toNat) y408 0) → ∀ (y423 : Bool), y423 = (decide (y421 ≥ y422)) → ∀ (y424 : Bool), y424 = (y419 || y423) → ∀ (y425 : Bool), y425 = (y417 && y424) → ∀ (y426 : Bool), y426 = (y416 || y425) → (y426 = true →
             (false = true ∧ (True))) ∧
            (y426 = false →
             (I64 (d24.2 + (1 : Int))) ∧ (∃ d25 : (List (Int × Bool)) × Int, (((lI (bWarps h8 ws)) = (lI (bWarps h8 ws)) ∧ True ∧ (if aloneErr (bDraw ds (lI (bWarps h8 ws)).toNat) = 0 then crossingsI (bDraw ds (lI (bWarps h8 ws)).toNat) else 0) = (if aloneErr (bDraw ds (lI (bWarps h8 ws)).toNat) = 0 then crossingsI (bDraw ds (lI (bWarps h8 ws)).toNat) else 0) ∧ True ∧ True ∧ True ∧ e24.1 = e24.1 ∧ e24.2.1 = e24.2.1 ∧ e24.2.2 = e24.2.2 ∧ (d24.2 + (1 : Int)) = d25.2 ∧ True) ∧ (((bDraw ds (lI (bWarps h8 ws)).toNat) = (bDraw ds (lI (bWarps h8 ws)).toNat) ∧ false = false) ∧ ((if aloneErr (bDraw ds (lI (bWarps h8 ws)).toNat) = 0 then outW (bDraw ds (lI (bWarps h8 ws)).toNat) else []) = (if aloneErr (bDraw ds (lI (bWarps h8 ws)).toNat) = 0 then outW (bDraw ds (lI (bWarps h8 ws)).toNat) else []) ∧ (List.isEmpty (if aloneErr (bDraw ds (lI (bWarps h8 ws)).toNat) = 0 then outW (bDraw ds (lI (bWarps h8 ws)).toNat) else [])) = (List.isEmpty (if aloneErr (bDraw ds (lI (bWarps h8 ws)).toNat) = 0 then outW (bDraw ds (lI (bWarps h8 ws)).toNat) else []))) ∧ ((if aloneErr (bDraw ds (lI (bWarps h8 ws)).toNat) = 0 then layersW (bDraw ds (lI (bWarps h8 ws)).toNat) else []) = (if aloneErr (bDraw ds (lI (bWarps h8 ws)).toNat) = 0 then layersW (bDraw ds (lI (bWarps h8 ws)).toNat) else []) ∧ (List.isEmpty (if aloneErr (bDraw ds (lI (bWarps h8 ws)).toNat) = 0 then layersW (bDraw ds (lI (bWarps h8 ws)).toNat) else [])) = (List.isEmpty (if aloneErr (bDraw ds (lI (bWarps h8 ws)).toNat) = 0 then layersW (bDraw ds (lI (bWarps h8 ws)).toNat) else []))) ∧ ((aput (.i .i64) d24.1 y408 true) = d25.1) ∧ True)) ∧ q24 d25))) ∧
           (y407 = false →
            (I64 (e24.2.2 + (1 : Int))) ∧ (∃ d26 : (List (Int × Bool)) × Int, (((lI (bWarps h8 ws)) = (lI (bWarps h8 ws)) ∧ True ∧ (if aloneErr (bDraw ds (lI (bWarps h8 ws)).toNat) = 0 then crossingsI (bDraw ds (lI (bWarps h8 ws)).toNat) else 0) = (if aloneErr (bDraw ds (lI (bWarps h8 ws)).toNat) = 0 then crossingsI (bDraw ds (lI (bWarps h8 ws)).toNat) else 0) ∧ True ∧ True ∧ True ∧ e24.1 = e21.1 ∧ e24.2.1 = e21.2 ∧ (e24.2.2 + (1 : Int)) = d26.2 ∧ True) ∧ (((bDraw ds (lI (bWarps h8 ws)).toNat) = (bDraw ds (lI (bWarps h8 ws)).toNat) ∧ false = false) ∧ ((if aloneErr (bDraw ds (lI (bWarps h8 ws)).toNat) = 0 then outW (bDraw ds (lI (bWarps h8 ws)).toNat) else []) = (if aloneErr (bDraw ds (lI (bWarps h8 ws)).toNat) = 0 then outW (bDraw ds (lI (bWarps h8 ws)).toNat) else []) ∧ (List.isEmpty (if aloneErr (bDraw ds (lI (bWarps h8 ws)).toNat) = 0 then outW (bDraw ds (lI (bWarps h8 ws)).toNat) else [])) = (List.isEmpty (if aloneErr (bDraw ds (lI (bWarps h8 ws)).toNat) = 0 then outW (bDraw ds (lI (bWarps h8 ws)).toNat) else []))) ∧ ((if aloneErr (bDraw ds (lI (bWarps h8 ws)).toNat) = 0 then layersW (bDraw ds (lI (bWarps h8 ws)).toNat) else []) = (if aloneErr (bDraw ds (lI (bWarps h8 ws)).toNat) = 0 then layersW (bDraw ds (lI (bWarps h8 ws)).toNat) else []) ∧ (List.isEmpty (if aloneErr (bDraw ds (lI (bWarps h8 ws)).toNat) = 0 then layersW (bDraw ds (lI (bWarps h8 ws)).toNat) else [])) = (List.isEmpty (if aloneErr (bDraw ds (lI (bWarps h8 ws)).toNat) = 0 then layersW (bDraw ds (lI (bWarps h8 ws)).toNat) else []))) ∧ (d24.1 = d26.1) ∧ True)) ∧ q21 d26))) d240) ∧
         (y366 = false →
          ∀ (y427 : Bool), y427 = (e21.2 != (if aloneErr (bDraw ds (lI (bWarps h8 ws)).toNat) = 0 then crossingsI (bDraw ds (lI (bWarps h8 ws)).toNat) else 0)) → ∀ (y428 : Bool), y428 = ((lI d21.1) != e21.1) → ∀ (y429 : Bool), y429 = (y427 || y428) → ∀ (y430 : Bool), y430 = ((if aloneErr (bDraw ds (lI (bWarps h8 ws)).toNat) = 0 then crossingsI (bDraw ds (lI (bWarps h8 ws)).toNat) else 0) == (0 : Int)) → ∀ (y431 : Bool), y431 = (decide ((lI (if aloneErr (bDraw ds (lI (bWarps h8 ws)).toNat) = 0 then layersW (bDraw ds (lI (bWarps h8 ws)).toNat) else [])) > (1 : Int))) → ∀ (y432 : Bool), y432 = (decide ((lI (if aloneErr (bDraw ds (lI (bWarps h8 ws)).toNat) = 0 then outW (bDraw ds (lI (bWarps h8 ws)).toNat) else [])) > (0 : Int))) → ∀ (y433 : Bool), y433 = (y431 || y432) → ∀ (y434 : Bool), y434 = (y430 && y433) → ∀ (y435 : Bool), y435 = (y429 || y434) → ∀ (y436 : Bool), y436 = (decide ((lI (if aloneErr (bDraw ds (lI (bWarps h8 ws)).toNat) = 0 then outW (bDraw ds (lI (bWarps h8 ws)).toNat) else [])) > e21.1)) → ∀ (y437 : Bool), y437 = (y435 || y436) → (y437 = true →
           (false = true ∧ (True))) ∧
          (y437 = false →
           (0 ≤ (lI (bWarps h8 ws))) ∧ ((lI (bWarps h8 ws)) ≤ (lI (bWarps h8 ws))) ∧ ((lI (bWarps h8 ws)) * 8 ≤ 70368744177664) ∧ ((lI (bWarps h8 ws)) ≤ 70368744177664) ∧ ∃ (e29 : Unit) (d290 : (List Int) × Int), (((lI (bWarps h8 ws)) = (lI (bWarps h8 ws)) ∧ True ∧ (if aloneErr (bDraw ds (lI (bWarps h8 ws)).toNat) = 0 then crossingsI (bDraw ds (lI (bWarps h8 ws)).toNat) else 0) = (if aloneErr (bDraw ds (lI (bWarps h8 ws)).toNat) = 0 then crossingsI (bDraw ds (lI (bWarps h8 ws)).toNat) else 0) ∧ True ∧ True ∧ True ∧ (0 : Int) = d290.2 ∧ True) ∧ (((bDraw ds (lI (bWarps h8 ws)).toNat) = (bDraw ds (lI (bWarps h8 ws)).toNat) ∧ false = false) ∧ ((if aloneErr (bDraw ds (lI (bWarps h8 ws)).toNat) = 0 then outW (bDraw ds (lI (bWarps h8 ws)).toNat) else []) = (if aloneErr (bDraw ds (lI (bWarps h8 ws)).toNat) = 0 then outW (bDraw ds (lI (bWarps h8 ws)).toNat) else []) ∧ (List.isEmpty (if aloneErr (bDraw ds (lI (bWarps h8 ws)).toNat) = 0 then outW (bDraw ds (lI (bWarps h8 ws)).toNat) else [])) = (List.isEmpty (if aloneErr (bDraw ds (lI (bWarps h8 ws)).toNat) = 0 then outW (bDraw ds (lI (bWarps h8 ws)).toNat) else []))) ∧ ((if aloneErr (bDraw ds (lI (bWarps h8 ws)).toNat) = 0 then layersW (bDraw ds (lI (bWarps h8 ws)).toNat) else []) = (if aloneErr (bDraw ds (lI (bWarps h8 ws)).toNat) = 0 then layersW (bDraw ds (lI (bWarps h8 ws)).toNat) else []) ∧ (List.isEmpty (if aloneErr (bDraw ds (lI (bWarps h8 ws)).toNat) = 0 then layersW (bDraw ds (lI (bWarps h8 ws)).toNat) else [])) = (List.isEmpty (if aloneErr (bDraw ds (lI (bWarps h8 ws)).toNat) = 0 then layersW (bDraw ds (lI (bWarps h8 ws)).toNat) else []))) ∧ ((List.replicate (Int.toNat (lI (bWarps h8 ws))) 0) = d290.1 ∧ false = false) ∧ True)) ∧
           LoopP (fun (d29 : (List Int) × Int) (q29 : ((List Int) × Int) → Prop) =>
            ∀ (y448 : Bool), y448 = (decide (d29.2 < (lI (bWarps h8 ws)))) → (y448 = true →
             (I64 ((lI (bWarps h8 ws)) - (1 : Int))) ∧ (I64 (((lI (bWarps h8 ws)) - (1 : Int)) - d29.2)) ∧ (0 ≤ d29.2) ∧ (d29.2 < (List.length (bDraw ds (lI (bWarps h8 ws)).toNat))) ∧ ∀ (y449 : Int), y449 = (gD (bDraw ds (lI (bWarps h8 ws)).toNat) d29.2 0) → (0 ≤ (((lI (bWarps h8 ws)) - (1 : Int)) - d29.2)) ∧ ((((lI (bWarps h8 ws)) - (1 : Int)) - d29.2) < (List.length d29.1)) ∧ (0 ≤ d29.2) ∧ (d29.2 < (List.length (bDraw ds (lI (bWarps h8 ws)).toNat))) ∧ ∀ (y450 : Int), y450 = (gD (bDraw ds (lI (bWarps h8 ws)).toNat) d29.2 0) → ∀ (y451 : Bool), y451 = (decide (y450 ≥ (0 : Int))) → (y451 = true →
              (I64 ((lI (bWarps h8 ws)) - (1 : Int))) ∧ (I64 (((lI (bWarps h8 ws)) - (1 : Int)) - d29.2)) ∧ (I64 ((lI (bWarps h8 ws)) - (1 : Int))) ∧ (0 ≤ d29.2) ∧ (d29.2 < (List.length (bDraw ds (lI (bWarps h8 ws)).toNat))) ∧ ∀ (y452 : Int), y452 = (gD (bDraw ds (lI (bWarps h8 ws)).toNat) d29.2 0) → (I64 (((lI (bWarps h8 ws)) - (1 : Int)) - y452)) ∧ (0 ≤ (((lI (bWarps h8 ws)) - (1 : Int)) - d29.2)) ∧ ((((lI (bWarps h8 ws)) - (1 : Int)) - d29.2) < (List.length (sT d29.1 (((lI (bWarps h8 ws)) - (1 : Int)) - d29.2) y449))) ∧ (I64 (d29.2 + (1 : Int))) ∧ (∃ d30 : (List Int) × Int, (((lI (bWarps h8 ws)) = (lI (bWarps h8 ws)) ∧ True ∧ (if aloneErr (bDraw ds (lI (bWarps h8 ws)).toNat) = 0 then crossingsI (bDraw ds (lI (bWarps h8 ws)).toNat) else 0) = (if aloneErr (bDraw ds (lI (bWarps h8 ws)).toNat) = 0 then crossingsI (bDraw ds (lI (bWarps h8 ws)).toNat) else 0) ∧ True ∧ True ∧ True ∧ (d29.2 + (1 : Int)) = d30.2 ∧ True) ∧ (((bDraw ds (lI (bWarps h8 ws)).toNat) = (bDraw ds (lI (bWarps h8 ws)).toNat) ∧ false = false) ∧ ((if aloneErr (bDraw ds (lI (bWarps h8 ws)).toNat) = 0 then outW (bDraw ds (lI (bWarps h8 ws)).toNat) else []) = (if aloneErr (bDraw ds (lI (bWarps h8 ws)).toNat) = 0 then outW (bDraw ds (lI (bWarps h8 ws)).toNat) else []) ∧ (List.isEmpty (if aloneErr (bDraw ds (lI (bWarps h8 ws)).toNat) = 0 then outW (bDraw ds (lI (bWarps h8 ws)).toNat) else [])) = (List.isEmpty (if aloneErr (bDraw ds (lI (bWarps h8 ws)).toNat) = 0 then outW (bDraw ds (lI (bWarps h8 ws)).toNat) else []))) ∧ ((if aloneErr (bDraw ds (lI (bWarps h8 ws)).toNat) = 0 then layersW (bDraw ds (lI (bWarps h8 ws)).toNat) else []) = (if aloneErr (bDraw ds (lI (bWarps h8 ws)).toNat) = 0 then layersW (bDraw ds (lI (bWarps h8 ws)).toNat) else []) ∧ (List.isEmpty (if aloneErr (bDraw ds (lI (bWarps h8 ws)).toNat) = 0 then layersW (bDraw ds (lI (bWarps h8 ws)).toNat) else [])) = (List.isEmpty (if aloneErr (bDraw ds (lI (bWarps h8 ws)).toNat) = 0 then layersW (bDraw ds (lI (bWarps h8 ws)).toNat) else []))) ∧ ((sT (sT d29.1 (((lI (bWarps h8 ws)) - (1 : Int)) - d29.2) y449) (((lI (bWarps h8 ws)) - (1 : Int)) - d29.2) (((lI (bWarps h8 ws)) - (1 : Int)) - y452)) = d30.1 ∧ false = false) ∧ True)) ∧ q29 d30)) ∧
             (y451 = false →
              (I64 (d29.2 + (1 : Int))) ∧ (∃ d31 : (List Int) × Int, (((lI (bWarps h8 ws)) = (lI (bWarps h8 ws)) ∧ True ∧ (if aloneErr (bDraw ds (lI (bWarps h8 ws)).toNat) = 0 then crossingsI (bDraw ds (lI (bWarps h8 ws)).toNat) else 0) = (if aloneErr (bDraw ds (lI (bWarps h8 ws)).toNat) = 0 then crossingsI (bDraw ds (lI (bWarps h8 ws)).toNat) else 0) ∧ True ∧ True ∧ True ∧ (d29.2 + (1 : Int)) = d31.2 ∧ True) ∧ (((bDraw ds (lI (bWarps h8 ws)).toNat) = (bDraw ds (lI (bWarps h8 ws)).toNat) ∧ false = false) ∧ ((if aloneErr (bDraw ds (lI (bWarps h8 ws)).toNat) = 0 then outW (bDraw ds (lI (bWarps h8 ws)).toNat) else []) = (if aloneErr (bDraw ds (lI (bWarps h8 ws)).toNat) = 0 then outW (bDraw ds (lI (bWarps h8 ws)).toNat) else []) ∧ (List.isEmpty (if aloneErr (bDraw ds (lI (bWarps h8 ws)).toNat) = 0 then outW (bDraw ds (lI (bWarps h8 ws)).toNat) else [])) = (List.isEmpty (if aloneErr (bDraw ds (lI (bWarps h8 ws)).toNat) = 0 then outW (bDraw ds (lI (bWarps h8 ws)).toNat) else []))) ∧ ((if aloneErr (bDraw ds (lI (bWarps h8 ws)).toNat) = 0 then layersW (bDraw ds (lI (bWarps h8 ws)).toNat) else []) = (if aloneErr (bDraw ds (lI (bWarps h8 ws)).toNat) = 0 then layersW (bDraw ds (lI (bWarps h8 ws)).toNat) else []) ∧ (List.isEmpty (if aloneErr (bDraw ds (lI (bWarps h8 ws)).toNat) = 0 then layersW (bDraw ds (lI (bWarps h8 ws)).toNat) else [])) = (List.isEmpty (if aloneErr (bDraw ds (lI (bWarps h8 ws)).toNat) = 0 then layersW (bDraw ds (lI (bWarps h8 ws)).toNat) else []))) ∧ ((sT d29.1 (((lI (bWarps h8 ws)) - (1 : Int)) - d29.2) y449) = d31.1 ∧ false = false) ∧ True)) ∧ q29 d31))) ∧
            (y448 = false →
             (d29.1.length ≤ 110) ∧ (d29.1.length ≤ 110) ∧ (d29.1.length ≤ 110) ∧ (d29.1.length ≤ 110) ∧ (d29.1.length ≤ 110) ∧ ∀ (y453 : Bool), y453 = (aloneErr d29.1 == (0 : Int)) → ∀ (y454 : Bool), y454 = (aloneErr d29.1 == (0 : Int)) → ∀ (y455 : Bool), y455 = (y453 && y454) → ∀ (y456 : Bool), y456 = (aloneErr d29.1 == (0 : Int)) → ∀ (y457 : Bool), y457 = (y455 && y456) → ∀ (y458 : Bool), y458 = ((if aloneErr d29.1 = 0 then crossingsI d29.1 else 0) == (if aloneErr (bDraw ds (lI (bWarps h8 ws)).toNat) = 0 then crossingsI (bDraw ds (lI (bWarps h8 ws)).toNat) else 0)) → ∀ (y459 : Bool), y459 = (y457 && y458) → ∀ (y460 : Bool), y460 = ((lI (if aloneErr d29.1 = 0 then outW d29.1 else [])) == (lI (if aloneErr (bDraw ds (lI (bWarps h8 ws)).toNat) = 0 then outW (bDraw ds (lI (bWarps h8 ws)).toNat) else []))) → ∀ (y461 : Bool), y461 = (y459 && y460) → ∀ (y462 : Bool), y462 = ((lI (if aloneErr d29.1 = 0 then layersW d29.1 else [])) == (lI (if aloneErr (bDraw ds (lI (bWarps h8 ws)).toNat) = 0 then layersW (bDraw ds (lI (bWarps h8 ws)).toNat) else []))) → ∀ (y463 : Bool), y463 = (y461 && y462) → (y463 = true → True) ∧ ∀ (y464 : Bool), y464 = (y463 && true) → (y464 = true ∧ (True)))) d290))) d210)) d170)) d70)) d30)
def cx_law11_EyeTangle : Cx := ⟨[(3, (.i .i64)), (1000084, (.pair (.i .i64) .bo)), (1000085, (.pair (.i .i64) .bo))], [(31, s_law11_Board_harness), (33, s_law11_Board_drawing), (14, s_law11_ints), (22, s_eye_Crossings), (23, s_eye_Out), (27, s_eye_Layers), (24, s_eye_Tangle), (12, s_law11_known)], 434, [], 0, [], [], [], [], true⟩
def lp_law11_EyeTangle (h8 : Int) (ws : List Int) (rs : List Int) (ds : List Int) : List (Nat × LoopAnn) := [(0, ⟨Unit, (List (Int × Bool)) × Int, [3, 4, 5, 7, 9, 11, 13, 14, 15, 16], fun e x => [.val (.i .i64) (((List.length (bWarps h8 ws)) : Nat) : Int), .lst 38, .val (.i .i64) (if aloneErr (bDraw ds (((List.length (bWarps h8 ws)) : Nat) : Int).toNat) = 0 then crossingsI (bDraw ds (((List.length (bWarps h8 ws)) : Nat) : Int).toNat) else 0), .lst 48, .dd 54 .out, .lst 60, .map 84, .map 85, .val (.i .i64) (0 : Int), .val (.i .i64) x.2], fun e x => [(38, .slot 4, .lst 3 (.i .i64) (bDraw ds (((List.length (bWarps h8 ws)) : Nat) : Int).toNat) false), (48, .slot 7, .lst 3 (.i .i64) (if aloneErr (bDraw ds (((List.length (bWarps h8 ws)) : Nat) : Int).toNat) = 0 then outW (bDraw ds (((List.length (bWarps h8 ws)) : Nat) : Int).toNat) else []) (List.isEmpty (if aloneErr (bDraw ds (((List.length (bWarps h8 ws)) : Nat) : Int).toNat) = 0 then outW (bDraw ds (((List.length (bWarps h8 ws)) : Nat) : Int).toNat) else []))), (54, .slot 9, .deep 22 (some 3) (.list (.i .i64)) (if aloneErr (bDraw ds (((List.length (bWarps h8 ws)) : Nat) : Int).toNat) = 0 then layersW (bDraw ds (((List.length (bWarps h8 ws)) : Nat) : Int).toNat) else []) (List.isEmpty (if aloneErr (bDraw ds (((List.length (bWarps h8 ws)) : Nat) : Int).toNat) = 0 then layersW (bDraw ds (((List.length (bWarps h8 ws)) : Nat) : Int).toNat) else [])) none), (60, .slot 11, .lst 3 (.i .i64) (if aloneErr (bDraw ds (((List.length (bWarps h8 ws)) : Nat) : Int).toNat) = 0 then tangleW (bDraw ds (((List.length (bWarps h8 ws)) : Nat) : Int).toNat) else []) (List.isEmpty (if aloneErr (bDraw ds (((List.length (bWarps h8 ws)) : Nat) : Int).toNat) = 0 then tangleW (bDraw ds (((List.length (bWarps h8 ws)) : Nat) : Int).toNat) else []))), (84, .slot 13, .map (.i .i64) .bo x.1), (85, .slot 14, .map (.i .i64) .bo ([] : List (Int × Bool)))]⟩),
 (2, ⟨(List (Int × Bool)), Int × Int × Int, [3, 4, 5, 7, 9, 11, 13, 14, 15, 17, 18], fun e x => [.val (.i .i64) (((List.length (bWarps h8 ws)) : Nat) : Int), .lst 38, .val (.i .i64) (if aloneErr (bDraw ds (((List.length (bWarps h8 ws)) : Nat) : Int).toNat) = 0 then crossingsI (bDraw ds (((List.length (bWarps h8 ws)) : Nat) : Int).toNat) else 0), .lst 48, .dd 54 .out, .lst 60, .map 84, .map 85, .val (.i .i64) x.1, .val (.i .i64) x.2.1, .val (.i .i64) x.2.2], fun e x => [(38, .slot 4, .lst 3 (.i .i64) (bDraw ds (((List.length (bWarps h8 ws)) : Nat) : Int).toNat) false), (48, .slot 7, .lst 3 (.i .i64) (if aloneErr (bDraw ds (((List.length (bWarps h8 ws)) : Nat) : Int).toNat) = 0 then outW (bDraw ds (((List.length (bWarps h8 ws)) : Nat) : Int).toNat) else []) (List.isEmpty (if aloneErr (bDraw ds (((List.length (bWarps h8 ws)) : Nat) : Int).toNat) = 0 then outW (bDraw ds (((List.length (bWarps h8 ws)) : Nat) : Int).toNat) else []))), (54, .slot 9, .deep 22 (some 3) (.list (.i .i64)) (if aloneErr (bDraw ds (((List.length (bWarps h8 ws)) : Nat) : Int).toNat) = 0 then layersW (bDraw ds (((List.length (bWarps h8 ws)) : Nat) : Int).toNat) else []) (List.isEmpty (if aloneErr (bDraw ds (((List.length (bWarps h8 ws)) : Nat) : Int).toNat) = 0 then layersW (bDraw ds (((List.length (bWarps h8 ws)) : Nat) : Int).toNat) else [])) none), (60, .slot 11, .lst 3 (.i .i64) (if aloneErr (bDraw ds (((List.length (bWarps h8 ws)) : Nat) : Int).toNat) = 0 then tangleW (bDraw ds (((List.length (bWarps h8 ws)) : Nat) : Int).toNat) else []) (List.isEmpty (if aloneErr (bDraw ds (((List.length (bWarps h8 ws)) : Nat) : Int).toNat) = 0 then tangleW (bDraw ds (((List.length (bWarps h8 ws)) : Nat) : Int).toNat) else []))), (84, .slot 13, .map (.i .i64) .bo e), (85, .slot 14, .map (.i .i64) .bo ([] : List (Int × Bool)))]⟩),
 (4, ⟨(List (Int × Bool)) × Int × Int, Int × Int, [3, 4, 5, 7, 9, 11, 13, 14, 15, 17, 18, 19], fun e x => [.val (.i .i64) (((List.length (bWarps h8 ws)) : Nat) : Int), .lst 38, .val (.i .i64) (if aloneErr (bDraw ds (((List.length (bWarps h8 ws)) : Nat) : Int).toNat) = 0 then crossingsI (bDraw ds (((List.length (bWarps h8 ws)) : Nat) : Int).toNat) else 0), .lst 48, .dd 54 .out, .lst 60, .map 84, .map 85, .val (.i .i64) e.2.1, .val (.i .i64) x.1, .val (.i .i64) e.2.2, .val (.i .i64) x.2], fun e x => [(38, .slot 4, .lst 3 (.i .i64) (bDraw ds (((List.length (bWarps h8 ws)) : Nat) : Int).toNat) false), (48, .slot 7, .lst 3 (.i .i64) (if aloneErr (bDraw ds (((List.length (bWarps h8 ws)) : Nat) : Int).toNat) = 0 then outW (bDraw ds (((List.length (bWarps h8 ws)) : Nat) : Int).toNat) else []) (List.isEmpty (if aloneErr (bDraw ds (((List.length (bWarps h8 ws)) : Nat) : Int).toNat) = 0 then outW (bDraw ds (((List.length (bWarps h8 ws)) : Nat) : Int).toNat) else []))), (54, .slot 9, .deep 22 (some 3) (.list (.i .i64)) (if aloneErr (bDraw ds (((List.length (bWarps h8 ws)) : Nat) : Int).toNat) = 0 then layersW (bDraw ds (((List.length (bWarps h8 ws)) : Nat) : Int).toNat) else []) (List.isEmpty (if aloneErr (bDraw ds (((List.length (bWarps h8 ws)) : Nat) : Int).toNat) = 0 then layersW (bDraw ds (((List.length (bWarps h8 ws)) : Nat) : Int).toNat) else [])) none), (60, .slot 11, .lst 3 (.i .i64) (if aloneErr (bDraw ds (((List.length (bWarps h8 ws)) : Nat) : Int).toNat) = 0 then tangleW (bDraw ds (((List.length (bWarps h8 ws)) : Nat) : Int).toNat) else []) (List.isEmpty (if aloneErr (bDraw ds (((List.length (bWarps h8 ws)) : Nat) : Int).toNat) = 0 then tangleW (bDraw ds (((List.length (bWarps h8 ws)) : Nat) : Int).toNat) else []))), (84, .slot 13, .map (.i .i64) .bo e.1), (85, .slot 14, .map (.i .i64) .bo ([] : List (Int × Bool)))]⟩),
 (6, ⟨Int × Int, Int, [3, 4, 5, 7, 9, 11, 14, 15, 17, 20], fun e x => [.val (.i .i64) (((List.length (bWarps h8 ws)) : Nat) : Int), .lst 38, .val (.i .i64) (if aloneErr (bDraw ds (((List.length (bWarps h8 ws)) : Nat) : Int).toNat) = 0 then crossingsI (bDraw ds (((List.length (bWarps h8 ws)) : Nat) : Int).toNat) else 0), .lst 48, .dd 54 .out, .lst 60, .map 85, .val (.i .i64) e.1, .val (.i .i64) e.2, .val (.i .i64) x], fun e x => [(38, .slot 4, .lst 3 (.i .i64) (bDraw ds (((List.length (bWarps h8 ws)) : Nat) : Int).toNat) false), (48, .slot 7, .lst 3 (.i .i64) (if aloneErr (bDraw ds (((List.length (bWarps h8 ws)) : Nat) : Int).toNat) = 0 then outW (bDraw ds (((List.length (bWarps h8 ws)) : Nat) : Int).toNat) else []) (List.isEmpty (if aloneErr (bDraw ds (((List.length (bWarps h8 ws)) : Nat) : Int).toNat) = 0 then outW (bDraw ds (((List.length (bWarps h8 ws)) : Nat) : Int).toNat) else []))), (54, .slot 9, .deep 22 (some 3) (.list (.i .i64)) (if aloneErr (bDraw ds (((List.length (bWarps h8 ws)) : Nat) : Int).toNat) = 0 then layersW (bDraw ds (((List.length (bWarps h8 ws)) : Nat) : Int).toNat) else []) (List.isEmpty (if aloneErr (bDraw ds (((List.length (bWarps h8 ws)) : Nat) : Int).toNat) = 0 then layersW (bDraw ds (((List.length (bWarps h8 ws)) : Nat) : Int).toNat) else [])) none), (60, .slot 11, .lst 3 (.i .i64) (if aloneErr (bDraw ds (((List.length (bWarps h8 ws)) : Nat) : Int).toNat) = 0 then tangleW (bDraw ds (((List.length (bWarps h8 ws)) : Nat) : Int).toNat) else []) (List.isEmpty (if aloneErr (bDraw ds (((List.length (bWarps h8 ws)) : Nat) : Int).toNat) = 0 then tangleW (bDraw ds (((List.length (bWarps h8 ws)) : Nat) : Int).toNat) else []))), (85, .slot 14, .map (.i .i64) .bo ([] : List (Int × Bool)))]⟩),
 (8, ⟨Int × Int, (List (Int × Bool)) × Int, [3, 4, 5, 7, 9, 14, 15, 17, 21], fun e x => [.val (.i .i64) (((List.length (bWarps h8 ws)) : Nat) : Int), .lst 38, .val (.i .i64) (if aloneErr (bDraw ds (((List.length (bWarps h8 ws)) : Nat) : Int).toNat) = 0 then crossingsI (bDraw ds (((List.length (bWarps h8 ws)) : Nat) : Int).toNat) else 0), .lst 48, .dd 54 .out, .map 85, .val (.i .i64) e.1, .val (.i .i64) e.2, .val (.i .i64) x.2], fun e x => [(38, .slot 4, .lst 3 (.i .i64) (bDraw ds (((List.length (bWarps h8 ws)) : Nat) : Int).toNat) false), (48, .slot 7, .lst 3 (.i .i64) (if aloneErr (bDraw ds (((List.length (bWarps h8 ws)) : Nat) : Int).toNat) = 0 then outW (bDraw ds (((List.length (bWarps h8 ws)) : Nat) : Int).toNat) else []) (List.isEmpty (if aloneErr (bDraw ds (((List.length (bWarps h8 ws)) : Nat) : Int).toNat) = 0 then outW (bDraw ds (((List.length (bWarps h8 ws)) : Nat) : Int).toNat) else []))), (54, .slot 9, .deep 22 (some 3) (.list (.i .i64)) (if aloneErr (bDraw ds (((List.length (bWarps h8 ws)) : Nat) : Int).toNat) = 0 then layersW (bDraw ds (((List.length (bWarps h8 ws)) : Nat) : Int).toNat) else []) (List.isEmpty (if aloneErr (bDraw ds (((List.length (bWarps h8 ws)) : Nat) : Int).toNat) = 0 then layersW (bDraw ds (((List.length (bWarps h8 ws)) : Nat) : Int).toNat) else [])) none), (85, .slot 14, .map (.i .i64) .bo x.1)]⟩),
 (10, ⟨Int × Int × Int, (List (Int × Bool)) × Int, [3, 4, 5, 7, 9, 14, 15, 17, 21, 22], fun e x => [.val (.i .i64) (((List.length (bWarps h8 ws)) : Nat) : Int), .lst 38, .val (.i .i64) (if aloneErr (bDraw ds (((List.length (bWarps h8 ws)) : Nat) : Int).toNat) = 0 then crossingsI (bDraw ds (((List.length (bWarps h8 ws)) : Nat) : Int).toNat) else 0), .lst 48, .dd 54 .out, .map 85, .val (.i .i64) e.1, .val (.i .i64) e.2.1, .val (.i .i64) e.2.2, .val (.i .i64) x.2], fun e x => [(38, .slot 4, .lst 3 (.i .i64) (bDraw ds (((List.length (bWarps h8 ws)) : Nat) : Int).toNat) false), (48, .slot 7, .lst 3 (.i .i64) (if aloneErr (bDraw ds (((List.length (bWarps h8 ws)) : Nat) : Int).toNat) = 0 then outW (bDraw ds (((List.length (bWarps h8 ws)) : Nat) : Int).toNat) else []) (List.isEmpty (if aloneErr (bDraw ds (((List.length (bWarps h8 ws)) : Nat) : Int).toNat) = 0 then outW (bDraw ds (((List.length (bWarps h8 ws)) : Nat) : Int).toNat) else []))), (54, .slot 9, .deep 22 (some 3) (.list (.i .i64)) (if aloneErr (bDraw ds (((List.length (bWarps h8 ws)) : Nat) : Int).toNat) = 0 then layersW (bDraw ds (((List.length (bWarps h8 ws)) : Nat) : Int).toNat) else []) (List.isEmpty (if aloneErr (bDraw ds (((List.length (bWarps h8 ws)) : Nat) : Int).toNat) = 0 then layersW (bDraw ds (((List.length (bWarps h8 ws)) : Nat) : Int).toNat) else [])) none), (85, .slot 14, .map (.i .i64) .bo x.1)]⟩),
 (12, ⟨Unit, (List Int) × Int, [3, 4, 5, 7, 9, 24, 25], fun e x => [.val (.i .i64) (((List.length (bWarps h8 ws)) : Nat) : Int), .lst 38, .val (.i .i64) (if aloneErr (bDraw ds (((List.length (bWarps h8 ws)) : Nat) : Int).toNat) = 0 then crossingsI (bDraw ds (((List.length (bWarps h8 ws)) : Nat) : Int).toNat) else 0), .lst 48, .dd 54 .out, .lst 351, .val (.i .i64) x.2], fun e x => [(38, .slot 4, .lst 3 (.i .i64) (bDraw ds (((List.length (bWarps h8 ws)) : Nat) : Int).toNat) false), (48, .slot 7, .lst 3 (.i .i64) (if aloneErr (bDraw ds (((List.length (bWarps h8 ws)) : Nat) : Int).toNat) = 0 then outW (bDraw ds (((List.length (bWarps h8 ws)) : Nat) : Int).toNat) else []) (List.isEmpty (if aloneErr (bDraw ds (((List.length (bWarps h8 ws)) : Nat) : Int).toNat) = 0 then outW (bDraw ds (((List.length (bWarps h8 ws)) : Nat) : Int).toNat) else []))), (54, .slot 9, .deep 22 (some 3) (.list (.i .i64)) (if aloneErr (bDraw ds (((List.length (bWarps h8 ws)) : Nat) : Int).toNat) = 0 then layersW (bDraw ds (((List.length (bWarps h8 ws)) : Nat) : Int).toNat) else []) (List.isEmpty (if aloneErr (bDraw ds (((List.length (bWarps h8 ws)) : Nat) : Int).toNat) = 0 then layersW (bDraw ds (((List.length (bWarps h8 ws)) : Nat) : Int).toNat) else [])) none), (351, .slot 24, .lst 3 (.i .i64) x.1 false)]⟩)]
set_option maxRecDepth 100000 in
theorem vq_law11_EyeTangle (d : Int × List Int × List Int × List Int) : gwp (cx_law11_EyeTangle) (lp_law11_EyeTangle d.1 d.2.1 d.2.2.1 d.2.2.2) c8 0 (gend [.tmp 2] (res_law11_EyeTangle d) (obs_law11_EyeTangle d)) (gstart 434 (AL.can al_law11_EyeTangle d)) = vc_law11_EyeTangle d.1 d.2.1 d.2.2.1 d.2.2.2 := by kernel_rfl
abbrev Ok_law11_EyeTangle : Prop := OkC Tryd.prog 8 s_law11_EyeTangle
theorem mk_law11_EyeTangle (h : ∀ (h8 : Int) (ws : List Int) (rs : List Int) (ds : List Int), (bOk h8 ws rs ds) → vc_law11_EyeTangle h8 ws rs ds) : OkC Tryd.prog 8 s_law11_EyeTangle :=
 okC_vc fun8 mixed (C := cx_law11_EyeTangle) (V := fun (d : Int × List Int × List Int × List Int) => vc_law11_EyeTangle d.1 d.2.1 d.2.2.1 d.2.2.2) ⟨(.cons ok_law11_Board_harness (.cons ok_law11_Board_drawing (.cons ok_law11_ints (.cons ok_eye_Crossings (.cons ok_eye_Out (.cons ok_eye_Layers (.cons ok_eye_Tangle (.cons ok_law11_known .nil)))))))), XsOk.nil, ItsOk.nil⟩ (vq_law11_EyeTangle) fun d hp => h d.1 d.2.1 d.2.2.1 d.2.2.2 hp
end Go.Proofs.Tryd
set_option linter.unusedVariables false
namespace Go.Proofs.Tryd
open Go Go.V Go.Proofs
theorem bDraw_val {ds : List Int} {n : Nat} (hd : u8s ds) (hn : 1 ≤ n) : ∀ x ∈ bDraw ds n, -1 ≤ x ∧ x < n := fun x hx => by
 obtain ⟨k, hk, rfl⟩ := List.mem_iff_getElem.1 hx
 have hk' : k < n := by rw [bDraw_len] at hk; exact hk
 rw [bDraw_get ds hk']
 split
 ·rename_i hkd
  have hd' := hd _ (List.getElem_mem hkd)
  rw [getD_nat hkd]
  split
  ·omega
  ·split
   ·have h1 := Int.tmod_nonneg (n : Int) hd'.1
    have h2 := Int.tmod_lt_of_pos ds[k] (show (0 : Int) < n by omega)
    omega
   ·omega
 ·omega
theorem bWarps_len {h8 : Int} {ws : List Int} : 1 ≤ (bWarps h8 ws).length ∧ (bWarps h8 ws).length ≤ 24 := by
 have : (bWarps h8 ws).length = if ws = [] then 1 else min 24 ws.length := warpsN_len
 rw [this]
 split
 ·omega
 ·rename_i h
  have := List.length_pos_iff.2 h
  omega
theorem alone_of {l : List Int} (h : ∀ x ∈ l, -1 ≤ x ∧ x ≤ 95) (hn : l.length ≤ 96) : aloneErr l = 0 := by
 have h1 : ¬ 96 < l.length := by omega
 have h2 : l.any (fun x => !inI x (-1) 95) = false := by
  rw [List.any_eq_false]
  intro x hx
  have := h x hx
  simp only [inI, Bool.not_eq_true', Bool.and_eq_false_iff, decide_eq_false_iff_not]
  omega
 simp [aloneErr, h1, h2]
theorem ok_law11_EyeTangle : Ok_law11_EyeTangle := mk_law11_EyeTangle fun h8 ws rs ds hb => by
 unfold vc_law11_EyeTangle; (try delta lI gD sT I64); simp only [true_and, and_true, exists_eq_left', exists_const, Int.toNat_natCast, gt_iff_lt, ge_iff_le, InK_i64]
 have hds := hb.2.2.2.2
 have hn := bWarps_len (h8 := h8) (ws := ws)
 have hlen := bDraw_len ds (bWarps h8 ws).length
 have hval := bDraw_val (n := (bWarps h8 ws).length) hds hn.1
 generalize bDraw ds (bWarps h8 ws).length = l at *
 have hv95 : ∀ x ∈ l, -1 ≤ x ∧ x ≤ 95 := fun x hx => by have := hval x hx; omega
 have he : aloneErr l = 0 := alone_of hv95 (by omega)
 have T := tan_facts hv95
 have F := lay_facts hv95
 rw [← hlen] at hval
 have M := mir_facts hval (by omega)
 have heM : aloneErr (mirL l) = 0 := alone_of M.ok (by rw [mirL_len]; omega)
 have hgt : (layersW l).length = (tangleW l).length := by rw [T.layLen, T.tanLen]
 generalize hN : (bWarps h8 ws).length = n at *
 subst hlen
 refine ⟨hb, ⟨by omega, by omega, hb⟩, by omega, by omega, by omega, by omega, by omega, by omega, by omega, by omega, ?_⟩
 rintro _ rfl _ rfl _ rfl _ rfl _ rfl _ rfl _ rfl _ rfl _ rfl
 simp only [he, if_true, hgt]
 simp only [bne_self_eq_false, Bool.or_self]
 refine ⟨fun h => (by cases h), fun _ => ?_⟩
 have hol : (outW l).length ≤ 24 := by have := T.outLen; have := thr_len l; omega
 have htl : (tangleW l).length ≤ 24 := by have := T.tanLen; have := best_len (R := crossR) (a := (-1, 96)) (l := thr l); have := thr_len l; omega
 refine ⟨([], 0), ⟨rfl, rfl⟩, ?_⟩
 refine ⟨fun d => ∃ i : Nat, i ≤ (outW l).length ∧ d.2 = i ∧ d.1 = ((outW l).take i).map fun x => (x, true), fun d => (outW l).length - d.2.toNat, ⟨0, Nat.zero_le _, rfl, rfl⟩, ?_⟩
 rintro ⟨m, _⟩ ⟨i, hi, rfl, hm⟩
 dsimp only at hm ⊢
 rintro _ rfl
 refine ⟨fun hlt => ?_, fun hge => ?_⟩
 ·have hlt : i < (outW l).length := by have := of_decide_eq_true hlt; omega
  have hw := T.outIn _ (List.getElem_mem hlt)
  have c1 : ((outW l)[i] < 0) = False := eq_false (by omega)
  have c2 : ((l.length : Int) ≤ (outW l)[i]) = False := eq_false (by omega)
  have c3 : (l.getD (outW l)[i].toNat 0 < 0) = False := eq_false (by omega)
  have c4 : (decide (0 < (i : Int)) && decide ((outW l)[i] ≤ (outW l).getD ((i : Int) - 1).toNat 0)) = false := and_dec fun hp => by
   have e : ((i : Int) - 1).toNat = i - 1 := by omega
   rw [e, getD_nat (show i - 1 < (outW l).length by omega)]
   have := List.pairwise_iff_getElem.1 T.out (i - 1) i (by omega) hlt (by omega)
   omega
  have hnin : (outW l)[i] ∉ (outW l).take i := fun h => by
   obtain ⟨k, hk, hk2⟩ := List.mem_take_iff_getElem.1 h
   have := List.pairwise_iff_getElem.1 T.out k i (by omega) hlt (by omega)
   omega
  simp only [getD_nat hlt, c1, c2, c3, c4, true_and, decide_eq_true_eq, decide_eq_false_iff_not, Int.toNat_natCast, Int.ofNat_lt, forall_eq, false_implies, Bool.false_eq_true, Bool.or_false, forall_const, decide_false, not_false_eq_true]
  and_intros
  all_goals try (first | omega | (intros; omega))
  refine ⟨(aput (.i .i64) m (outW l)[i] true, (i : Int) + 1), ⟨rfl, rfl⟩, ⟨i + 1, by omega, by simp, ?_⟩, by dsimp only; omega⟩
  dsimp only
  rw [hm, aput_new hnin, take_succ_eq hlt]
 have hi : i = (outW l).length := by have := of_decide_eq_false hge; omega
 subst hi
 rw [List.take_length] at hm
 subst hm
 refine ⟨_, (0, 0, 0), ⟨⟨rfl, rfl, rfl⟩, rfl⟩, ?_⟩
 refine ⟨fun d => ∃ b : Nat, b ≤ l.length ∧ d.2.2 = b ∧ d.1 = (((List.range b).filter fun w => decide (0 ≤ l.getD w 0)).length : Nat) ∧ d.2.1 = (pairs (fun (x y : Nat) => crossB l x y) (List.range b) : Nat), fun d => l.length - d.2.2.toNat, ⟨0, Nat.zero_le _, rfl, rfl, rfl⟩, ?_⟩
 rintro ⟨th, prs, _⟩ ⟨b, hb2, rfl, hth, hprs⟩
 dsimp only at hth hprs ⊢
 have hthb : ((List.range b).filter fun w => decide (0 ≤ l.getD w 0)).length ≤ b := cnt_le _ _
 have hprb : pairs (fun (x y : Nat) => crossB l x y) (List.range b) ≤ b * b := by have := pairs_le (fun (x y : Nat) => crossB l x y) (List.range b); rwa [List.length_range] at this
 have hbb : b * b ≤ 24 * 24 := Nat.mul_le_mul (by omega) (by omega)
 rintro _ rfl
 refine ⟨fun hlt => ?_, fun hge => ?_⟩
 ·have hlt : b < l.length := by have := of_decide_eq_true hlt; omega
  have hsn : pairs (fun (x y : Nat) => crossB l x y) (List.range (b + 1)) = pairs (fun (x y : Nat) => crossB l x y) (List.range b) + ((List.range b).filter fun (a : Nat) => crossB l a b).length := by
   rw [List.range_succ, pairs_snoc]
  simp only [Int.toNat_natCast, decide_eq_true_eq, decide_eq_false_iff_not, Int.toNat_natCast, Int.ofNat_lt, forall_eq, Bool.false_eq_true]
  refine ⟨by omega, by omega, fun hneg => ?_, fun hpos => ?_⟩
  ·have h0 : ((List.range b).filter fun (a : Nat) => crossB l a b) = [] := List.filter_eq_nil_iff.2 fun a ha => by
    rw [cross_lt (List.mem_range.1 ha)]
    have : decide (0 ≤ l.getD b 0) = false := by rw [decide_eq_false_iff_not]; omega
    rw [this]; simp
   refine ⟨by omega, (th, prs, (b : Int) + 1), ⟨rfl, rfl, rfl⟩, ⟨b + 1, by omega, by simp, ?_, ?_⟩, by dsimp only; omega⟩
   ·dsimp only
    have : decide (0 ≤ l.getD b 0) = false := by rw [decide_eq_false_iff_not]; omega
    rw [hth, cnt_succ, this]; rfl
   ·dsimp only; rw [hsn, h0, hprs]; simp
  ·refine ⟨by omega, ((outW l).map fun x => (x, true), th + 1, (b : Int)), (prs, 0), ⟨⟨rfl, rfl, rfl, rfl⟩, rfl⟩, ?_⟩
   refine ⟨fun d => ∃ a : Nat, a ≤ b ∧ d.2 = a ∧ d.1 = (pairs (fun (x y : Nat) => crossB l x y) (List.range b) + ((List.range a).filter fun (x : Nat) => crossB l x b).length : Nat), fun d => b - d.2.toNat, ⟨0, Nat.zero_le _, rfl, by simpa using hprs⟩, ?_⟩
   rintro ⟨ps, _⟩ ⟨a, ha, rfl, hps⟩
   dsimp only at hps ⊢
   have hfa : ((List.range a).filter fun (x : Nat) => crossB l x b).length ≤ a := cnt_le _ _
   have hfs := cnt_succ (fun (x : Nat) => crossB l x b) a
   simp only [Int.toNat_natCast, and_true, Int.toNat_natCast, Int.ofNat_lt]
   refine ⟨fun hab => ?_, fun hab => ?_⟩
   ·have hab : a < b := by omega
    have hcl := cross_lt (l := l) hab
    have e0 : decide (0 ≤ l.getD b 0) = true := by rw [decide_eq_true_eq]; omega
    rw [e0, Bool.and_true] at hcl
    refine ⟨by omega, by omega, fun _ => by omega, fun _ => by omega, fun _ => by omega, fun _ => by omega, fun hc => ?_, fun hc => ?_⟩
    ·rw [hc] at hcl
     have hc' := hc
     simp only [Bool.and_eq_true, decide_eq_true_eq] at hc'
     have hor := T.apart a b hab hlt hc'.1 (by omega) hc'.2
     refine ⟨by omega, fun hbad => ?_, fun _ => ⟨by omega, (ps + 1, (a : Int) + 1), ⟨rfl, rfl⟩, ⟨a + 1, by omega, by simp, ?_⟩, by dsimp only; omega⟩⟩
     ·rw [aget_map, aget_map, Bool.and_eq_true, Bool.not_eq_true', Bool.not_eq_true'] at hbad
      rcases hor with h | h
      ·exact absurd h (of_decide_eq_false hbad.1)
      ·exact absurd h (of_decide_eq_false hbad.2)
     ·dsimp only; rw [hfs, hcl, hps]; simp; omega
    ·rw [hc] at hcl
     refine ⟨by omega, (ps, (a : Int) + 1), ⟨rfl, rfl⟩, ⟨a + 1, by omega, by simp, ?_⟩, by dsimp only; omega⟩
     dsimp only; rw [hfs, hcl, hps]; simp
   ·have : a = b := by omega
    subst this
    refine ⟨by omega, (th + 1, ps, (a : Int) + 1), (by and_intros <;> first | rfl | trivial), ⟨a + 1, by omega, by simp, ?_, ?_⟩, by dsimp only; omega⟩
    ·dsimp only
     have : decide (0 ≤ l.getD a 0) = true := by rw [decide_eq_true_eq]; omega
     rw [hth, cnt_succ, this]; rfl
    ·dsimp only; rw [hsn, hps]
 have hb3 : b = l.length := by have := of_decide_eq_false hge; omega
 subst hb3
 clear hge
 have hth2 : th = (refThr l).length := by rw [hth, refThr_count]
 have hcr : prs = crossingsI l := hprs
 clear hth hprs hthb hprb hbb
 refine ⟨(th, prs), 0, ⟨rfl, rfl, rfl⟩, ?_⟩
 refine LoopP.count (tangleW l).length (fun _ => True) trivial fun k hk _ q hq => ?_
 rintro _ rfl
 refine ⟨fun hlt => ?_, fun hge => ?_⟩
 ·have hlt : k < (tangleW l).length := by have := of_decide_eq_true hlt; omega
  have hw := T.tanIn _ (List.getElem_mem hlt)
  have c1 : ((tangleW l)[k] < 0) = False := eq_false (by omega)
  have c2 : ((l.length : Int) ≤ (tangleW l)[k]) = False := eq_false (by omega)
  have c3 : (l.getD (tangleW l)[k].toNat 0 < 0) = False := eq_false (by omega)
  have hpv : 0 < (k : Int) → ∃ h : k - 1 < (tangleW l).length, ((k : Int) - 1).toNat = k - 1 ∧ (tangleW l)[k - 1] < (tangleW l)[k] ∧ l.getD (tangleW l)[k].toNat 0 ≤ l.getD (tangleW l)[k - 1].toNat 0 ∧ 0 ≤ (tangleW l)[k - 1] ∧ (tangleW l)[k - 1] < l.length := fun hp => by
   have h1 : k - 1 < (tangleW l).length := by omega
   have h2 := List.pairwise_iff_getElem.1 T.tan (k - 1) k h1 hlt (by omega)
   have h3 := T.tanIn _ (List.getElem_mem h1)
   exact ⟨h1, by omega, h2.1, h2.2, h3.1, h3.2.1⟩
  simp only [Int.toNat_natCast, getD_nat hlt, c1, c2, c3, decide_eq_true_eq, decide_eq_false_iff_not, Int.toNat_natCast, Int.ofNat_lt, forall_eq, Bool.false_eq_true, Bool.or_false, Bool.false_or, forall_const, decide_false, not_false_eq_true]
  have c4 : (decide (0 < (k : Int)) && (decide ((tangleW l)[k] ≤ (tangleW l).getD ((k : Int) - 1).toNat 0) || decide (l.getD ((tangleW l).getD ((k : Int) - 1).toNat 0).toNat 0 < l.getD (tangleW l)[k].toNat 0))) = false := by
   by_cases hp : 0 < (k : Int)
   ·obtain ⟨h1, h2, h3, h4, h5, h6⟩ := hpv hp
    rw [h2, getD_nat h1]
    have e1 : decide ((tangleW l)[k] ≤ (tangleW l)[k - 1]) = false := decide_eq_false (by omega)
    have e2 : decide (l.getD (tangleW l)[k - 1].toNat 0 < l.getD (tangleW l)[k].toNat 0) = false := decide_eq_false (by omega)
    rw [e1, e2]; simp
   ·rw [decide_eq_false hp]; rfl
  simp only [c4, true_and, false_implies, Bool.false_eq_true, forall_const]
  and_intros
  all_goals try (first | omega | (intros; omega))
  all_goals first
  | exact hq hlt trivial
  | (intro hp _; obtain ⟨h1, h2, h3, h4, h5, h6⟩ := hpv hp; rw [h2, getD_nat h1]; omega)
 clear hq
 refine ⟨(th, prs), ([], 0), ⟨⟨rfl, rfl, rfl⟩, rfl⟩, ?_⟩
 refine ⟨fun d => ∃ i : Nat, i ≤ (layersW l).length ∧ d.2 = i ∧ d.1 = ((layersW l).take i).flatten.map fun x => (x, true), fun d => (layersW l).length - d.2.toNat, ⟨0, Nat.zero_le _, rfl, rfl⟩, ?_⟩
 rintro ⟨m, _⟩ ⟨i, hi, rfl, hm⟩
 dsimp only at hm ⊢
 rintro _ rfl
 rw [← hgt]
 refine ⟨fun hlt => ?_, fun hge => ?_⟩
 ·have hlt : i < (layersW l).length := by have := of_decide_eq_true hlt; omega
  obtain ⟨r1, r2, r3, r4⟩ := F.row _ (List.getElem_mem hlt)
  have hsucc : ((layersW l).take (i + 1)).flatten = ((layersW l).take i).flatten ++ (layersW l)[i] := by rw [take_succ_eq hlt, List.flatten_append]; simp
  have hsub : ((layersW l).take (i + 1)).flatten.Sublist (layersW l).flatten := by
   have := List.take_append_drop (i + 1) (layersW l)
   conv => rhs; rw [← this, List.flatten_append]
   exact List.sublist_append_left _ _
  have hnd := F.nodup.sublist hsub
  have hrl : (layersW l)[i].length ≤ (refThr l).length := by
   have := hsub.length_le
   rw [hsucc, List.length_append, F.size] at this; omega
  have hrt := refThr_len l
  rw [hsucc] at hnd
  refine ⟨(th, prs, (i : Int)), (m, 0), ⟨⟨rfl, rfl, rfl, rfl⟩, rfl⟩, ?_⟩
  refine ⟨fun d => ∃ j : Nat, j ≤ (layersW l)[i].length ∧ d.2 = j ∧ d.1 = (((layersW l).take i).flatten ++ (layersW l)[i].take j).map fun x => (x, true), fun d => (layersW l)[i].length - d.2.toNat, ⟨0, Nat.zero_le _, rfl, by simpa using hm⟩, ?_⟩
  rintro ⟨m', _⟩ ⟨j, hj, rfl, hm'⟩
  dsimp only at hm' ⊢
  simp only [Int.toNat_natCast, getD_nat hlt]
  refine ⟨by omega, by omega, ?_⟩
  rintro _ rfl
  refine ⟨fun hjl => ?_, fun hjg => ?_⟩
  ·have hjl : j < (layersW l)[i].length := by have := of_decide_eq_true hjl; omega
   have hw := r3 _ (List.getElem_mem hjl)
   have c1 : ((layersW l)[i][j] < 0) = False := eq_false (by omega)
   have c2 : ((l.length : Int) ≤ (layersW l)[i][j]) = False := eq_false (by omega)
   have c3 : (l.getD (layersW l)[i][j].toNat 0 < 0) = False := eq_false (by omega)
   have hnin : (layersW l)[i][j] ∉ ((layersW l).take i).flatten ++ (layersW l)[i].take j := fun h => by
    rcases List.mem_append.1 h with h | h
    ·exact (List.nodup_append.1 hnd).2.2 _ h _ (List.getElem_mem hjl) rfl
    ·obtain ⟨k, hk, hk2⟩ := List.mem_take_iff_getElem.1 h
     have := (List.nodup_append.1 hnd).2.1
     have := List.pairwise_iff_getElem.1 this k j (by omega) hjl (by omega)
     exact this hk2
   have hag : gq.aget (.i .i64) m' (layersW l)[i][j] false = false := by rw [hm', aget_map]; exact decide_eq_false hnin
   have hpv : 0 < (j : Int) → ∃ h : j - 1 < (layersW l)[i].length, ((j : Int) - 1).toNat = j - 1 ∧ (layersW l)[i][j - 1] < (layersW l)[i][j] ∧ l.getD (layersW l)[i][j - 1].toNat 0 < l.getD (layersW l)[i][j].toNat 0 ∧ 0 ≤ (layersW l)[i][j - 1] ∧ (layersW l)[i][j - 1] < l.length := fun hp => by
    have h1 : j - 1 < (layersW l)[i].length := by omega
    have h2 := List.pairwise_iff_getElem.1 r2 (j - 1) j h1 hjl (by omega)
    have h3 := r3 _ (List.getElem_mem h1)
    refine ⟨h1, by omega, h2, ?_, h3.1, h3.2.1⟩
    simp only [eachB, List.all_eq_true, List.mem_range] at r4
    have h4 := r4 j hjl (j - 1) (by omega)
    rw [getD_nat hjl, getD_nat h1] at h4
    have e1 : (((layersW l)[i][j - 1].toNat : Nat) : Int) = (layersW l)[i][j - 1] := Int.toNat_of_nonneg h3.1
    have e2 : (((layersW l)[i][j].toNat : Nat) : Int) = (layersW l)[i][j] := Int.toNat_of_nonneg hw.1
    rw [cross_comm, ← e1, ← e2, cross_lt (by omega), decide_eq_true h3.2.2, decide_eq_true hw.2.2] at h4
    simpa using h4
   simp only [getD_nat hjl, c1, c2, c3, hag, decide_eq_true_eq, decide_eq_false_iff_not, Int.ofNat_lt, forall_eq, Bool.false_eq_true, Bool.or_self, Bool.false_or, forall_const, decide_false]
   have c4 : (decide (0 < (j : Int)) && (decide ((layersW l)[i][j] ≤ (layersW l)[i].getD ((j : Int) - 1).toNat 0) || decide (l.getD (layersW l)[i][j].toNat 0 ≤ l.getD ((layersW l)[i].getD ((j : Int) - 1).toNat 0).toNat 0))) = false := by
    by_cases hp : 0 < (j : Int)
    ·obtain ⟨h1, h2, h3, h4, h5, h6⟩ := hpv hp
     rw [h2, getD_nat h1]
     have e1 : decide ((layersW l)[i][j] ≤ (layersW l)[i][j - 1]) = false := decide_eq_false (by omega)
     have e2 : decide (l.getD (layersW l)[i][j].toNat 0 ≤ l.getD (layersW l)[i][j - 1].toNat 0) = false := decide_eq_false (by omega)
     rw [e1, e2]; simp
    ·rw [decide_eq_false hp]; rfl
   simp only [c4, true_and, false_implies, Bool.false_eq_true, forall_const]
   and_intros
   all_goals try (first | omega | (intros; omega))
   rotate_left
   ·refine ⟨(aput (.i .i64) m' (layersW l)[i][j] true, (j : Int) + 1), ⟨rfl, rfl⟩, ⟨j + 1, by omega, by simp, ?_⟩, by dsimp only; omega⟩
    dsimp only
    rw [hm', aput_new hnin, take_succ_eq hjl, List.append_assoc]
   all_goals (intro hp _; obtain ⟨h1, h2, h3, h4, h5, h6⟩ := hpv hp; rw [h2, getD_nat h1]; omega)
  ·have hj2 : j = (layersW l)[i].length := by have := of_decide_eq_false hjg; omega
   subst hj2
   refine ⟨by omega, (m', (i : Int) + 1), (by and_intros <;> first | rfl | trivial), ⟨i + 1, by omega, by simp, ?_⟩, by dsimp only; omega⟩
   dsimp only; rw [hm', hsucc, List.take_length]
 have hi : i = (layersW l).length := by have := of_decide_eq_false hge; omega
 subst hi
 rw [List.take_length] at hm
 subst hm
 clear hge
 have hml : (((layersW l).flatten.map fun x => (x, true)).length : Int) = th := by rw [List.length_map, F.size, hth2]
 have hth3 : th = (thr l).length := by rw [hth2, refThr_eq fun x hx => (hval x hx).1, List.length_map]
 have hol2 : (outW l).length ≤ (thr l).length := by have := T.outLen; omega
 have d1 : (prs != crossingsI l) = false := by rw [hcr]; simp
 have d2 : ((((layersW l).flatten.map fun x => (x, true)).length : Int) != th) = false := by rw [hml]; simp
 have d3 : ((crossingsI l == 0) && (decide (1 < ((layersW l).length : Int)) || decide (0 < ((outW l).length : Int)))) = false := by
  by_cases hz : crossingsI l = 0
  ·obtain ⟨z1, z2⟩ := T.none hz
   have e1 : decide (1 < ((layersW l).length : Int)) = false := decide_eq_false (by rw [T.layLen]; omega)
   have e2 : decide (0 < ((outW l).length : Int)) = false := decide_eq_false (by rw [z1]; simp)
   rw [e1, e2]; simp
  ·have : (crossingsI l == 0) = false := beq_eq_false_iff_ne.2 hz
   rw [this]; rfl
 have d4 : decide (th < ((outW l).length : Int)) = false := decide_eq_false (by omega)
 rintro _ rfl _ rfl _ rfl _ rfl _ rfl _ rfl _ rfl _ rfl _ rfl _ rfl _ rfl
 rw [d1, d2, d3, d4]
 refine ⟨fun h => (by cases h), fun _ => ⟨by omega, by omega, by omega, by omega, (List.replicate l.length 0, 0), ⟨rfl, rfl⟩, ?_⟩⟩
 refine ⟨fun d => ∃ w : Nat, w ≤ l.length ∧ d.2 = w ∧ d.1.length = l.length ∧ ∀ j, j < w → d.1.getD (l.length - 1 - j) 0 = (mirL l).getD (l.length - 1 - j) 0, fun d => l.length - d.2.toNat, ⟨0, Nat.zero_le _, rfl, by simp, fun j hj => by omega⟩, ?_⟩
 rintro ⟨tu, _⟩ ⟨w, hw, rfl, htu, hg⟩
 dsimp only at htu hg ⊢
 rintro _ rfl
 refine ⟨fun hlt => ?_, fun hge => ?_⟩
 ·have hlt : w < l.length := by have := of_decide_eq_true hlt; omega
  have hx := hval _ (List.getElem_mem hlt)
  have hmg := mirL_get hlt
  rw [getD_nat hlt] at hmg
  have ew : ((l.length : Int) - 1 - w).toNat = l.length - 1 - w := by omega
  have fin : ∀ tu' : List Int, tu'.length = l.length → tu'.getD (l.length - 1 - w) 0 = (mirL l).getD (l.length - 1 - w) 0 → (∀ j, j < w → tu'.getD (l.length - 1 - j) 0 = tu.getD (l.length - 1 - j) 0) → ∀ j, j < w + 1 → tu'.getD (l.length - 1 - j) 0 = (mirL l).getD (l.length - 1 - j) 0 := fun tu' h1 h2 h3 j hj => by
   rcases Nat.lt_or_ge j w with hjw | hjw
   ·rw [h3 j hjw]; exact hg j hjw
   ·have : j = w := by omega
    subst this; exact h2
  simp only [Int.toNat_natCast, getD_nat hlt, ew, List.length_set]
  refine ⟨by omega, by omega, by omega, by omega, ?_⟩
  rintro _ rfl
  refine ⟨by omega, by omega, by omega, by omega, ?_⟩
  rintro _ rfl _ rfl
  refine ⟨fun hc => ⟨by omega, by omega, by omega, by omega, by omega, ?_⟩, fun hc => ⟨by omega, (tu.set (l.length - 1 - w) l[w], (w : Int) + 1), ⟨rfl, rfl⟩, ⟨w + 1, by omega, by simp, by simp [htu], fin _ (by simp [htu]) ?_ fun j hj => ?_⟩, by dsimp only; omega⟩⟩
  ·have hc := of_decide_eq_true hc
   rintro _ rfl
   refine ⟨by omega, by omega, by omega, by omega, ((tu.set (l.length - 1 - w) l[w]).set (l.length - 1 - w) ((l.length : Int) - 1 - l[w]), (w : Int) + 1), ⟨rfl, rfl⟩, ⟨w + 1, by omega, by simp, by simp [htu], fin _ (by simp [htu]) ?_ fun j hj => ?_⟩, by dsimp only; omega⟩
   ·rw [hmg, if_pos hc, getD_nat (by simp [htu]; omega), List.getElem_set_self]
   ·have hne : l.length - 1 - w ≠ l.length - 1 - j := by omega
    simp only [List.getD_eq_getElem?_getD]
    rw [List.getElem?_set_ne hne, List.getElem?_set_ne hne]
  ·have hc := of_decide_eq_false hc
   rw [hmg, if_neg hc, getD_nat (by simp [htu]; omega), List.getElem_set_self]
  ·have hne : l.length - 1 - w ≠ l.length - 1 - j := by omega
   simp only [List.getD_eq_getElem?_getD]
   rw [List.getElem?_set_ne hne]
 have hw : w = l.length := by have := of_decide_eq_false hge; omega
 subst hw
 have hte : tu = mirL l := by
  apply List.ext_getElem (by rw [htu, mirL_len])
  intro k h1 h2
  have := hg (l.length - 1 - k) (by omega)
  have e : l.length - 1 - (l.length - 1 - k) = k := by omega
  rw [e, getD_nat h1, getD_nat h2] at this
  exact this
 subst hte
 rw [mirL_len]
 simp only [heM, if_true, M.cr, M.out, M.lay, beq_self_eq_true, true_and, and_true, forall_eq, Bool.and_true, implies_true]
 omega
end Go.Proofs.Tryd
set_option linter.unusedVariables false
namespace Go.Proofs.Tryd
open Go Go.V Go.Proofs
theorem u8s_of {l : List Int} (h : KWf (.list (.i .u8)) l) : u8s l := fun x hx => (InK_u8 x).1 (h.2 x hx)
theorem u16s_of {l : List Int} (h : KWf (.list (.i .u16)) l) : u16s l := fun x hx => (InK_u16 x).1 (h.2 x hx)
theorem bOk_of {x : Int × List Int × List Int × List Int} (h : KWf (.pair (.i .u8) (.pair (.list (.i .u8)) (.pair (.list (.i .u16)) (.list (.i .u8))))) x) : bOk x.1 x.2.1 x.2.2.1 x.2.2.2 := by
 obtain ⟨h1, h2, h3, h4⟩ := h
 have h1 := (InK_u8 x.1).1 h1
 exact ⟨h1.1, h1.2, u8s_of h2, u16s_of h3, u8s_of h4⟩
end Go.Proofs.Tryd