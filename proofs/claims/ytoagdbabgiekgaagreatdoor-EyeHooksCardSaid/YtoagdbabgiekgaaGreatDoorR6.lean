/- A framework for walks, contracts of functions, and their proofs: part 6. -/
import Derived.Deep.Slices
import Derived.Test.YtoagdbabgiekgaaGreatDoorR5
namespace Go.V
open Go Go.ChangeShapes Go.WideShapes Go.RowKit Go.Deep Go.Joins
def KFs (T : Kind → TypeId → Bool) (sz : TypeId → Nat) : Kind → List (TypeId × Nat) → Nat → Bool
 | _, [], _ => false
 | k, [p], off => p.2 == off && (sz p.1 == k.size && T k p.1)
 | .pair a b, p :: q :: r, off => p.2 == off && (sz p.1 == a.size && (T a p.1 && KFs T sz b (q :: r) (off + a.size)))
 | _, _ :: _ :: _, _ => false
def KTy (P : Program) : Nat → Kind → TypeId → Bool
 | 0, _, _ => false
 | n + 1, k, t => match P.underlying t with
  | some (.struct fs) => P.cellsOf t == k.size && KFs (KTy P n) P.cellsOf k (fs.toList.map fun f => (f.type, f.offset)) 0
  | some (.array m e) => P.cellsOf t == k.size && KFs (KTy P n) P.cellsOf k ((List.range m).map fun i => (e, i * P.cellsOf e)) 0
  | some (.int ik) => (match k with | .i k' => decide (k' = ik) | _ => false)
  | some .bool => (match k with | .bo => true | _ => false)
  | some .string => (match k with | .st => true | _ => false)
  | some (.slice e) => (match k with | .list k' => P.cellsOf e == k'.size && (k'.flat && KTy P n k' e) | _ => false)
  | _ => false
def KWf : (k : Kind) → k.T → Prop
 | .i ik, x => InK ik x
 | .bo, _ => True
 | .st, s => s.length ≤ maxLen
 | .list k, l => l.length ≤ maxLen ∧ ∀ x ∈ l, KWf k x
 | .pair a b, x => KWf a x.1 ∧ KWf b x.2
theorem More.le {ρ ρ' : Plc} {σ σ' : Heap} (h : More ρ σ ρ' σ') : σ.Le σ' := ⟨h.n, fun i b hb => by rw [h.ag i (σ.lt hb)]; exact hb⟩
def ArgIs (w : World) (ρ : Plc) (σ : Heap) (k : Kind) (cs : List Value) : Prop :=
 ∃ ρ' σ' vs x, View w ρ' σ' ∧ More ρ σ ρ' σ' ∧ LRel ρ' σ'.n vs cs ∧ KC σ' k x vs ∧ KWf k x
theorem ArgIs.pair {w : World} {ρ : Plc} {σ : Heap} {a b : Kind} {cs ds : List Value} (h1 : ArgIs w ρ σ a cs) (h2 : ∀ ρ σ, View w ρ σ → ArgIs w ρ σ b ds) : ArgIs w ρ σ (.pair a b) (cs ++ ds) := by
 obtain ⟨ρ1, σ1, vs1, x1, k1, k2, k3, k4, k5⟩ := h1
 obtain ⟨ρ2, σ2, vs2, x2, m1, m2, m3, m4, m5⟩ := h2 ρ1 σ1 k1
 exact ⟨ρ2, σ2, vs1 ++ vs2, (x1, x2), m1, k2.trans m2, (k3.mono m2.n m2.pl).append m3, ⟨vs1, vs2, rfl, k4.mono m2.le, m4⟩, k5, m5⟩
section
variable {H : Type} {enc : TypeId × Value → H} {P : Program} {w : World} {r : Reach} {base : Nat}
def okc (P : Program) (w : World) (r : Reach) (base : Nat) (ts : List TypeId) (cs : List Value) : Prop := ∀ (i : Nat) v u, cs[i]? = some v → ts[i]? = some u → Cell.okWide P w r base u v
theorem KFs_len {T : Kind → TypeId → Bool} {sz : TypeId → Nat} {g : TypeId → Option (List TypeId)} (hT : ∀ k t ts, T k t = true → g t = some ts → ts.length = k.size) :
  ∀ {k : Kind} {L : List (TypeId × Nat)} {off : Nat} {tss : List (List TypeId)}, KFs T sz k L off = true → L.mapM (fun p => g p.1) = some tss → tss.flatten.length = k.size
 | k, [], _, _, h, _ => by simp [KFs] at h
 | k, [p], off, tss, h, hm => by
  simp only [KFs, Bool.and_eq_true] at h
  cases hg : g p.1 with
  | none => simp [hg] at hm
  | some ts =>
   simp [hg] at hm
   subst hm
   simpa using hT _ _ _ h.2.2 hg
 | .pair a b, p :: q :: r, off, tss, h, hm => by
  simp only [KFs, Bool.and_eq_true] at h
  rw [List.mapM_cons] at hm
  cases hg : g p.1 with
  | none => simp [hg] at hm
  | some ts =>
   cases hr : (q :: r).mapM (fun p => g p.1) with
   | none => simp [hg, hr] at hm
   | some tr =>
    simp [hg, hr] at hm
    subst hm
    have := KFs_len hT h.2.2.2 hr
    simp only [List.flatten_cons, List.length_append, this, hT _ _ _ h.2.2.1 hg, Kind.size]
 | .i _, _ :: _ :: _, _, _, h, _ | .bo, _ :: _ :: _, _, _, h, _ | .st, _ :: _ :: _, _, _, h, _ | .list _, _ :: _ :: _, _, _, h, _ => by cases h
theorem mapM_map {α β γ : Type} {f : α → β} {g : β → Option γ} : ∀ (l : List α), (l.map f).mapM g = l.mapM (fun x => g (f x))
 | [] => rfl
 | a :: l => by simp only [List.map_cons, List.mapM_cons, mapM_map l]
theorem mapM_const {β : Type} {x : β} {f : Nat → Option β} (h : ∀ i, f i = some x) : ∀ l : List Nat, l.mapM f = some (List.replicate l.length x)
 | [] => rfl
 | a :: l => by simp [List.mapM_cons, h, mapM_const h l, List.replicate_succ]
theorem KTy_len : ∀ {n : Nat} {k : Kind} {t : TypeId} {d : Nat} {ts : List TypeId}, KTy P n k t = true → P.cellTypes d t = some ts → ts.length = k.size
 | 0, _, _, _, _, h, _ => by cases h
 | _ + 1, _, _, 0, _, _, h => by cases h
 | n + 1, k, t, d + 1, ts, h, ht => by
  have ih : ∀ k t ts, KTy P n k t = true → P.cellTypes d t = some ts → ts.length = k.size := fun k t ts h1 h2 => KTy_len h1 h2
  unfold Program.cellTypes at ht
  unfold KTy at h
  cases hu : P.underlying t with
  | none => rw [hu] at h; cases h
  | some u =>
   rw [hu] at h ht
   cases u <;> first | (cases h; done) | skip
   all_goals simp only at h ht
   ·split at h <;> first | (cases h; done) | (obtain rfl := Option.some.inj ht; rfl)
   ·split at h <;> first | (cases h; done) | (obtain rfl := Option.some.inj ht; rfl)
   ·split at h <;> first | (cases h; done) | (obtain rfl := Option.some.inj ht; rfl)
   ·split at h <;> first | (cases h; done) | (obtain rfl := Option.some.inj ht; rfl)
   ·rename_i m e
    rw [Bool.and_eq_true] at h
    cases hc : P.cellTypes d e with
    | none => rw [hc] at ht; cases ht
    | some te =>
     rw [hc] at ht
     obtain rfl := Option.some.inj ht
     refine KFs_len (g := fun t => P.cellTypes d t) ih h.2 ?_
     rw [mapM_map, mapM_const (x := te) (fun _ => hc)]
     simp
   ·rename_i fs
    rw [Bool.and_eq_true] at h
    cases hc : fs.toList.mapM fun f => P.cellTypes d f.type with
    | none => rw [hc] at ht; cases ht
    | some tss =>
     rw [hc] at ht
     obtain rfl := Option.some.inj ht
     refine KFs_len (g := fun t => P.cellTypes d t) ih h.2 ?_
     rw [mapM_map]; exact hc
theorem KFs_read {T : Kind → TypeId → Bool} {sz : TypeId → Nat} {Q : TypeId → List Value → Prop} {R : Kind → List Value → Prop} (hT : ∀ k t cs, T k t = true → Q t cs → R k cs) (hR : ∀ a b cs ds, R a cs → R b ds → R (.pair a b) (cs ++ ds)) (cs : List Value) :
  ∀ {k : Kind} {L : List (TypeId × Nat)} {off : Nat}, KFs T sz k L off = true → (∀ p ∈ L, Q p.1 ((cs.drop p.2).take (sz p.1))) → R k ((cs.drop off).take k.size)
 | k, [], _, h, _ => by simp [KFs] at h
 | k, [p], off, h, hq => by
  simp only [KFs, Bool.and_eq_true, beq_iff_eq] at h
  have := hq p (by simp)
  rw [h.1, h.2.1] at this
  exact hT _ _ _ h.2.2 this
 | .pair a b, p :: q :: r, off, h, hq => by
  simp only [KFs, Bool.and_eq_true, beq_iff_eq] at h
  have h1 := hq p (by simp)
  rw [h.1, h.2.1] at h1
  have h2 := KFs_read hT hR cs h.2.2.2 fun x hx => hq x (List.mem_cons_of_mem _ hx)
  have e : (cs.drop off).take (Kind.pair a b).size = (cs.drop off).take a.size ++ (cs.drop (off + a.size)).take b.size := by
   rw [Kind.size, List.take_add, List.drop_drop]
  rw [e]
  exact hR _ _ _ _ (hT _ _ _ h.2.2.1 h1) h2
 | .i _, _ :: _ :: _, _, h, _ | .bo, _ :: _ :: _, _, h, _ | .st, _ :: _ :: _, _, h, _ | .list _, _ :: _ :: _, _, h, _ => by cases h
def FlatIs (k : Kind) (cs : List Value) : Prop := ∃ y : k.T, (∀ h, KC h k y cs) ∧ KWf k y ∧ ∀ ρ m, LRel ρ m cs cs
theorem FlatIs.pair {a b : Kind} {cs ds : List Value} (h1 : FlatIs a cs) (h2 : FlatIs b ds) : FlatIs (.pair a b) (cs ++ ds) := by
 obtain ⟨x, k1, k2, k3⟩ := h1
 obtain ⟨y, m1, m2, m3⟩ := h2
 exact ⟨(x, y), fun h => ⟨cs, ds, rfl, k1 h, m1 h⟩, ⟨k2, m2⟩, fun ρ m => (k3 ρ m).append (m3 ρ m)⟩
theorem LRel.one {ρ : Plc} {n : Nat} {v c : Value} (h : VRel ρ n v c) : LRel ρ n [v] [c] := .cons h (.nil _ _)
theorem range_mem_get {fs : Array Field} {f : Field} (h : f ∈ fs.toList) : ∃ i : Nat, fs[i]? = some f := by
 obtain ⟨i, hi, rfl⟩ := List.mem_iff_getElem.1 h
 exact ⟨i, by simp at hi; simp [hi]⟩
theorem KTy_flat {sp : Nat → Bool} {held : Bool} : ∀ {n : Nat} {k : Kind} {t : TypeId} {fuel : Nat} {cs : List Value} {x : DataW H × List MemPlace}, KTy P n k t = true → k.flat = true → DataW.trod enc P w base sp held fuel t cs = some x → FlatIs k cs
 | 0, _, _, _, _, _, h, _, _ => by cases h
 | n + 1, k, t, fuel, cs, x, h, hf, hx => by
  unfold KTy at h
  cases hu : P.underlying t with
  | none => rw [hu] at h; cases h
  | some u =>
   rw [hu] at h
   have hR : ∀ a b cs ds, ((a.flat = true → FlatIs a cs) ∧ True) → ((b.flat = true → FlatIs b ds) ∧ True) → (((Kind.pair a b).flat = true → FlatIs (.pair a b) (cs ++ ds)) ∧ True) := fun a b cs ds h1 h2 => ⟨fun hf => by
    simp only [Kind.flat, Bool.and_eq_true] at hf
    exact (h1.1 hf.1).pair (h2.1 hf.2), trivial⟩
   have hT : ∀ k t cs, KTy P n k t = true → (∃ fuel x, DataW.trod enc P w base sp held fuel t cs = some x) → ((k.flat = true → FlatIs k cs) ∧ True) := fun k t cs h1 ⟨fuel, x, h2⟩ => ⟨fun hf => KTy_flat h1 hf h2, trivial⟩
   cases u <;> first | (cases h; done) | skip
   all_goals simp only at h
   ·split at h <;> first | (cases h; done) | skip
    obtain ⟨b, rfl, _⟩ := DataW.trod_bool hu hx
    exact ⟨b, fun _ => rfl, trivial, fun _ _ => .one (.bool _)⟩
   ·split at h <;> first | (cases h; done) | skip
    obtain rfl := of_decide_eq_true h
    obtain ⟨z, rfl, _, hw⟩ := DataW.trod_int hu hx
    exact ⟨z, fun _ => rfl, int_wf hw, fun _ _ => .one (.int _ _)⟩
   ·split at h <;> first | (cases h; done) | skip
    obtain ⟨s, rfl, _, hs⟩ := DataW.trod_string hu hx
    exact ⟨s.data.toList, fun _ => rfl, hs, fun _ _ => .one (.string _)⟩
   ·split at h <;> first | (cases h; done) | (cases hf; done)
   ·rename_i m e
    simp only [Bool.and_eq_true, beq_iff_eq] at h
    obtain ⟨xs, m', _, _, hl, hxl, hx⟩ := DataW.trod_array hu hx
    have := (KFs_read (R := fun k cs => (k.flat = true → FlatIs k cs) ∧ True) hT hR cs h.2 fun p hp => by
     simp only [List.mem_map, List.mem_range] at hp
     obtain ⟨i, hi, rfl⟩ := hp
     have := hx i hi
     rw [List.getElem?_eq_getElem (by omega)] at this
     exact ⟨_, _, this⟩).1 hf
    rwa [List.drop_zero, List.take_of_length_le (by omega)] at this
   ·rename_i fs
    simp only [Bool.and_eq_true, beq_iff_eq] at h
    obtain ⟨xs, m', _, _, hl, hxl, hx⟩ := DataW.trod_struct hu hx
    have := (KFs_read (R := fun k cs => (k.flat = true → FlatIs k cs) ∧ True) hT hR cs h.2 fun p hp => by
     simp only [List.mem_map] at hp
     obtain ⟨f, hf', rfl⟩ := hp
     obtain ⟨i, hi⟩ := range_mem_get hf'
     have := hx i f hi
     have hil : i < fs.size := (Array.getElem?_eq_some_iff.1 hi).1
     rw [List.getElem?_eq_getElem (by omega)] at this
     exact ⟨_, _, this⟩).1 hf
    rwa [List.drop_zero, List.take_of_length_le (by omega)] at this
theorem Rows.range {α : Type} {R : α → List Value → Prop} {n : Nat} {c : List Value} {x : Nat → α} : ∀ (m : Nat), (∀ i, i < m → R (x i) ((c.drop (i * n)).take n)) → Rows R ((List.range m).map x) (c.take (m * n))
 | 0, _ => by simp; exact .nil
 | m + 1, h => by
  have e : c.take ((m + 1) * n) = c.take (m * n) ++ (c.drop (m * n)).take n := by rw [Nat.add_mul, Nat.one_mul, List.take_add]
  rw [List.range_succ, List.map_append, e]
  exact (Rows.range m fun i hi => h i (by omega)).append (by simpa using Rows.cons (h m (by omega)) .nil)
theorem choose_below {α : Type} [Inhabited α] {m : Nat} {p : Nat → α → Prop} (h : ∀ i, i < m → ∃ x, p i x) : ∃ f : Nat → α, ∀ i, i < m → p i (f i) :=
 ⟨fun i => if hi : i < m then (h i hi).choose else default, fun i hi => by simp only [hi, dif_pos]; exact (h i hi).choose_spec⟩
instance KInh (k : Kind) : Inhabited k.T := ⟨k.dflt⟩
theorem View.list {ρ : Plc} {σ : Heap} (h : View w ρ σ) {n : Nat} {k : Kind} {t e : TypeId} {fuel : Nat} {cs : List Value} {x : DataW H × List MemPlace} (hu : P.underlying t = some (.slice e)) (hs : P.cellsOf e = k.size) (hf : k.flat = true) (hk : KTy P n k e = true)
  (hx : DataW.trod enc P w 0 (fun _ => true) true fuel t cs = some x) (hok : okc P w r base [t] cs) : ArgIs w ρ σ (.list k) cs := by
 rcases open_slice hu hx with ⟨rfl, _⟩ | ⟨a, len, cap, m, fu, D, Pl, rfl, hb, hl, hm, hmm, _, hel⟩
 ·exact ⟨ρ, σ, [.slice none 0 0], [], h, More.refl _ _, .one .nilSl, ⟨_, rfl, .inl ⟨rfl, rfl⟩⟩, by simp [maxLen], fun _ hx => by cases hx⟩
 simp only [if_true] at hmm
 subst hmm
 rw [hs] at hel
 have hhas : w.has P r base a e m := by
  rcases okWide_slice hu (hok 0 _ t rfl rfl) with hh | ⟨a', len', cap', hh, h2⟩
  ·cases hh
  ·cases hh; exact h2
 obtain ⟨C, row, f, hblk, hoff, hsp⟩ := has_block hhas
 obtain ⟨blk, off, spot⟩ := a
 simp only at hblk hoff hsp
 subst hsp
 have hadd : ∀ i, (⟨blk, off, none⟩ : Addr).add i = ⟨blk, off + i, none⟩ := fun i => by unfold Addr.add; split <;> simp_all
 obtain ⟨X, hX⟩ := choose_below (α := k.T × List Value) (m := m) (p := fun i p => p.2.length = k.size ∧ (∀ j, j < k.size → w.cell? ⟨blk, off + i * k.size + j, none⟩ = p.2[j]?) ∧ (∀ h, KC h k p.1 p.2) ∧ KWf k p.1 ∧ ∀ ρ m, LRel ρ m p.2 p.2) fun i hi => by
  obtain ⟨cs', h1, h2⟩ := hel i hi
  obtain ⟨_, k1, k2⟩ := World.cells?_some h1
  obtain ⟨y, m1, m2, m3⟩ := KTy_flat hk hf h2
  refine ⟨(y, cs'), k1, fun j hj => ?_, m1, m2, m3⟩
  have := k2 j hj
  rw [hadd] at this
  have e2 : (⟨blk, off + i * k.size, none⟩ : Addr).add j = ⟨blk, off + i * k.size + j, none⟩ := by unfold Addr.add; split <;> simp_all
  rw [e2] at this
  exact this
 have hpos := k.size_pos
 let c : List Value := (List.range (m * k.size)).map fun j => ((X (j / k.size)).2[j % k.size]?).getD undef
 have hcl : c.length = m * k.size := by simp [c]
 have hdiv : ∀ j, j < m * k.size → j / k.size < m := fun j hj => Nat.div_lt_of_lt_mul (by rw [Nat.mul_comm]; exact hj)
 have hcell : ∀ j, j < m * k.size → ∃ v, c[j]? = some v ∧ w.cell? ⟨blk, off + j, none⟩ = some v ∧ ∀ ρ m, VRel ρ m v v := fun j hj => by
  have h1 := hX (j / k.size) (hdiv j hj)
  have hjm : j % k.size < k.size := Nat.mod_lt _ hpos
  have h2 := h1.2.1 _ hjm
  have e : off + j / k.size * k.size + j % k.size = off + j := by rw [Nat.add_assoc, Nat.div_add_mod']
  rw [e] at h2
  have h3 : j % k.size < (X (j / k.size)).2.length := by rw [h1.1]; exact hjm
  refine ⟨(X (j / k.size)).2[j % k.size], ?_, ?_, fun ρ m => (h1.2.2.2.2 ρ m).2 _ _ _ (List.getElem?_eq_getElem h3) (List.getElem?_eq_getElem h3)⟩
  ·simp only [c, List.getElem?_map, List.getElem?_range hj, Option.map_some, List.getElem?_eq_getElem h3, Option.getD_some]
  ·rw [h2, List.getElem?_eq_getElem h3]
 have helt : ∀ i, i < m → (c.drop (i * k.size)).take k.size = (X i).2 := fun i hi => by
  have h1 := hX i hi
  have hle : i * k.size + k.size ≤ m * k.size := by
   have : (i + 1) * k.size ≤ m * k.size := Nat.mul_le_mul_right _ hi
   rw [Nat.add_mul] at this; omega
  apply List.ext_getElem?
  intro j
  by_cases hj : j < k.size
  ·rw [List.getElem?_take_of_lt hj, List.getElem?_drop]
   have hj2 : i * k.size + j < m * k.size := by omega
   have e1 : (i * k.size + j) / k.size = i := by rw [Nat.mul_comm, Nat.mul_add_div hpos, Nat.div_eq_of_lt hj, Nat.add_zero]
   have e2 : (i * k.size + j) % k.size = j := by rw [Nat.mul_comm, Nat.mul_add_mod, Nat.mod_eq_of_lt hj]
   have h3 : j < (X i).2.length := by rw [h1.1]; exact hj
   simp only [c, List.getElem?_map, List.getElem?_range hj2, Option.map_some, e1, e2, List.getElem?_eq_getElem h3, Option.getD_some]
  ·rw [List.getElem?_eq_none (by simp; omega), List.getElem?_eq_none (by omega)]
 have hsz : off + m * k.size ≤ C.size := by
  rcases Nat.eq_zero_or_pos (m * k.size) with h0 | h0
  ·omega
  ·obtain ⟨v, _, h2, _⟩ := hcell (m * k.size - 1) (by omega)
   unfold World.cell? at h2
   simp only [hblk] at h2
   have := (Array.getElem?_eq_some_iff.1 (by simpa using h2)).1
   omega
 obtain ⟨hv, hmo⟩ := h.add ⟨blk, off, m * k.size, ⟨k.size, row⟩, false⟩ c hblk hsz (by simp [hcl]) rfl (fun j v hj => by
  have hjl : j < m * k.size := by rw [← hcl]; exact (List.getElem?_eq_some_iff.1 hj).1
  obtain ⟨v', h1, h2, h3⟩ := hcell j hjl
  obtain rfl := Option.some.inj (hj.symm.trans h1)
  exact ⟨v, h2, h3 _ _⟩)
 have hlen : ((List.range len).map fun i => (X i).1).length = len := by simp
 refine ⟨_, _, [.slice (some ⟨σ.n, 0, none⟩) len m], (List.range len).map fun i => (X i).1, hv, hmo, .one ?_, ⟨_, rfl, .inr ⟨σ.n, 0, m, c, ⟨k.size, row⟩, false, false, by rw [hlen], by rw [hlen]; exact hl, Heap.get_push_self _ _, rfl, ?_, ?_⟩⟩, ?_, fun y hy => ?_⟩
 ·refine .sl _ _ _ _ _ _ (by simp) fun p hp => ?_
  simp [Plc.put] at hp
  subst hp
  exact ⟨Nat.le_refl _, (fun h => by cases h), 0, by simp, by simp, .inl rfl⟩
 ·rw [hlen, hcl, Nat.zero_add]; exact Nat.mul_le_mul_right _ hl
 ·rw [hlen, List.drop_zero]
  refine Rows.range len fun i hi => ?_
  rw [helt i (by omega)]
  exact (hX i (by omega)).2.2.1 _
 ·rw [hlen]; exact Nat.le_trans hl hm
 ·obtain ⟨i, hi, rfl⟩ := List.mem_map.1 hy
  exact (hX i (by have := List.mem_range.1 hi; omega)).2.2.2.1
def Kind.lev1 : Kind → Bool
 | .list k => k.flat
 | .pair a b => a.lev1 && b.lev1
 | _ => true
theorem okc_part {ts : List TypeId} {cs : List Value} (h : okc P w r base ts cs) (o n : Nat) : okc P w r base ((ts.drop o).take n) ((cs.drop o).take n) := fun i v u h1 h2 => by
 have hi : i < n := by
  have := (List.getElem?_eq_some_iff.1 h1).1
  rw [List.length_take] at this; omega
 rw [List.getElem?_take_of_lt hi, List.getElem?_drop] at h1 h2
 exact h _ v u h1 h2
theorem KFs_types {T : Kind → TypeId → Bool} {sz : TypeId → Nat} {g : TypeId → Option (List TypeId)} (hT : ∀ k t ts, T k t = true → g t = some ts → ts.length = k.size) :
  ∀ {k : Kind} {L : List (TypeId × Nat)} {off : Nat} {tss : List (List TypeId)}, KFs T sz k L off = true → L.mapM (fun p => g p.1) = some tss → ∀ p ∈ L, off ≤ p.2 ∧ g p.1 = some ((tss.flatten.drop (p.2 - off)).take (sz p.1))
 | k, [], _, _, h, _ => by simp [KFs] at h
 | k, [p], off, tss, h, hm => by
  simp only [KFs, Bool.and_eq_true, beq_iff_eq] at h
  intro p' hp
  obtain rfl := List.mem_singleton.1 hp
  cases hg : g p'.1 with
  | none => simp [hg] at hm
  | some ts =>
   simp [hg] at hm
   subst hm
   refine ⟨by omega, ?_⟩
   rw [h.1, Nat.sub_self, List.drop_zero, h.2.1, List.take_of_length_le]
   ·simp
   ·simp [hT _ _ _ h.2.2 hg]
 | .pair a b, p :: q :: r, off, tss, h, hm => by
  simp only [KFs, Bool.and_eq_true, beq_iff_eq] at h
  rw [List.mapM_cons] at hm
  intro p' hp
  cases hg : g p.1 with
  | none => simp [hg] at hm
  | some ts =>
   cases hr : (q :: r).mapM (fun p => g p.1) with
   | none => simp [hg, hr] at hm
   | some tr =>
    simp [hg, hr] at hm
    subst hm
    have hlen := hT _ _ _ h.2.2.1 hg
    rcases List.mem_cons.1 hp with rfl | hp
    ·refine ⟨by omega, ?_⟩
     rw [hg, h.1, Nat.sub_self, List.drop_zero, h.2.1, List.flatten_cons, List.take_append, ← hlen, Nat.sub_self, List.take_zero, List.append_nil, List.take_length]
    ·obtain ⟨h1, h2⟩ := KFs_types hT h.2.2.2 hr p' hp
     refine ⟨by omega, ?_⟩
     have e1 : ts.drop (p'.2 - off) = [] := List.drop_eq_nil_of_le (by omega)
     have e2 : p'.2 - off - a.size = p'.2 - (off + a.size) := by omega
     rw [h2, List.flatten_cons, List.drop_append, hlen, e1, e2, List.nil_append]
 | .i _, _ :: _ :: _, _, _, h, _ | .bo, _ :: _ :: _, _, _, h, _ | .st, _ :: _ :: _, _, _, h, _ | .list _, _ :: _ :: _, _, _, h, _ => by cases h
theorem KTy_read : ∀ {n : Nat} {k : Kind} {t : TypeId} {d : Nat} {ts : List TypeId} {fuel : Nat} {cs : List Value} {x : DataW H × List MemPlace}, KTy P n k t = true → k.lev1 = true → P.cellTypes d t = some ts → okc P w r base ts cs → DataW.trod enc P w 0 (fun _ => true) true fuel t cs = some x → ∀ ρ σ, View w ρ σ → ArgIs w ρ σ k cs
 | 0, _, _, _, _, _, _, _, h, _, _, _, _ => by cases h
 | _ + 1, _, _, 0, _, _, _, _, _, _, h, _, _ => by cases h
 | n + 1, k, t, d + 1, ts, fuel, cs, x, h, hf, hts, hok, hx => by
  intro ρ σ hv
  by_cases hflat : k.flat = true
  ·obtain ⟨y, h1, h2, h3⟩ := KTy_flat h hflat hx
   exact ⟨ρ, σ, cs, y, hv, More.refl _ _, h3 _ _, h1 _, h2⟩
  unfold KTy at h
  cases hu : P.underlying t with
  | none => rw [hu] at h; cases h
  | some u =>
   rw [hu] at h
   let Q : TypeId → List Value → Prop := fun t cs => (∃ fuel x, DataW.trod enc P w 0 (fun _ => true) true fuel t cs = some x) ∧ ∃ ts, P.cellTypes d t = some ts ∧ okc P w r base ts cs
   let R : Kind → List Value → Prop := fun k cs => k.lev1 = true → ∀ ρ σ, View w ρ σ → ArgIs w ρ σ k cs
   have hR : ∀ a b cs ds, R a cs → R b ds → R (.pair a b) (cs ++ ds) := fun a b cs ds h1 h2 hl ρ σ hv => by
    simp only [Kind.lev1, Bool.and_eq_true] at hl
    exact (h1 hl.1 ρ σ hv).pair fun ρ σ hv => h2 hl.2 ρ σ hv
   have hT : ∀ k t cs, KTy P n k t = true → Q t cs → R k cs := fun k t cs h1 ⟨⟨fuel, x, h2⟩, ts, h3, h4⟩ hl => KTy_read h1 hl h3 h4 h2
   have hlen : ∀ k t ts, KTy P n k t = true → P.cellTypes d t = some ts → ts.length = k.size := fun k t ts h1 h2 => KTy_len h1 h2
   unfold Program.cellTypes at hts
   rw [hu] at hts
   cases u <;> first | (cases h; done) | skip
   all_goals simp only at h
   ·split at h <;> first | (cases h; done) | (exact absurd rfl hflat)
   ·split at h <;> first | (cases h; done) | (exact absurd rfl hflat)
   ·split at h <;> first | (cases h; done) | (exact absurd rfl hflat)
   ·rename_i e
    split at h <;> first | (cases h; done) | skip
    simp only [Bool.and_eq_true, beq_iff_eq] at h
    simp only [Option.some.injEq] at hts
    subst hts
    exact hv.list hu h.1 h.2.1 h.2.2 hx hok
   ·rename_i m e
    simp only [Bool.and_eq_true, beq_iff_eq] at h
    obtain ⟨xs, m', _, _, hl, hxl, hx⟩ := DataW.trod_array hu hx
    simp only at hts
    cases hc : P.cellTypes d e with
    | none => rw [hc] at hts; cases hts
    | some te =>
     rw [hc] at hts
     obtain rfl := Option.some.inj hts
     have htm : ((List.range m).map fun i => (e, i * P.cellsOf e)).mapM (fun p : TypeId × Nat => P.cellTypes d p.1) = some (List.replicate m te) := by
      rw [mapM_map, mapM_const (x := te) (fun _ => hc)]; simp
     have := KFs_read (Q := Q) (R := R) hT hR cs h.2 (fun p hp => by
      have hty := KFs_types (g := fun t => P.cellTypes d t) hlen h.2 htm p hp
      simp only [List.mem_map, List.mem_range] at hp
      obtain ⟨i, hi, rfl⟩ := hp
      have := hx i hi
      rw [List.getElem?_eq_getElem (by omega)] at this
      exact ⟨⟨_, _, this⟩, _, hty.2, okc_part hok _ _⟩) hf ρ σ hv
     rwa [List.drop_zero, List.take_of_length_le (by omega)] at this
   ·rename_i fs
    simp only [Bool.and_eq_true, beq_iff_eq] at h
    obtain ⟨xs, m', _, _, hl, hxl, hx⟩ := DataW.trod_struct hu hx
    simp only at hts
    cases hc : fs.toList.mapM fun f => P.cellTypes d f.type with
    | none => rw [hc] at hts; cases hts
    | some tss =>
     rw [hc] at hts
     obtain rfl := Option.some.inj hts
     have htm : (fs.toList.map fun f => (f.type, f.offset)).mapM (fun p : TypeId × Nat => P.cellTypes d p.1) = some tss := by
      rw [mapM_map]; exact hc
     have := KFs_read (Q := Q) (R := R) hT hR cs h.2 (fun p hp => by
      have hty := KFs_types (g := fun t => P.cellTypes d t) hlen h.2 htm p hp
      simp only [List.mem_map] at hp
      obtain ⟨f, hf', rfl⟩ := hp
      obtain ⟨i, hi⟩ := range_mem_get hf'
      have := hx i f hi
      have hil : i < fs.size := (Array.getElem?_eq_some_iff.1 hi).1
      rw [List.getElem?_eq_getElem (by omega)] at this
      exact ⟨⟨_, _, this⟩, _, hty.2, okc_part hok _ _⟩) hf ρ σ hv
     rwa [List.drop_zero, List.take_of_length_le (by omega)] at this
def isAgg (P : Program) (t : TypeId) : Bool := match P.underlying t with
 | some (.struct _) => true
 | some (.array _ _) => true
 | _ => false
theorem View.arg {ρ : Plc} {σ : Heap} (h : View w ρ σ) {n : Nat} {k : Kind} {t : TypeId} {v : Value} {d : DataW H} {p : List MemPlace} (hk : KTy P n k t = true) (hl : k.lev1 = true) (ha : isAgg P t = !k.one) (hok : Value.okWide P w r base t v) (hd : DataW.Trod enc P w 0 (fun _ => true) true t v d p) :
  ∃ ρ' σ' vv x, View w ρ' σ' ∧ More ρ σ ρ' σ' ∧ VRel ρ' σ'.n vv v ∧ KV σ' k x vv ∧ KWf k x := by
 obtain ⟨fuel, hd⟩ := hd
 by_cases hagg : isAgg P t = true
 ·have hone : k.one = false := by rw [hagg] at ha; simpa using ha.symm
  have : ∃ cs, v = .agg cs ∧ cs.size = P.cellsOf t ∧ Row.okWide P w r base t cs := by
   unfold isAgg at hagg
   unfold Value.okWide at hok
   split at hagg <;> first | (cases hagg; done) | skip
   ·rename_i hu; rw [hu] at hok; exact hok
   ·rename_i hu; rw [hu] at hok; exact hok
  obtain ⟨cs, rfl, hsz, ts, hts, _, hcells⟩ := this
  have hlen := KTy_len hk hts
  have hcs : P.cellsOf t = k.size := by
   unfold isAgg at hagg
   cases n with
   | zero => cases hk
   | succ n =>
    unfold KTy at hk
    split at hagg <;> first | (cases hagg; done) | skip
    all_goals
     rename_i hu
     rw [hu] at hk
     simp only [Bool.and_eq_true, beq_iff_eq] at hk
     exact hk.1
  have hokc : okc P w r base ts cs.toList := fun i v u h1 h2 => by
   have hi : i < ts.length := (List.getElem?_eq_some_iff.1 h2).1
   obtain ⟨u', h3, h4⟩ := hcells i v (by simpa using h1)
   rw [Nat.mod_eq_of_lt hi] at h3
   obtain rfl := Option.some.inj (h2.symm.trans h3)
   exact h4
  obtain ⟨ρ', σ', vs, x, k1, k2, k3, k4, k5⟩ := KTy_read hk hl hts hokc (show DataW.trod enc P w 0 _ true fuel t cs.toList = _ from hd) ρ σ h
  exact ⟨ρ', σ', .agg vs.toArray, x, k1, k2, VRel.agg_of (ds := cs.toList) k3, .inr ⟨hone, vs, rfl, k4⟩, k5⟩
 ·have hone : k.one = true := by
   have : isAgg P t = false := by simpa using hagg
   rw [this] at ha; simpa using ha.symm
  have hsize := Kind.one_size hone
  have hcell : Cell.okWide P w r base t v ∧ v.cells.toList = [v] := by
   have h1 : isAgg P t = false := by simpa using hagg
   unfold isAgg at h1
   have h2 : Cell.okWide P w r base t v := by
    unfold Value.okWide at hok
    split at hok
    ·rename_i hu; rw [hu] at h1; cases h1
    ·rename_i hu; rw [hu] at h1; cases h1
    ·exact hok
   refine ⟨h2, ?_⟩
   cases v <;> first | rfl | skip
   all_goals
    exfalso
    cases n with
    | zero => cases hk
    | succ n =>
     unfold KTy at hk
     unfold Cell.okWide Cell.ok at h2
     cases hu : P.underlying t with
     | none => rw [hu] at hk; cases hk
     | some u =>
      rw [hu] at hk h2 h1
      cases u <;> first | (cases hk; done) | (cases h1; done) | (cases h2; done) | (simp at h2; done)
  have hts : P.cellTypes 1 t = some [t] := by
   have h1 : isAgg P t = false := by simpa using hagg
   unfold isAgg at h1
   unfold Program.cellTypes
   cases n with
   | zero => cases hk
   | succ n =>
    unfold KTy at hk
    cases hu : P.underlying t with
    | none => rw [hu] at hk; cases hk
    | some u =>
     rw [hu] at h1
     cases u <;> first | rfl | (cases h1; done)
  rw [hcell.2] at hd
  have hokc : okc P w r base [t] [v] := fun i v' u h1 h2 => by
   cases i with
   | zero => cases h1; cases h2; exact hcell.1
   | succ i => simp at h1
  obtain ⟨ρ', σ', vs, x, k1, k2, k3, k4, k5⟩ := KTy_read hk hl hts hokc hd ρ σ h
  have : vs.length = 1 := by rw [KC.length k4]; exact hsize
  obtain ⟨vv, rfl⟩ := List.length_eq_one_iff.1 this
  exact ⟨ρ', σ', vv, x, k1, k2, k3.2 0 _ _ rfl rfl, .inl ⟨hone, k4⟩, k5⟩
def AWf : (ks : List Kind) → AT ks → Prop
 | [], _ => True
 | [k], x => KWf k x
 | k :: k' :: ks, x => KWf k x.1 ∧ AWf (k' :: ks) x.2
def ktys (P : Program) : List Kind → List TypeId → Bool
 | [], [] => true
 | k :: ks, t :: ts => (KTy P 8 k t && (k.lev1 && (isAgg P t == !k.one))) && ktys P ks ts
 | _, _ => false
theorem View.args : ∀ {ks : List Kind} {ts : List TypeId} {vs : List Value} {ds : List (DataW H)} {ps : List MemPlace} {ρ : Plc} {σ : Heap}, View w ρ σ → ktys P ks ts = true → (∀ (j : Nat) t v, ts[j]? = some t → vs[j]? = some v → Value.okWide P w r base t v) → DataW.TrodAll enc P w 0 (fun _ => true) true ts vs ds ps →
  ∃ ρ' σ' vvs x, View w ρ' σ' ∧ More ρ σ ρ' σ' ∧ LRel ρ' σ'.n vvs vs ∧ atVals σ' ks x vvs ∧ AWf ks x
 | [], [], vs, ds, ps, ρ, σ, h, _, _, hA => by
  obtain ⟨rfl, rfl, rfl⟩ := trodAll_nil hA
  exact ⟨ρ, σ, [], (), h, More.refl _ _, .nil _ _, rfl, trivial⟩
 | [k], [t], vs, ds, ps, ρ, σ, h, hk, hv, hA => by
  obtain ⟨v, vs', d, ds', p, q, rfl, rfl, rfl, h1, h2⟩ := trodAll_cons hA
  obtain ⟨rfl, rfl, rfl⟩ := trodAll_nil h2
  simp only [ktys, Bool.and_eq_true, beq_iff_eq] at hk
  obtain ⟨ρ', σ', vv, x, k1, k2, k3, k4, k5⟩ := h.arg hk.1.1 hk.1.2.1 hk.1.2.2 (hv 0 t v rfl rfl) h1
  exact ⟨ρ', σ', [vv], x, k1, k2, .one k3, ⟨vv, rfl, k4⟩, k5⟩
 | k :: k' :: ks, t :: ts, vs, ds, ps, ρ, σ, h, hk, hv, hA => by
  obtain ⟨v, vs', d, ds', p, q, rfl, rfl, rfl, h1, h2⟩ := trodAll_cons hA
  simp only [ktys, Bool.and_eq_true, beq_iff_eq] at hk
  obtain ⟨ρ1, σ1, vv, x, k1, k2, k3, k4, k5⟩ := h.arg hk.1.1 hk.1.2.1 hk.1.2.2 (hv 0 t v rfl rfl) h1
  obtain ⟨ρ2, σ2, vvs, y, m1, m2, m3, m4, m5⟩ := k1.args (ks := k' :: ks) hk.2 (fun j t v h1 h2 => hv (j + 1) t v h1 h2) h2
  exact ⟨ρ2, σ2, vv :: vvs, (x, y), m1, k2.trans m2, .cons (k3.mono m2.n m2.pl) m3, ⟨vv, vvs, rfl, k4.vcall m2.le, m4⟩, k5, m5⟩
 | [], _ :: _, _, _, _, _, _, _, hk, _, _ | _ :: _, [], _, _, _, _, _, _, hk, _, _ | [_], _ :: _ :: _, _, _, _, _, _, _, hk, _, _ => by simp [ktys] at hk
theorem law_calls {f : Nat} {sp : CSp} (hsp : OkC P f sp) (he : Enterable P f) {ks : List Kind} {ts : List TypeId} {args : Array Value} {ds : List (DataW H)} {ps : List MemPlace} (hk : ktys P ks ts = true)
  (hv : ∀ (j : Nat) t v, ts[j]? = some t → args.toList[j]? = some v → Value.okWide P w r base t v) (hA : DataW.TrodAll enc P w 0 (fun _ => true) true ts args.toList ds ps)
  (hs : ∀ x : AT ks, AWf ks x → ∃ c, sp (fun _ _ => none) (atSVs ks x) = some (c, .val .bo true, []) ∧ c) : Calls P f args w fun e w' => e = .returned (.bool true) ∧ Below w.heap.size w w' := by
 obtain ⟨ρ, σ, vvs, x, k1, k2, k3, k4, k5⟩ := (View.empty w).args hk hv hA
 obtain ⟨c, h1, h2⟩ := hs x k5
 exact k1.calls k3 (hsp.true he (atSVs_sound k4) h1 h2)
end
end Go.V
namespace Go.V
open Go
theorem trodAll_len {H : Type} {enc : TypeId × Value → H} {P : Program} {w : World} {b : Nat} {sp : Nat → Bool} {hd : Bool} : ∀ {ts : List TypeId} {vs : List Value} {ds : List (DataW H)} {ps : List MemPlace}, DataW.TrodAll enc P w b sp hd ts vs ds ps → ds.length = ts.length
 | [], [], [], _, _ => rfl
 | t :: ts, v :: vs, d :: ds, ps, h => by
  obtain ⟨p, q, _, h2, _⟩ := h
  simp [trodAll_len h2]
 | [], [], _ :: _, _, h | [], _ :: _, _, _, h | _ :: _, [], _, _, h | _ :: _, _ :: _, [], _, h => h.elim
end Go.V
namespace Go.Proofs.Tryz
open Go Go.V
noncomputable def tabL : List (Option FEnt) := [
 none,
 none,
 some (.code c2 [] 1),
 some (.code c3 [.tmp 6] 126),
 some (.code c4 [.tmp 6] 190),
 some (.code c5 [.tmp 6] 186),
 some (.code c6 [.tmp 6] 22),
 some (.code c7 [.tmp 0] 240),
 some (.code c8 [.cell 2 true 2] 9),
 some (.code c9 [.tmp 2] 6),
 some (.code c10 [.cell 2 true 2] 9),
 some (.code c11 [.tmp 4] 26),
 some (.codeJ c12 [.tmp 6, .tmp 7] 61),
 some (.codeJ c13 [.tmp 4, .tmp 5] 31),
 some (.code c14 [.tmp 4] 38),
 some (.code c15 [.tmp 4] 26),
 some (.code c16 [.tmp 4] 28),
 some (.code c17 [.tmp 4] 34),
 some (.code c18 [.tmp 4] 23),
 some (.code c19 [.tmp 4] 22),
 some (.code c20 [.tmp 4] 26),
 some (.code c21 [.tmp 6] 58),
 some (.code c22 [.tmp 2] 6),
 some (.codeJ c23 [.tmp 6, .tmp 7, .tmp 8] 97),
 some (.code c24 [.tmp 6] 15),
 some (.code c25 [.tmp 4] 21),
 some (.code c26 [.tmp 8] 51),
 some (.code c27 [.tmp 4] 52),
 some (.codeJ c28 [.tmp 6, .tmp 7, .tmp 8] 106),
 some (.codeJ c29 [.tmp 6, .tmp 7] 50),
 some (.code c30 [.tmp 4] 46),
 some (.code c31 [] 107),
 some (.code c32 [.cell 0 true 2] 3),
 some (.codeJ c33 [.tmp 2, .tmp 3] 40),
 some (.codeJ c34 [.tmp 2, .tmp 3] 75),
 some (.code c35 [.tmp 2, .tmp 3] 52),
 some (.codeJ c36 [.tmp 2, .tmp 3] 55),
 some (.codeJ c37 [.cell 4 false 1, .tmp 5, .tmp 6] 86),
 some (.code c38 [.tmp 2] 27),
 some (.code c39 [.tmp 6] 11),
 some (.code c40 [.tmp 4, .tmp 5] 43),
 some (.code c41 [.tmp 4] 28),
 some (.code c42 [.tmp 4] 19),
 some (.code c43 [.tmp 2] 33),
 some (.code c44 [.tmp 6] 28),
 some (.code c45 [.tmp 2] 35),
 some (.code c46 [.tmp 2] 25),
 some (.code c47 [.tmp 3] 20),
 some (.code c48 [.tmp 4] 22),
 some (.code c49 [.tmp 4] 9),
 some (.code c50 [.tmp 4] 48),
 some (.code c51 [.tmp 4] 48),
 some (.code c52 [.tmp 4] 22),
 some (.code c53 [.tmp 6] 15),
 some (.code c54 [.cell 6 true 4, .tmp 7] 50),
 some (.codeJ c55 [.tmp 2, .tmp 3] 46),
 some (.code c56 [.tmp 4] 16),
 some (.code c57 [.tmp 9] 45),
 some (.code c58 [.tmp 6] 36),
 some (.code c59 [.tmp 2] 11),
 some (.code c60 [.tmp 2] 22),
 some (.code c61 [.tmp 4] 10),
 some (.code c62 [.tmp 4] 9),
 some (.code c63 [.tmp 4] 48),
 some (.code c64 [.tmp 2] 7),
 some (.code c65 [.tmp 4] 19),
 some (.code c66 [.tmp 3] 8),
 some (.code c67 [.tmp 2] 8),
 some (.code c68 [.tmp 2] 4),
 some (.code c69 [] 28),
 some (.code c70 [.tmp 6] 11),
 some (.code c71 [.tmp 4] 9),
 some (.code c72 [.tmp 4] 13),
 some (.code c73 [.tmp 2] 28),
 some (.code c74 [.tmp 4] 22),
 some (.code c75 [.tmp 6] 15),
 some (.code c76 [.tmp 4] 19),
 some (.code c77 [.tmp 4, .tmp 5] 30),
 some (.code c78 [.tmp 3] 15),
 some (.code c79 [.tmp 4] 43),
 some (.code c80 [.tmp 4] 9),
 some (.code c81 [.tmp 4] 30),
 some (.code c82 [.tmp 2] 4),
 some (.code c83 [.tmp 2] 25),
 some (.code c84 [] 19),
 some (.code c85 [.tmp 4] 13),
 some (.code c86 [.tmp 4] 19),
 some (.code c87 [.tmp 6] 11),
 some (.code c88 [.tmp 4] 17),
 some (.code c89 [.tmp 2] 4),
 some (.code c90 [.tmp 6] 17),
 some (.code c91 [.tmp 2] 14),
 some (.code c92 [.tmp 4, .tmp 5] 17),
 some (.code c93 [.tmp 4, .tmp 5] 51),
 some (.code c94 [.tmp 4] 17),
 some (.code c95 [.tmp 4] 23),
 some (.code c96 [.cell 2 true 256, .tmp 3] 21),
 some (.code c97 [.tmp 4] 16),
 some (.code c98 [.tmp 4] 22),
 some (.code c99 [.tmp 4] 23),
 some (.code c100 [.tmp 4] 34),
 some (.code c101 [.tmp 4] 19),
 some (.code c102 [] 19),
 some (.code c103 [.tmp 4] 13),
 some (.code c104 [] 20),
 some (.code c105 [.tmp 4] 10),
 some (.code c106 [.tmp 2, .tmp 3] 19),
 some (.code c107 [.tmp 4] 9),
 some (.code c108 [.tmp 2, .tmp 3] 51),
 some .same,
 some (.code c110 [.tmp 2, .tmp 3] 117),
 some (.code c111 [.tmp 4] 187),
 some (.code c112 [.tmp 2] 6),
 some (.code c113 [.tmp 4] 8),
 some (.code c114 [.tmp 2] 17),
 some (.code c115 [.tmp 2] 6),
 none,
 some (.code c117 [.tmp 4] 8),
 none,
 none,
 none,
 none,
 none,
 none,
 none,
 none,
 none,
 none,
 none,
 none,
 none,
 none,
 none,
 none,
 none,
 none,
 none,
 none,
 none,
 none,
 some (.code c140 [] 6)]
noncomputable def tab : Tab := fun f => (tabL[f]?).join
theorem tabL_ok : EntsOk Tryz.prog 0 tabL := ⟨trivial, trivial, fun2, fun3, fun4, fun5, fun6, fun7, fun8, fun9, fun10, fun11, fun12, fun13, fun14, fun15, fun16, fun17, fun18, fun19, fun20, fun21, fun22, fun23, fun24, fun25, fun26, fun27, fun28, fun29, fun30, fun31, fun32, fun33, fun34, fun35, fun36, fun37, fun38, fun39, fun40, fun41, fun42, fun43, fun44, fun45, fun46, fun47, fun48, fun49, fun50, fun51, fun52, fun53, fun54, fun55, fun56, fun57, fun58, fun59, fun60, fun61, fun62, fun63, fun64, fun65, fun66, fun67, fun68, fun69, fun70, fun71, fun72, fun73, fun74, fun75, fun76, fun77, fun78, fun79, fun80, fun81, fun82, fun83, fun84, fun85, fun86, fun87, fun88, fun89, fun90, fun91, fun92, fun93, fun94, fun95, fun96, fun97, fun98, fun99, fun100, fun101, fun102, fun103, fun104, fun105, fun106, fun107, fun108, same109, fun110, fun111, fun112, fun113, fun114, fun115, trivial, fun117, trivial, trivial, trivial, trivial, trivial, trivial, trivial, trivial, trivial, trivial, trivial, trivial, trivial, trivial, trivial, trivial, trivial, trivial, trivial, trivial, trivial, trivial, fun140, trivial⟩
theorem tab_ok : TabOk Tryz.prog tab := tabOk_of tabL_ok
theorem known_run : veval tab 300 boolOps [] c7 none (ET.of [] 240) CH.empty (eend false [.tmp 0] fun v _ => isTrue v) = true := by kernel_rfl
theorem known_ok {σ : Heap} {K : Value → Heap → Prop} (hK : K (.bool true) σ) : VCalled Tryz.prog 7 [] σ K := run_true mixed tab_ok 300 fun7 (by decide) known_run hK
end Go.Proofs.Tryz
set_option linter.unusedVariables false
namespace Go.Proofs.Tryz
open Go Go.V Go.Proofs
def al_law11_known : AL (Unit) := .nil
def pre_law11_known (d : Unit) : Prop := True
def res_law11_known (d : Unit) : SV := .val .bo true
def obs_law11_known (d : Unit) : List OB := []
def s_law11_known : CSp := mkSp al_law11_known pre_law11_known res_law11_known obs_law11_known
abbrev Ok_law11_known : Prop := OkC Tryz.prog 7 s_law11_known
theorem ok_law11_known : Ok_law11_known := okC_true fun _ _ h => known_ok h
end Go.Proofs.Tryz
set_option linter.unusedVariables false
namespace Go.Proofs.Tryz
open Go Go.V Go.Proofs
def al_law11_EyeHooks : AL ((Int × List Int) × (Int × List Int) × List (Int × Int × Bool)) := (.cons (.agg (.cons (.k (.i .i64)) (.one (.k (.list (.i .i64)))))) (.cons (.agg (.cons (.k (.i .i64)) (.one (.k (.list (.i .i64)))))) (.one (.k (.list (.pair (.i .i64) (.pair (.i .i64) .bo)))))))
def pre_law11_EyeHooks (d : (Int × List Int) × (Int × List Int) × List (Int × Int × Bool)) : Prop := True
def res_law11_EyeHooks (d : (Int × List Int) × (Int × List Int) × List (Int × Int × Bool)) : SV := .val .bo true
def obs_law11_EyeHooks (d : (Int × List Int) × (Int × List Int) × List (Int × Int × Bool)) : List OB := []
def s_law11_EyeHooks : CSp := mkSp al_law11_EyeHooks pre_law11_EyeHooks res_law11_EyeHooks obs_law11_EyeHooks
def vc_law11_EyeHooks (hk : Int) (lw : List Int) (hd : Int) (rows : List Int) (s : List (Int × Int × Bool)) : Prop :=
 (True) ∧ (((decide (110 < lw.length) || decide (110 < ([] : List Int).length) || decide (70 < rows.length)) || (decide ((lI s) > (70 : Int)))) = true →
  (True) ∧ (true = true ∧ (True))) ∧
 (((decide (110 < lw.length) || decide (110 < ([] : List Int).length) || decide (70 < rows.length)) || (decide ((lI s) > (70 : Int)))) = false →
  (lw.length ≤ 110) ∧ (false = true → lw = []) ∧ (rows.length ≤ 110) ∧ (false = true → rows = []) ∧ (s.length ≤ 110) ∧ (false = true → s = []) ∧ ((s = s ∧ True ∧ True ∧ True ∧ True ∧ (hk = hk ∧ True ∧ (([] : List SV) = [])) ∧ (hd = hd ∧ True ∧ (([] : List SV) = [])) ∧ True ∧ True) ∧ ((hk = hk ∧ lw = lw ∧ (([] : List SV) = [])) ∧ (hd = hd ∧ rows = rows ∧ (([] : List SV) = [])) ∧ ((0 : Int) = (0 : Int) ∧ True ∧ (([] : List SV) = [])) ∧ ((0 : Int) = (0 : Int) ∧ True ∧ (([] : List SV) = [])) ∧ (lw = lw ∧ false = false) ∧ (rows = rows ∧ false = false) ∧ (s = s ∧ false = false) ∧ True)) ∧ ((lw.length ≤ 110) ∧ (false = true → lw = []) ∧ (rows.length ≤ 110) ∧ (false = true → rows = []) ∧ (s.length ≤ 110) ∧ (false = true → s = []) ∧ ((s = s ∧ True ∧ True ∧ True ∧ True ∧ (hk = hk ∧ True ∧ (([] : List SV) = [])) ∧ (hd = hd ∧ True ∧ (([] : List SV) = [])) ∧ True ∧ True) ∧ ((hk = hk ∧ lw = lw ∧ (([] : List SV) = [])) ∧ (hd = hd ∧ rows = rows ∧ (([] : List SV) = [])) ∧ ((0 : Int) = (0 : Int) ∧ True ∧ (([] : List SV) = [])) ∧ ((0 : Int) = (0 : Int) ∧ True ∧ (([] : List SV) = [])) ∧ (lw = lw ∧ false = false) ∧ (rows = rows ∧ false = false) ∧ (s = s ∧ false = false) ∧ True))) ∧ ((lw.length ≤ 110) ∧ (false = true → lw = []) ∧ (rows.length ≤ 110) ∧ (false = true → rows = []) ∧ (s.length ≤ 110) ∧ (false = true → s = []) ∧ ((s = s ∧ True ∧ True ∧ True ∧ True ∧ (hk = hk ∧ True ∧ (([] : List SV) = [])) ∧ (hd = hd ∧ True ∧ (([] : List SV) = [])) ∧ True ∧ True) ∧ ((hk = hk ∧ lw = lw ∧ (([] : List SV) = [])) ∧ (hd = hd ∧ rows = rows ∧ (([] : List SV) = [])) ∧ ((0 : Int) = (0 : Int) ∧ True ∧ (([] : List SV) = [])) ∧ ((0 : Int) = (0 : Int) ∧ True ∧ (([] : List SV) = [])) ∧ (lw = lw ∧ false = false) ∧ (rows = rows ∧ false = false) ∧ (s = s ∧ false = false) ∧ True))) ∧ ((lw.length ≤ 110) ∧ (false = true → lw = []) ∧ (rows.length ≤ 110) ∧ (false = true → rows = []) ∧ (s.length ≤ 110) ∧ (false = true → s = []) ∧ ((s = s ∧ True ∧ True ∧ True ∧ True ∧ (hk = hk ∧ True ∧ (([] : List SV) = [])) ∧ (hd = hd ∧ True ∧ (([] : List SV) = [])) ∧ True ∧ True) ∧ ((hk = hk ∧ lw = lw ∧ (([] : List SV) = [])) ∧ (hd = hd ∧ rows = rows ∧ (([] : List SV) = [])) ∧ ((0 : Int) = (0 : Int) ∧ True ∧ (([] : List SV) = [])) ∧ ((0 : Int) = (0 : Int) ∧ True ∧ (([] : List SV) = [])) ∧ (lw = lw ∧ false = false) ∧ (rows = rows ∧ false = false) ∧ (s = s ∧ false = false) ∧ True))) ∧ ((lw.length ≤ 110) ∧ (false = true → lw = []) ∧ (rows.length ≤ 110) ∧ (false = true → rows = []) ∧ (s.length ≤ 110) ∧ (false = true → s = []) ∧ ((s = s ∧ True ∧ True ∧ True ∧ True ∧ (hk = hk ∧ True ∧ (([] : List SV) = [])) ∧ (hd = hd ∧ True ∧ (([] : List SV) = [])) ∧ True ∧ True) ∧ ((hk = hk ∧ lw = lw ∧ (([] : List SV) = [])) ∧ (hd = hd ∧ rows = rows ∧ (([] : List SV) = [])) ∧ ((0 : Int) = (0 : Int) ∧ True ∧ (([] : List SV) = [])) ∧ ((0 : Int) = (0 : Int) ∧ True ∧ (([] : List SV) = [])) ∧ (lw = lw ∧ false = false) ∧ (rows = rows ∧ false = false) ∧ (s = s ∧ false = false) ∧ True))) ∧ ((lw.length ≤ 110) ∧ (false = true → lw = []) ∧ (rows.length ≤ 110) ∧ (false = true → rows = []) ∧ (s.length ≤ 110) ∧ (false = true → s = []) ∧ ((s = s ∧ True ∧ True ∧ True ∧ True ∧ (hk = hk ∧ True ∧ (([] : List SV) = [])) ∧ (hd = hd ∧ True ∧ (([] : List SV) = [])) ∧ True ∧ True) ∧ ((hk = hk ∧ lw = lw ∧ (([] : List SV) = [])) ∧ (hd = hd ∧ rows = rows ∧ (([] : List SV) = [])) ∧ ((0 : Int) = (0 : Int) ∧ True ∧ (([] : List SV) = [])) ∧ ((0 : Int) = (0 : Int) ∧ True ∧ (([] : List SV) = [])) ∧ (lw = lw ∧ false = false) ∧ (rows = rows ∧ false = false) ∧ (s = s ∧ false = false) ∧ True))) ∧ ((lw.length ≤ 110) ∧ (false = true → lw = []) ∧ (rows.length ≤ 110) ∧ (false = true → rows = []) ∧ (s.length ≤ 110) ∧ (false = true → s = []) ∧ ((s = s ∧ True ∧ True ∧ True ∧ True ∧ (hk = hk ∧ True ∧ (([] : List SV) = [])) ∧ (hd = hd ∧ True ∧ (([] : List SV) = [])) ∧ True ∧ True) ∧ ((hk = hk ∧ lw = lw ∧ (([] : List SV) = [])) ∧ (hd = hd ∧ rows = rows ∧ (([] : List SV) = [])) ∧ ((0 : Int) = (0 : Int) ∧ True ∧ (([] : List SV) = [])) ∧ ((0 : Int) = (0 : Int) ∧ True ∧ (([] : List SV) = [])) ∧ (lw = lw ∧ false = false) ∧ (rows = rows ∧ false = false) ∧ (s = s ∧ false = false) ∧ True))) ∧ ((lw.length ≤ 110) ∧ (false = true → lw = []) ∧ (rows.length ≤ 110) ∧ (false = true → rows = []) ∧ (s.length ≤ 110) ∧ (false = true → s = []) ∧ ((s = s ∧ True ∧ True ∧ True ∧ True ∧ (hk = hk ∧ True ∧ (([] : List SV) = [])) ∧ (hd = hd ∧ True ∧ (([] : List SV) = [])) ∧ True ∧ True) ∧ ((hk = hk ∧ lw = lw ∧ (([] : List SV) = [])) ∧ (hd = hd ∧ rows = rows ∧ (([] : List SV) = [])) ∧ ((0 : Int) = (0 : Int) ∧ True ∧ (([] : List SV) = [])) ∧ ((0 : Int) = (0 : Int) ∧ True ∧ (([] : List SV) = [])) ∧ (lw = lw ∧ false = false) ∧ (rows = rows ∧ false = false) ∧ (s = s ∧ false = false) ∧ True))) ∧ ((lw.length ≤ 110) ∧ (false = true → lw = []) ∧ (rows.length ≤ 110) ∧ (false = true → rows = []) ∧ (s.length ≤ 110) ∧ (false = true → s = []) ∧ ((s = s ∧ True ∧ True ∧ True ∧ True ∧ (hk = hk ∧ True ∧ (([] : List SV) = [])) ∧ (hd = hd ∧ True ∧ (([] : List SV) = [])) ∧ True ∧ True) ∧ ((hk = hk ∧ lw = lw ∧ (([] : List SV) = [])) ∧ (hd = hd ∧ rows = rows ∧ (([] : List SV) = [])) ∧ ((0 : Int) = (0 : Int) ∧ True ∧ (([] : List SV) = [])) ∧ ((0 : Int) = (0 : Int) ∧ True ∧ (([] : List SV) = [])) ∧ (lw = lw ∧ false = false) ∧ (rows = rows ∧ false = false) ∧ (s = s ∧ false = false) ∧ True))) ∧ ((lw.length ≤ 110) ∧ (false = true → lw = []) ∧ (rows.length ≤ 110) ∧ (false = true → rows = []) ∧ (s.length ≤ 110) ∧ (false = true → s = []) ∧ ((s = s ∧ True ∧ True ∧ True ∧ True ∧ (hk = hk ∧ True ∧ (([] : List SV) = [])) ∧ (hd = hd ∧ True ∧ (([] : List SV) = [])) ∧ True ∧ True) ∧ ((hk = hk ∧ lw = lw ∧ (([] : List SV) = [])) ∧ (hd = hd ∧ rows = rows ∧ (([] : List SV) = [])) ∧ ((0 : Int) = (0 : Int) ∧ True ∧ (([] : List SV) = [])) ∧ ((0 : Int) = (0 : Int) ∧ True ∧ (([] : List SV) = [])) ∧ (lw = lw ∧ false = false) ∧ (rows = rows ∧ false = false) ∧ (s = s ∧ false = false) ∧ True))) ∧ ((lw.length ≤ 110) ∧ (false = true → lw = []) ∧ (rows.length ≤ 110) ∧ (false = true → rows = []) ∧ (s.length ≤ 110) ∧ (false = true → s = []) ∧ ((s = s ∧ True ∧ True ∧ True ∧ True ∧ (hk = hk ∧ True ∧ (([] : List SV) = [])) ∧ (hd = hd ∧ True ∧ (([] : List SV) = [])) ∧ True ∧ True) ∧ ((hk = hk ∧ lw = lw ∧ (([] : List SV) = [])) ∧ (hd = hd ∧ rows = rows ∧ (([] : List SV) = [])) ∧ ((0 : Int) = (0 : Int) ∧ True ∧ (([] : List SV) = [])) ∧ ((0 : Int) = (0 : Int) ∧ True ∧ (([] : List SV) = [])) ∧ (lw = lw ∧ false = false) ∧ (rows = rows ∧ false = false) ∧ (s = s ∧ false = false) ∧ True))) ∧ ((lw.length ≤ 110) ∧ (false = true → lw = []) ∧ (rows.length ≤ 110) ∧ (false = true → rows = []) ∧ (s.length ≤ 110) ∧ (false = true → s = []) ∧ ((s = s ∧ True ∧ True ∧ True ∧ True ∧ (hk = hk ∧ True ∧ (([] : List SV) = [])) ∧ (hd = hd ∧ True ∧ (([] : List SV) = [])) ∧ True ∧ True) ∧ ((hk = hk ∧ lw = lw ∧ (([] : List SV) = [])) ∧ (hd = hd ∧ rows = rows ∧ (([] : List SV) = [])) ∧ ((0 : Int) = (0 : Int) ∧ True ∧ (([] : List SV) = [])) ∧ ((0 : Int) = (0 : Int) ∧ True ∧ (([] : List SV) = [])) ∧ (lw = lw ∧ false = false) ∧ (rows = rows ∧ false = false) ∧ (s = s ∧ false = false) ∧ True))) ∧ ((lw.length ≤ 110) ∧ (false = true → lw = []) ∧ (rows.length ≤ 110) ∧ (false = true → rows = []) ∧ (s.length ≤ 110) ∧ (false = true → s = []) ∧ ((s = s ∧ True ∧ True ∧ True ∧ True ∧ (hk = hk ∧ True ∧ (([] : List SV) = [])) ∧ (hd = hd ∧ True ∧ (([] : List SV) = [])) ∧ True ∧ True) ∧ ((hk = hk ∧ lw = lw ∧ (([] : List SV) = [])) ∧ (hd = hd ∧ rows = rows ∧ (([] : List SV) = [])) ∧ ((0 : Int) = (0 : Int) ∧ True ∧ (([] : List SV) = [])) ∧ ((0 : Int) = (0 : Int) ∧ True ∧ (([] : List SV) = [])) ∧ (lw = lw ∧ false = false) ∧ (rows = rows ∧ false = false) ∧ (s = s ∧ false = false) ∧ True))) ∧ ((lw.length ≤ 110) ∧ (false = true → lw = []) ∧ (rows.length ≤ 110) ∧ (false = true → rows = []) ∧ (s.length ≤ 110) ∧ (false = true → s = []) ∧ ((s = s ∧ True ∧ True ∧ True ∧ True ∧ (hk = hk ∧ True ∧ (([] : List SV) = [])) ∧ (hd = hd ∧ True ∧ (([] : List SV) = [])) ∧ True ∧ True) ∧ ((hk = hk ∧ lw = lw ∧ (([] : List SV) = [])) ∧ (hd = hd ∧ rows = rows ∧ (([] : List SV) = [])) ∧ ((0 : Int) = (0 : Int) ∧ True ∧ (([] : List SV) = [])) ∧ ((0 : Int) = (0 : Int) ∧ True ∧ (([] : List SV) = [])) ∧ (lw = lw ∧ false = false) ∧ (rows = rows ∧ false = false) ∧ (s = s ∧ false = false) ∧ True))) ∧ ((lw.length ≤ 110) ∧ (false = true → lw = []) ∧ (rows.length ≤ 110) ∧ (false = true → rows = []) ∧ (s.length ≤ 110) ∧ (false = true → s = []) ∧ ((s = s ∧ True ∧ True ∧ True ∧ True ∧ (hk = hk ∧ True ∧ (([] : List SV) = [])) ∧ (hd = hd ∧ True ∧ (([] : List SV) = [])) ∧ True ∧ True) ∧ ((hk = hk ∧ lw = lw ∧ (([] : List SV) = [])) ∧ (hd = hd ∧ rows = rows ∧ (([] : List SV) = [])) ∧ ((0 : Int) = (0 : Int) ∧ True ∧ (([] : List SV) = [])) ∧ ((0 : Int) = (0 : Int) ∧ True ∧ (([] : List SV) = [])) ∧ (lw = lw ∧ false = false) ∧ (rows = rows ∧ false = false) ∧ (s = s ∧ false = false) ∧ True))) ∧ ((lw.length ≤ 110) ∧ (false = true → lw = []) ∧ (rows.length ≤ 110) ∧ (false = true → rows = []) ∧ (s.length ≤ 110) ∧ (false = true → s = []) ∧ ((s = s ∧ True ∧ True ∧ True ∧ True ∧ (hk = hk ∧ True ∧ (([] : List SV) = [])) ∧ (hd = hd ∧ True ∧ (([] : List SV) = [])) ∧ True ∧ True) ∧ ((hk = hk ∧ lw = lw ∧ (([] : List SV) = [])) ∧ (hd = hd ∧ rows = rows ∧ (([] : List SV) = [])) ∧ ((0 : Int) = (0 : Int) ∧ True ∧ (([] : List SV) = [])) ∧ ((0 : Int) = (0 : Int) ∧ True ∧ (([] : List SV) = [])) ∧ (lw = lw ∧ false = false) ∧ (rows = rows ∧ false = false) ∧ (s = s ∧ false = false) ∧ True))) ∧ ((lw.length ≤ 110) ∧ (false = true → lw = []) ∧ (rows.length ≤ 110) ∧ (false = true → rows = []) ∧ (s.length ≤ 110) ∧ (false = true → s = []) ∧ ((s = s ∧ True ∧ True ∧ True ∧ True ∧ (hk = hk ∧ True ∧ (([] : List SV) = [])) ∧ (hd = hd ∧ True ∧ (([] : List SV) = [])) ∧ True ∧ True) ∧ ((hk = hk ∧ lw = lw ∧ (([] : List SV) = [])) ∧ (hd = hd ∧ rows = rows ∧ (([] : List SV) = [])) ∧ ((0 : Int) = (0 : Int) ∧ True ∧ (([] : List SV) = [])) ∧ ((0 : Int) = (0 : Int) ∧ True ∧ (([] : List SV) = [])) ∧ (lw = lw ∧ false = false) ∧ (rows = rows ∧ false = false) ∧ (s = s ∧ false = false) ∧ True))) ∧ ((lw.length ≤ 110) ∧ (false = true → lw = []) ∧ (rows.length ≤ 110) ∧ (false = true → rows = []) ∧ (s.length ≤ 110) ∧ (false = true → s = []) ∧ ((s = s ∧ True ∧ True ∧ True ∧ True ∧ (hk = hk ∧ True ∧ (([] : List SV) = [])) ∧ (hd = hd ∧ True ∧ (([] : List SV) = [])) ∧ True ∧ True) ∧ ((hk = hk ∧ lw = lw ∧ (([] : List SV) = [])) ∧ (hd = hd ∧ rows = rows ∧ (([] : List SV) = [])) ∧ ((0 : Int) = (0 : Int) ∧ True ∧ (([] : List SV) = [])) ∧ ((0 : Int) = (0 : Int) ∧ True ∧ (([] : List SV) = [])) ∧ (lw = lw ∧ false = false) ∧ (rows = rows ∧ false = false) ∧ (s = s ∧ false = false) ∧ True))) ∧ ((lw.length ≤ 110) ∧ (false = true → lw = []) ∧ (rows.length ≤ 110) ∧ (false = true → rows = []) ∧ (s.length ≤ 110) ∧ (false = true → s = []) ∧ ((s = s ∧ True ∧ True ∧ True ∧ True ∧ (hk = hk ∧ True ∧ (([] : List SV) = [])) ∧ (hd = hd ∧ True ∧ (([] : List SV) = [])) ∧ True ∧ True) ∧ ((hk = hk ∧ lw = lw ∧ (([] : List SV) = [])) ∧ (hd = hd ∧ rows = rows ∧ (([] : List SV) = [])) ∧ ((0 : Int) = (0 : Int) ∧ True ∧ (([] : List SV) = [])) ∧ ((0 : Int) = (0 : Int) ∧ True ∧ (([] : List SV) = [])) ∧ (lw = lw ∧ false = false) ∧ (rows = rows ∧ false = false) ∧ (s = s ∧ false = false) ∧ True))) ∧ ((lw.length ≤ 110) ∧ (false = true → lw = []) ∧ (rows.length ≤ 110) ∧ (false = true → rows = []) ∧ (s.length ≤ 110) ∧ (false = true → s = []) ∧ ((s = s ∧ True ∧ True ∧ True ∧ True ∧ (hk = hk ∧ True ∧ (([] : List SV) = [])) ∧ (hd = hd ∧ True ∧ (([] : List SV) = [])) ∧ True ∧ True) ∧ ((hk = hk ∧ lw = lw ∧ (([] : List SV) = [])) ∧ (hd = hd ∧ rows = rows ∧ (([] : List SV) = [])) ∧ ((0 : Int) = (0 : Int) ∧ True ∧ (([] : List SV) = [])) ∧ ((0 : Int) = (0 : Int) ∧ True ∧ (([] : List SV) = [])) ∧ (lw = lw ∧ false = false) ∧ (rows = rows ∧ false = false) ∧ (s = s ∧ false = false) ∧ True))) ∧ (lw.length ≤ 110 ∧ rows.length ≤ 110 ∧ s.length ≤ 110) ∧ (lw.length ≤ 1000000) ∧ ((!(decide (hk = hk) && (lw == lw))) = false → rows.length ≤ 1000000) ∧ (((!(decide (hk = hk) && (lw == lw))) || (!(decide (hd = hd) && (rows == rows)))) = true →
   (false = true ∧ (True))) ∧
  (((!(decide (hk = hk) && (lw == lw))) || (!(decide (hd = hd) && (rows == rows)))) = false →
   ∃ (e3 : Unit) (d30 : Int), ((s = s ∧ True ∧ True ∧ True ∧ True ∧ True ∧ hooksErr hk lw hd rows s = hooksErr hk lw hd rows s ∧ (0 : Int) = d30 ∧ True) ∧ ((hk = hk ∧ lw = lw ∧ (([] : List SV) = [])) ∧ (hd = hd ∧ rows = rows ∧ (([] : List SV) = [])) ∧ (s = s ∧ false = false) ∧ ((hooksW hk lw hd rows s) = (hooksW hk lw hd rows s) ∧ (hooksW hk lw hd rows s).isEmpty = (List.isEmpty (hooksW hk lw hd rows s))) ∧ ((looseW hk lw hd rows s) = (looseW hk lw hd rows s) ∧ (looseW hk lw hd rows s).isEmpty = (List.isEmpty (looseW hk lw hd rows s))) ∧ True)) ∧
   LoopP (fun (d3 : Int) (q3 : (Int) → Prop) =>
    ((decide (d3 < (lI s))) = true →
     (0 ≤ d3) ∧ (d3 < (List.length s)) ∧ (0 ≤ d3) ∧ (d3 < (List.length s)) ∧ ((!(((gD s d3 (0, (0, false))).1 == (gD s d3 (0, (0, false))).1) && (((gD s d3 (0, (0, false))).2.1 == (gD s d3 (0, (0, false))).2.1) && ((gD s d3 (0, (0, false))).2.2 == (gD s d3 (0, (0, false))).2.2)))) = true →
      (false = true ∧ (True))) ∧
     ((!(((gD s d3 (0, (0, false))).1 == (gD s d3 (0, (0, false))).1) && (((gD s d3 (0, (0, false))).2.1 == (gD s d3 (0, (0, false))).2.1) && ((gD s d3 (0, (0, false))).2.2 == (gD s d3 (0, (0, false))).2.2)))) = false →
      (I64 (d3 + (1 : Int))) ∧ (∃ d4 : Int, ((s = s ∧ True ∧ True ∧ True ∧ True ∧ True ∧ hooksErr hk lw hd rows s = hooksErr hk lw hd rows s ∧ (d3 + (1 : Int)) = d4 ∧ True) ∧ ((hk = hk ∧ lw = lw ∧ (([] : List SV) = [])) ∧ (hd = hd ∧ rows = rows ∧ (([] : List SV) = [])) ∧ (s = s ∧ false = false) ∧ ((hooksW hk lw hd rows s) = (hooksW hk lw hd rows s) ∧ (List.isEmpty (hooksW hk lw hd rows s)) = (List.isEmpty (hooksW hk lw hd rows s))) ∧ ((looseW hk lw hd rows s) = (looseW hk lw hd rows s) ∧ (List.isEmpty (looseW hk lw hd rows s)) = (List.isEmpty (looseW hk lw hd rows s))) ∧ True)) ∧ q3 d4))) ∧
    ((decide (d3 < (lI s))) = false →
     (True) ∧ ((((weaveErr hk lw hd rows) == (0 : Int)) && (decide ((lI s) > (60 : Int)))) = true →
      ∃ (e7 : Unit) (d70 : Int × Int), ((s = s ∧ True ∧ True ∧ True ∧ True ∧ hooksErr hk lw hd rows s = hooksErr hk lw hd rows s ∧ (5 : Int) = d70.1 ∧ (0 : Int) = d70.2 ∧ True) ∧ ((hk = hk ∧ lw = lw ∧ (([] : List SV) = [])) ∧ (hd = hd ∧ rows = rows ∧ (([] : List SV) = [])) ∧ ((hooksW hk lw hd rows s) = (hooksW hk lw hd rows s) ∧ (List.isEmpty (hooksW hk lw hd rows s)) = (List.isEmpty (hooksW hk lw hd rows s))) ∧ ((looseW hk lw hd rows s) = (looseW hk lw hd rows s) ∧ (List.isEmpty (looseW hk lw hd rows s)) = (List.isEmpty (looseW hk lw hd rows s))) ∧ True)) ∧
      LoopP (fun (d7 : Int × Int) (q7 : (Int × Int) → Prop) =>
       (((decide (d7.2 < (lI s))) && (d7.1 == (0 : Int))) = true →
        (0 ≤ d7.2) ∧ (d7.2 < (List.length s)) ∧ (True) ∧ ((!(inI ((gD s d7.2 (0, (0, false))).1) (0 : Int) (119 : Int))) = false → 0 ≤ d7.2) ∧ ((!(inI ((gD s d7.2 (0, (0, false))).1) (0 : Int) (119 : Int))) = false → d7.2 < (List.length s)) ∧ ((!(inI ((gD s d7.2 (0, (0, false))).1) (0 : Int) (119 : Int))) = false → InK .i64 ((lI lw) - (1 : Int))) ∧ ((!(inI ((gD s d7.2 (0, (0, false))).1) (0 : Int) (119 : Int))) = false → True) ∧ (((!(inI ((gD s d7.2 (0, (0, false))).1) (0 : Int) (119 : Int))) || (!(inI ((gD s d7.2 (0, (0, false))).2.1) (0 : Int) ((lI lw) - (1 : Int))))) = true →
         (I64 (d7.2 + (1 : Int))) ∧ (∃ d8 : Int × Int, ((s = s ∧ True ∧ True ∧ True ∧ True ∧ hooksErr hk lw hd rows s = hooksErr hk lw hd rows s ∧ (2 : Int) = d8.1 ∧ (d7.2 + (1 : Int)) = d8.2 ∧ True) ∧ ((hk = hk ∧ lw = lw ∧ (([] : List SV) = [])) ∧ (hd = hd ∧ rows = rows ∧ (([] : List SV) = [])) ∧ ((hooksW hk lw hd rows s) = (hooksW hk lw hd rows s) ∧ (List.isEmpty (hooksW hk lw hd rows s)) = (List.isEmpty (hooksW hk lw hd rows s))) ∧ ((looseW hk lw hd rows s) = (looseW hk lw hd rows s) ∧ (List.isEmpty (looseW hk lw hd rows s)) = (List.isEmpty (looseW hk lw hd rows s))) ∧ True)) ∧ q7 d8)) ∧
        (((!(inI ((gD s d7.2 (0, (0, false))).1) (0 : Int) (119 : Int))) || (!(inI ((gD s d7.2 (0, (0, false))).2.1) (0 : Int) ((lI lw) - (1 : Int))))) = false →
         (I64 (d7.2 + (1 : Int))) ∧ (∃ d9 : Int × Int, ((s = s ∧ True ∧ True ∧ True ∧ True ∧ hooksErr hk lw hd rows s = hooksErr hk lw hd rows s ∧ d7.1 = d9.1 ∧ (d7.2 + (1 : Int)) = d9.2 ∧ True) ∧ ((hk = hk ∧ lw = lw ∧ (([] : List SV) = [])) ∧ (hd = hd ∧ rows = rows ∧ (([] : List SV) = [])) ∧ ((hooksW hk lw hd rows s) = (hooksW hk lw hd rows s) ∧ (List.isEmpty (hooksW hk lw hd rows s)) = (List.isEmpty (hooksW hk lw hd rows s))) ∧ ((looseW hk lw hd rows s) = (looseW hk lw hd rows s) ∧ (List.isEmpty (looseW hk lw hd rows s)) = (List.isEmpty (looseW hk lw hd rows s))) ∧ True)) ∧ q7 d9))) ∧
       (((decide (d7.2 < (lI s))) && (d7.1 == (0 : Int))) = false →
        ((d7.1 != (0 : Int)) = true →
         ((((hooksErr hk lw hd rows s == d7.1) && ((lI (hooksW hk lw hd rows s)) == (0 : Int))) && ((lI (looseW hk lw hd rows s)) == (0 : Int))) = true → True) ∧ (((((hooksErr hk lw hd rows s == d7.1) && ((lI (hooksW hk lw hd rows s)) == (0 : Int))) && ((lI (looseW hk lw hd rows s)) == (0 : Int))) && true) = true ∧ (True))) ∧
        ((d7.1 != (0 : Int)) = false →
         ((((hooksErr hk lw hd rows s != (0 : Int)) || ((lI (hooksW hk lw hd rows s)) != (lI lw))) || ((lI (looseW hk lw hd rows s)) != (lI lw))) = true →
          (false = true ∧ (True))) ∧
         ((((hooksErr hk lw hd rows s != (0 : Int)) || ((lI (hooksW hk lw hd rows s)) != (lI lw))) || ((lI (looseW hk lw hd rows s)) != (lI lw))) = false →
          ∃ (e12 : Unit) (d120 : Int), ((s = s ∧ True ∧ True ∧ True ∧ True ∧ (0 : Int) = d120 ∧ True) ∧ ((hk = hk ∧ lw = lw ∧ (([] : List SV) = [])) ∧ (hd = hd ∧ rows = rows ∧ (([] : List SV) = [])) ∧ ((hooksW hk lw hd rows s) = (hooksW hk lw hd rows s) ∧ (List.isEmpty (hooksW hk lw hd rows s)) = (List.isEmpty (hooksW hk lw hd rows s))) ∧ ((looseW hk lw hd rows s) = (looseW hk lw hd rows s) ∧ (List.isEmpty (looseW hk lw hd rows s)) = (List.isEmpty (looseW hk lw hd rows s))) ∧ True)) ∧
          LoopP (fun (d12 : Int) (q12 : (Int) → Prop) =>
           ((decide (d12 < (lI lw))) = true →
            ∃ (e15 : Int) (d150 : Int × Int), ((s = s ∧ True ∧ True ∧ True ∧ True ∧ d12 = e15 ∧ (0 : Int) = d150.1 ∧ (0 : Int) = d150.2 ∧ True) ∧ ((hk = hk ∧ lw = lw ∧ (([] : List SV) = [])) ∧ (hd = hd ∧ rows = rows ∧ (([] : List SV) = [])) ∧ ((hooksW hk lw hd rows s) = (hooksW hk lw hd rows s) ∧ (List.isEmpty (hooksW hk lw hd rows s)) = (List.isEmpty (hooksW hk lw hd rows s))) ∧ ((looseW hk lw hd rows s) = (looseW hk lw hd rows s) ∧ (List.isEmpty (looseW hk lw hd rows s)) = (List.isEmpty (looseW hk lw hd rows s))) ∧ True)) ∧
            LoopP (fun (d15 : Int × Int) (q15 : (Int × Int) → Prop) =>
             ((decide (d15.2 < hk)) = true →
              (lw.length ≤ 1000000) ∧ ((decide ((idxF lw (fun x => x == d15.2)) ≥ (0 : Int))) = true → rows ≠ [] ∧ (∀ x ∈ rows, 0 ≤ x ∧ x < 9223372036854775808) ∧ 0 ≤ hd ∧ hd ≤ 64 ∧ d15.2 < hd ∧ rows.length ≤ 110 ∧ s.length ≤ 1000000 ∧ ∀ x ∈ s, 0 ≤ x.1) ∧ (((decide ((idxF lw (fun x => x == d15.2)) ≥ (0 : Int))) && (seesB rows s e15 d15.2)) = true →
               (InK .u64 d15.2) ∧ (0 ≤ d15.2) ∧ (I64 (shlI .i64 (1 : Int) d15.2)) ∧ (I64 (d15.1 + (shlI .i64 (1 : Int) d15.2))) ∧ (I64 (d15.2 + (1 : Int))) ∧ (∃ d16 : Int × Int, ((s = s ∧ True ∧ True ∧ True ∧ True ∧ e15 = e15 ∧ (d15.1 + (shlI .i64 (1 : Int) d15.2)) = d16.1 ∧ (d15.2 + (1 : Int)) = d16.2 ∧ True) ∧ ((hk = hk ∧ lw = lw ∧ (([] : List SV) = [])) ∧ (hd = hd ∧ rows = rows ∧ (([] : List SV) = [])) ∧ ((hooksW hk lw hd rows s) = (hooksW hk lw hd rows s) ∧ (List.isEmpty (hooksW hk lw hd rows s)) = (List.isEmpty (hooksW hk lw hd rows s))) ∧ ((looseW hk lw hd rows s) = (looseW hk lw hd rows s) ∧ (List.isEmpty (looseW hk lw hd rows s)) = (List.isEmpty (looseW hk lw hd rows s))) ∧ True)) ∧ q15 d16)) ∧
              (((decide ((idxF lw (fun x => x == d15.2)) ≥ (0 : Int))) && (seesB rows s e15 d15.2)) = false →
               (I64 (d15.2 + (1 : Int))) ∧ (∃ d17 : Int × Int, ((s = s ∧ True ∧ True ∧ True ∧ True ∧ e15 = e15 ∧ d15.1 = d17.1 ∧ (d15.2 + (1 : Int)) = d17.2 ∧ True) ∧ ((hk = hk ∧ lw = lw ∧ (([] : List SV) = [])) ∧ (hd = hd ∧ rows = rows ∧ (([] : List SV) = [])) ∧ ((hooksW hk lw hd rows s) = (hooksW hk lw hd rows s) ∧ (List.isEmpty (hooksW hk lw hd rows s)) = (List.isEmpty (hooksW hk lw hd rows s))) ∧ ((looseW hk lw hd rows s) = (looseW hk lw hd rows s) ∧ (List.isEmpty (looseW hk lw hd rows s)) = (List.isEmpty (looseW hk lw hd rows s))) ∧ True)) ∧ q15 d17))) ∧
             ((decide (d15.2 < hk)) = false →
              (0 ≤ e15) ∧ (e15 < (List.length (hooksW hk lw hd rows s))) ∧ (((gD (hooksW hk lw hd rows s) e15 0) != d15.1) = false → 0 ≤ e15) ∧ (((gD (hooksW hk lw hd rows s) e15 0) != d15.1) = false → e15 < (List.length (looseW hk lw hd rows s))) ∧ (((gD (hooksW hk lw hd rows s) e15 0) != d15.1) = false → rows ≠ [] ∧ (∀ x ∈ rows, 0 ≤ x ∧ x < 9223372036854775808) ∧ 0 ≤ hd ∧ hd ≤ 64 ∧ (-1 : Int) < hd ∧ rows.length ≤ 110 ∧ s.length ≤ 1000000 ∧ ∀ x ∈ s, 0 ≤ x.1) ∧ ((((gD (hooksW hk lw hd rows s) e15 0) != d15.1) || (!((gD (looseW hk lw hd rows s) e15 false) == (seesB rows s e15 (-1 : Int))))) = true →
               (false = true ∧ (True))) ∧
              ((((gD (hooksW hk lw hd rows s) e15 0) != d15.1) || (!((gD (looseW hk lw hd rows s) e15 false) == (seesB rows s e15 (-1 : Int))))) = false →
               (I64 (e15 + (1 : Int))) ∧ (∃ d18 : Int, ((s = s ∧ True ∧ True ∧ True ∧ True ∧ (e15 + (1 : Int)) = d18 ∧ True) ∧ ((hk = hk ∧ lw = lw ∧ (([] : List SV) = [])) ∧ (hd = hd ∧ rows = rows ∧ (([] : List SV) = [])) ∧ ((hooksW hk lw hd rows s) = (hooksW hk lw hd rows s) ∧ (List.isEmpty (hooksW hk lw hd rows s)) = (List.isEmpty (hooksW hk lw hd rows s))) ∧ ((looseW hk lw hd rows s) = (looseW hk lw hd rows s) ∧ (List.isEmpty (looseW hk lw hd rows s)) = (List.isEmpty (looseW hk lw hd rows s))) ∧ True)) ∧ q12 d18)))) d150) ∧
           ((decide (d12 < (lI lw))) = false →
            (True) ∧ (true = true ∧ (True)))) d120)))) d70) ∧
     ((((weaveErr hk lw hd rows) == (0 : Int)) && (decide ((lI s) > (60 : Int)))) = false →
      ∃ (e21 : Unit) (d210 : Int × Int), ((s = s ∧ True ∧ True ∧ True ∧ True ∧ hooksErr hk lw hd rows s = hooksErr hk lw hd rows s ∧ (weaveErr hk lw hd rows) = d210.1 ∧ (0 : Int) = d210.2 ∧ True) ∧ ((hk = hk ∧ lw = lw ∧ (([] : List SV) = [])) ∧ (hd = hd ∧ rows = rows ∧ (([] : List SV) = [])) ∧ ((hooksW hk lw hd rows s) = (hooksW hk lw hd rows s) ∧ (List.isEmpty (hooksW hk lw hd rows s)) = (List.isEmpty (hooksW hk lw hd rows s))) ∧ ((looseW hk lw hd rows s) = (looseW hk lw hd rows s) ∧ (List.isEmpty (looseW hk lw hd rows s)) = (List.isEmpty (looseW hk lw hd rows s))) ∧ True)) ∧
      LoopP (fun (d21 : Int × Int) (q21 : (Int × Int) → Prop) =>
       (((decide (d21.2 < (lI s))) && (d21.1 == (0 : Int))) = true →
        (0 ≤ d21.2) ∧ (d21.2 < (List.length s)) ∧ (True) ∧ ((!(inI ((gD s d21.2 (0, (0, false))).1) (0 : Int) (119 : Int))) = false → 0 ≤ d21.2) ∧ ((!(inI ((gD s d21.2 (0, (0, false))).1) (0 : Int) (119 : Int))) = false → d21.2 < (List.length s)) ∧ ((!(inI ((gD s d21.2 (0, (0, false))).1) (0 : Int) (119 : Int))) = false → InK .i64 ((lI lw) - (1 : Int))) ∧ ((!(inI ((gD s d21.2 (0, (0, false))).1) (0 : Int) (119 : Int))) = false → True) ∧ (((!(inI ((gD s d21.2 (0, (0, false))).1) (0 : Int) (119 : Int))) || (!(inI ((gD s d21.2 (0, (0, false))).2.1) (0 : Int) ((lI lw) - (1 : Int))))) = true →
         (I64 (d21.2 + (1 : Int))) ∧ (∃ d22 : Int × Int, ((s = s ∧ True ∧ True ∧ True ∧ True ∧ hooksErr hk lw hd rows s = hooksErr hk lw hd rows s ∧ (2 : Int) = d22.1 ∧ (d21.2 + (1 : Int)) = d22.2 ∧ True) ∧ ((hk = hk ∧ lw = lw ∧ (([] : List SV) = [])) ∧ (hd = hd ∧ rows = rows ∧ (([] : List SV) = [])) ∧ ((hooksW hk lw hd rows s) = (hooksW hk lw hd rows s) ∧ (List.isEmpty (hooksW hk lw hd rows s)) = (List.isEmpty (hooksW hk lw hd rows s))) ∧ ((looseW hk lw hd rows s) = (looseW hk lw hd rows s) ∧ (List.isEmpty (looseW hk lw hd rows s)) = (List.isEmpty (looseW hk lw hd rows s))) ∧ True)) ∧ q21 d22)) ∧
        (((!(inI ((gD s d21.2 (0, (0, false))).1) (0 : Int) (119 : Int))) || (!(inI ((gD s d21.2 (0, (0, false))).2.1) (0 : Int) ((lI lw) - (1 : Int))))) = false →
         (I64 (d21.2 + (1 : Int))) ∧ (∃ d23 : Int × Int, ((s = s ∧ True ∧ True ∧ True ∧ True ∧ hooksErr hk lw hd rows s = hooksErr hk lw hd rows s ∧ d21.1 = d23.1 ∧ (d21.2 + (1 : Int)) = d23.2 ∧ True) ∧ ((hk = hk ∧ lw = lw ∧ (([] : List SV) = [])) ∧ (hd = hd ∧ rows = rows ∧ (([] : List SV) = [])) ∧ ((hooksW hk lw hd rows s) = (hooksW hk lw hd rows s) ∧ (List.isEmpty (hooksW hk lw hd rows s)) = (List.isEmpty (hooksW hk lw hd rows s))) ∧ ((looseW hk lw hd rows s) = (looseW hk lw hd rows s) ∧ (List.isEmpty (looseW hk lw hd rows s)) = (List.isEmpty (looseW hk lw hd rows s))) ∧ True)) ∧ q21 d23))) ∧
       (((decide (d21.2 < (lI s))) && (d21.1 == (0 : Int))) = false →
        ((d21.1 != (0 : Int)) = true →
         ((((hooksErr hk lw hd rows s == d21.1) && ((lI (hooksW hk lw hd rows s)) == (0 : Int))) && ((lI (looseW hk lw hd rows s)) == (0 : Int))) = true → True) ∧ (((((hooksErr hk lw hd rows s == d21.1) && ((lI (hooksW hk lw hd rows s)) == (0 : Int))) && ((lI (looseW hk lw hd rows s)) == (0 : Int))) && true) = true ∧ (True))) ∧
        ((d21.1 != (0 : Int)) = false →
         ((((hooksErr hk lw hd rows s != (0 : Int)) || ((lI (hooksW hk lw hd rows s)) != (lI lw))) || ((lI (looseW hk lw hd rows s)) != (lI lw))) = true →
          (false = true ∧ (True))) ∧
         ((((hooksErr hk lw hd rows s != (0 : Int)) || ((lI (hooksW hk lw hd rows s)) != (lI lw))) || ((lI (looseW hk lw hd rows s)) != (lI lw))) = false →
          ∃ (e26 : Unit) (d260 : Int), ((s = s ∧ True ∧ True ∧ True ∧ True ∧ (0 : Int) = d260 ∧ True) ∧ ((hk = hk ∧ lw = lw ∧ (([] : List SV) = [])) ∧ (hd = hd ∧ rows = rows ∧ (([] : List SV) = [])) ∧ ((hooksW hk lw hd rows s) = (hooksW hk lw hd rows s) ∧ (List.isEmpty (hooksW hk lw hd rows s)) = (List.isEmpty (hooksW hk lw hd rows s))) ∧ ((looseW hk lw hd rows s) = (looseW hk lw hd rows s) ∧ (List.isEmpty (looseW hk lw hd rows s)) = (List.isEmpty (looseW hk lw hd rows s))) ∧ True)) ∧
          LoopP (fun (d26 : Int) (q26 : (Int) → Prop) =>
           ((decide (d26 < (lI lw))) = true →
            ∃ (e29 : Int) (d290 : Int × Int), ((s = s ∧ True ∧ True ∧ True ∧ True ∧ d26 = e29 ∧ (0 : Int) = d290.1 ∧ (0 : Int) = d290.2 ∧ True) ∧ ((hk = hk ∧ lw = lw ∧ (([] : List SV) = [])) ∧ (hd = hd ∧ rows = rows ∧ (([] : List SV) = [])) ∧ ((hooksW hk lw hd rows s) = (hooksW hk lw hd rows s) ∧ (List.isEmpty (hooksW hk lw hd rows s)) = (List.isEmpty (hooksW hk lw hd rows s))) ∧ ((looseW hk lw hd rows s) = (looseW hk lw hd rows s) ∧ (List.isEmpty (looseW hk lw hd rows s)) = (List.isEmpty (looseW hk lw hd rows s))) ∧ True)) ∧
            LoopP (fun (d29 : Int × Int) (q29 : (Int × Int) → Prop) =>
             ((decide (d29.2 < hk)) = true →
              (lw.length ≤ 1000000) ∧ ((decide ((idxF lw (fun x => x == d29.2)) ≥ (0 : Int))) = true → rows ≠ [] ∧ (∀ x ∈ rows, 0 ≤ x ∧ x < 9223372036854775808) ∧ 0 ≤ hd ∧ hd ≤ 64 ∧ d29.2 < hd ∧ rows.length ≤ 110 ∧ s.length ≤ 1000000 ∧ ∀ x ∈ s, 0 ≤ x.1) ∧ (((decide ((idxF lw (fun x => x == d29.2)) ≥ (0 : Int))) && (seesB rows s e29 d29.2)) = true →
               (InK .u64 d29.2) ∧ (0 ≤ d29.2) ∧ (I64 (shlI .i64 (1 : Int) d29.2)) ∧ (I64 (d29.1 + (shlI .i64 (1 : Int) d29.2))) ∧ (I64 (d29.2 + (1 : Int))) ∧ (∃ d30 : Int × Int, ((s = s ∧ True ∧ True ∧ True ∧ True ∧ e29 = e29 ∧ (d29.1 + (shlI .i64 (1 : Int) d29.2)) = d30.1 ∧ (d29.2 + (1 : Int)) = d30.2 ∧ True) ∧ ((hk = hk ∧ lw = lw ∧ (([] : List SV) = [])) ∧ (hd = hd ∧ rows = rows ∧ (([] : List SV) = [])) ∧ ((hooksW hk lw hd rows s) = (hooksW hk lw hd rows s) ∧ (List.isEmpty (hooksW hk lw hd rows s)) = (List.isEmpty (hooksW hk lw hd rows s))) ∧ ((looseW hk lw hd rows s) = (looseW hk lw hd rows s) ∧ (List.isEmpty (looseW hk lw hd rows s)) = (List.isEmpty (looseW hk lw hd rows s))) ∧ True)) ∧ q29 d30)) ∧
              (((decide ((idxF lw (fun x => x == d29.2)) ≥ (0 : Int))) && (seesB rows s e29 d29.2)) = false →
               (I64 (d29.2 + (1 : Int))) ∧ (∃ d31 : Int × Int, ((s = s ∧ True ∧ True ∧ True ∧ True ∧ e29 = e29 ∧ d29.1 = d31.1 ∧ (d29.2 + (1 : Int)) = d31.2 ∧ True) ∧ ((hk = hk ∧ lw = lw ∧ (([] : List SV) = [])) ∧ (hd = hd ∧ rows = rows ∧ (([] : List SV) = [])) ∧ ((hooksW hk lw hd rows s) = (hooksW hk lw hd rows s) ∧ (List.isEmpty (hooksW hk lw hd rows s)) = (List.isEmpty (hooksW hk lw hd rows s))) ∧ ((looseW hk lw hd rows s) = (looseW hk lw hd rows s) ∧ (List.isEmpty (looseW hk lw hd rows s)) = (List.isEmpty (looseW hk lw hd rows s))) ∧ True)) ∧ q29 d31))) ∧
             ((decide (d29.2 < hk)) = false →
              (0 ≤ e29) ∧ (e29 < (List.length (hooksW hk lw hd rows s))) ∧ (((gD (hooksW hk lw hd rows s) e29 0) != d29.1) = false → 0 ≤ e29) ∧ (((gD (hooksW hk lw hd rows s) e29 0) != d29.1) = false → e29 < (List.length (looseW hk lw hd rows s))) ∧ (((gD (hooksW hk lw hd rows s) e29 0) != d29.1) = false → rows ≠ [] ∧ (∀ x ∈ rows, 0 ≤ x ∧ x < 9223372036854775808) ∧ 0 ≤ hd ∧ hd ≤ 64 ∧ (-1 : Int) < hd ∧ rows.length ≤ 110 ∧ s.length ≤ 1000000 ∧ ∀ x ∈ s, 0 ≤ x.1) ∧ ((((gD (hooksW hk lw hd rows s) e29 0) != d29.1) || (!((gD (looseW hk lw hd rows s) e29 false) == (seesB rows s e29 (-1 : Int))))) = true →
               (false = true ∧ (True))) ∧
              ((((gD (hooksW hk lw hd rows s) e29 0) != d29.1) || (!((gD (looseW hk lw hd rows s) e29 false) == (seesB rows s e29 (-1 : Int))))) = false →
               (I64 (e29 + (1 : Int))) ∧ (∃ d32 : Int, ((s = s ∧ True ∧ True ∧ True ∧ True ∧ (e29 + (1 : Int)) = d32 ∧ True) ∧ ((hk = hk ∧ lw = lw ∧ (([] : List SV) = [])) ∧ (hd = hd ∧ rows = rows ∧ (([] : List SV) = [])) ∧ ((hooksW hk lw hd rows s) = (hooksW hk lw hd rows s) ∧ (List.isEmpty (hooksW hk lw hd rows s)) = (List.isEmpty (hooksW hk lw hd rows s))) ∧ ((looseW hk lw hd rows s) = (looseW hk lw hd rows s) ∧ (List.isEmpty (looseW hk lw hd rows s)) = (List.isEmpty (looseW hk lw hd rows s))) ∧ True)) ∧ q26 d32)))) d290) ∧
           ((decide (d26 < (lI lw))) = false →
            (True) ∧ (true = true ∧ (True)))) d260)))) d210))) d30))
def cx_law11_EyeHooks : Cx := ⟨[], [(6, s_law11_large), (7, s_law11_known), (8, s_law11_own), (10, s_law11_ours), (22, s_law11_sights), (23, s_eye_Hooks), (14, s_ref03_Same), (16, s_ref01_Same), (19, s_ref11_Loom), (24, s_ref11_In), (25, s_ref03_First), (26, s_ref11_Sees)], 190, [], 0, [], [], [], [2, 3, 4, 7, 8, 29, 31, 33], false⟩
def lp_law11_EyeHooks (hk : Int) (lw : List Int) (hd : Int) (rows : List Int) (s : List (Int × Int × Bool)) : List (Nat × LoopAnn) := [(0, ⟨Unit, Int, [2, 3, 4, 9, 10, 11, 12, 13], fun e x => [.val (.list (.pair (.i .i64) (.pair (.i .i64) .bo))) s, .box 3 0, .box 4 0, .lst 33, .lst 38, .lst 228, .val (.i .i64) (hooksErr hk lw hd rows s), .val (.i .i64) x], fun e x => [(3, .slot 3, .cells [.val (.i .i64) hk, .val (.list (.i .i64)) lw] (some 24)), (4, .slot 4, .cells [.val (.i .i64) hd, .val (.list (.i .i64)) rows] (some 26)), (33, .slot 9, .lst 52 (.pair (.i .i64) (.pair (.i .i64) .bo)) s false), (38, .slot 10, .lst 3 (.i .i64) (hooksW hk lw hd rows s) (List.isEmpty (hooksW hk lw hd rows s))), (228, .slot 11, .lst 4 .bo (looseW hk lw hd rows s) (List.isEmpty (looseW hk lw hd rows s)))]⟩),
 (2, ⟨Unit, Int × Int, [2, 3, 4, 10, 11, 12, 14, 15], fun e x => [.val (.list (.pair (.i .i64) (.pair (.i .i64) .bo))) s, .box 3 0, .box 4 0, .lst 38, .lst 228, .val (.i .i64) (hooksErr hk lw hd rows s), .val (.i .i64) x.1, .val (.i .i64) x.2], fun e x => [(3, .slot 3, .cells [.val (.i .i64) hk, .val (.list (.i .i64)) lw] (some 24)), (4, .slot 4, .cells [.val (.i .i64) hd, .val (.list (.i .i64)) rows] (some 26)), (38, .slot 10, .lst 3 (.i .i64) (hooksW hk lw hd rows s) (List.isEmpty (hooksW hk lw hd rows s))), (228, .slot 11, .lst 4 .bo (looseW hk lw hd rows s) (List.isEmpty (looseW hk lw hd rows s)))]⟩),
 (4, ⟨Unit, Int, [2, 3, 4, 10, 11, 16], fun e x => [.val (.list (.pair (.i .i64) (.pair (.i .i64) .bo))) s, .box 3 0, .box 4 0, .lst 38, .lst 228, .val (.i .i64) x], fun e x => [(3, .slot 3, .cells [.val (.i .i64) hk, .val (.list (.i .i64)) lw] (some 24)), (4, .slot 4, .cells [.val (.i .i64) hd, .val (.list (.i .i64)) rows] (some 26)), (38, .slot 10, .lst 3 (.i .i64) (hooksW hk lw hd rows s) (List.isEmpty (hooksW hk lw hd rows s))), (228, .slot 11, .lst 4 .bo (looseW hk lw hd rows s) (List.isEmpty (looseW hk lw hd rows s)))]⟩),
 (6, ⟨Int, Int × Int, [2, 3, 4, 10, 11, 16, 17, 18], fun e x => [.val (.list (.pair (.i .i64) (.pair (.i .i64) .bo))) s, .box 3 0, .box 4 0, .lst 38, .lst 228, .val (.i .i64) e, .val (.i .i64) x.1, .val (.i .i64) x.2], fun e x => [(3, .slot 3, .cells [.val (.i .i64) hk, .val (.list (.i .i64)) lw] (some 24)), (4, .slot 4, .cells [.val (.i .i64) hd, .val (.list (.i .i64)) rows] (some 26)), (38, .slot 10, .lst 3 (.i .i64) (hooksW hk lw hd rows s) (List.isEmpty (hooksW hk lw hd rows s))), (228, .slot 11, .lst 4 .bo (looseW hk lw hd rows s) (List.isEmpty (looseW hk lw hd rows s)))]⟩)]
set_option maxRecDepth 100000 in
theorem vq_law11_EyeHooks (d : (Int × List Int) × (Int × List Int) × List (Int × Int × Bool)) : gwp (cx_law11_EyeHooks) (lp_law11_EyeHooks d.1.1 d.1.2 d.2.1.1 d.2.1.2 d.2.2) c4 0 (gend [.tmp 6] (res_law11_EyeHooks d) (obs_law11_EyeHooks d)) (gstart 190 (AL.can al_law11_EyeHooks d)) = vc_law11_EyeHooks d.1.1 d.1.2 d.2.1.1 d.2.1.2 d.2.2 := by kernel_rfl
abbrev Ok_law11_EyeHooks : Prop := OkC Tryz.prog 4 s_law11_EyeHooks
theorem mk_law11_EyeHooks (h : ∀ (hk : Int) (lw : List Int) (hd : Int) (rows : List Int) (s : List (Int × Int × Bool)), (True) → vc_law11_EyeHooks hk lw hd rows s) : OkC Tryz.prog 4 s_law11_EyeHooks :=
 okC_vc fun4 mixed (C := cx_law11_EyeHooks) (V := fun (d : (Int × List Int) × (Int × List Int) × List (Int × Int × Bool)) => vc_law11_EyeHooks d.1.1 d.1.2 d.2.1.1 d.2.1.2 d.2.2) ⟨(.cons ok_law11_large (.cons ok_law11_known (.cons ok_law11_own (.cons ok_law11_ours (.cons ok_law11_sights (.cons ok_eye_Hooks (.cons ok_ref03_Same (.cons ok_ref01_Same (.cons ok_ref11_Loom (.cons ok_ref11_In (.cons ok_ref03_First (.cons ok_ref11_Sees .nil)))))))))))), XsOk.nil, ItsOk.nil⟩ (vq_law11_EyeHooks) fun d hp => h d.1.1 d.1.2 d.2.1.1 d.2.1.2 d.2.2 hp
theorem fold_bit {rows : List Int} {w j : Nat} : ∀ (s : List SI) (b : Nat), (s.foldl (seeN rows w) b).testBit j = (b.testBit j && s.all fun x => x.2.1 != (w : Int) || ((rowAt rows x.1).testBit j == x.2.2))
 | [], b => by simp
 | x :: s, b => by
  rw [List.foldl_cons, fold_bit s, List.all_cons, ← Bool.and_assoc]
  congr 1
  unfold seeN
  by_cases hx : x.2.1 = (w : Int)
  ·rw [if_pos hx]
   have : (x.2.1 != (w : Int)) = false := by simp [hx]
   rw [this, Bool.false_or]
   cases hu : x.2.2 with
   | true => rw [if_pos rfl, Nat.testBit_and]; cases b.testBit j <;> cases (rowAt rows x.1).testBit j <;> rfl
   | false => rw [if_neg (by simp), Nat.testBit_xor, Nat.testBit_and]; cases b.testBit j <;> cases (rowAt rows x.1).testBit j <;> rfl
  ·rw [if_neg hx]
   have : (x.2.1 != (w : Int)) = true := by simp [hx]
   rw [this, Bool.true_or, Bool.and_true]
theorem all_bit {j : Nat} : ∀ (lw : List Int) (a : Nat), (lw.foldl (fun b k => b ||| 2 ^ k.toNat) a).testBit j = (a.testBit j || lw.any fun k => decide (k.toNat = j))
 | [], a => by simp
 | k :: lw, a => by
  rw [List.foldl_cons, all_bit lw, List.any_cons, Nat.testBit_or, Nat.testBit_two_pow, Bool.or_assoc]
theorem hook_bit {lw rows : List Int} {s : List SI} {w j : Nat} (hlw : ∀ x ∈ lw, 0 ≤ x) : (hookN lw rows s w).testBit j = (decide (idxF lw (fun x => x == (j : Int)) ≥ 0) && seesB rows s w j) := by
 rw [idxF_nonneg]
 unfold hookN seesB allN
 rw [fold_bit, all_bit, Nat.zero_testBit, Bool.false_or]
 congr 1
 ·rw [Bool.eq_iff_iff, List.any_eq_true, List.any_eq_true]
  refine exists_congr fun x => and_congr_right fun hx => ?_
  have := hlw x hx
  simp only [decide_eq_true_eq, beq_iff_eq]; omega
theorem loose_at {lw rows : List Int} {s : List SI} {w : Nat} (hw : w < lw.length) : (looseI lw s).getD w false = seesB rows s w (-1) := by
 rw [getD_nat (by rw [looseI_len]; exact hw)]
 simp only [looseI, List.getElem_map, List.getElem_range, seesB]
 have : decide ((0 : Int) ≤ -1) = false := by decide
 simp only [this, Bool.false_and]
 rw [List.not_any_eq_all_not]
 congr 1; funext x
 by_cases hx : x.2.1 = (w : Int) <;> cases x.2.2 <;> simp [hx]
def wantH (hk : Int) (lw : List Int) (hd : Int) (rows : List Int) (s : List SI) (i : Nat) : Int := if weaveErr hk lw hd rows ≠ 0 then weaveErr hk lw hd rows else if 60 < s.length then 5 else if (s.take i).any (fun x => !inI x.1 0 119 || !inI x.2.1 0 (lw.length - 1)) then 2 else 0
theorem want_zero {hk : Int} {lw : List Int} {hd : Int} {rows : List Int} {s : List SI} {i : Nat} (h : wantH hk lw hd rows s i = 0) : weaveErr hk lw hd rows = 0 ∧ ¬ 60 < s.length ∧ (s.take i).any (fun x => !inI x.1 0 119 || !inI x.2.1 0 (lw.length - 1)) = false := by
 unfold wantH at h
 split at h
 ·contradiction
 ·rename_i h1
  split at h
  ·cases h
  ·rename_i h2
   split at h
   ·cases h
   ·rename_i h3; exact ⟨by simpa using h1, h2, Bool.eq_false_iff.2 h3⟩
theorem want_end {hk : Int} {lw : List Int} {hd : Int} {rows : List Int} {s : List SI} {i : Nat} (h : i = s.length ∨ wantH hk lw hd rows s i ≠ 0) : hooksErr hk lw hd rows s = wantH hk lw hd rows s i := by
 unfold wantH at h ⊢
 unfold hooksErr
 by_cases h1 : weaveErr hk lw hd rows ≠ 0
 ·rw [if_pos h1, if_pos h1]
 ·rw [if_neg h1, if_neg h1]
  by_cases h2 : 60 < s.length
  ·rw [if_pos h2, if_pos h2]
  ·rw [if_neg h2, if_neg h2]
   rw [if_neg h1, if_neg h2] at h
   rcases h with rfl | h
   ·rw [List.take_length]
   ·split at h
    ·rename_i h3
     rw [if_pos h3, if_pos]
     rw [← List.take_append_drop i s, List.any_append, h3, Bool.true_or]
    ·exact absurd rfl h
theorem ok_law11_EyeHooks : Ok_law11_EyeHooks := mk_law11_EyeHooks fun hk lw hd rows s _ => by
 unfold vc_law11_EyeHooks; (try delta lI gD sT I64); simp only [true_and, and_true, exists_eq_left', exists_const, decide_eq_true_eq, decide_eq_false_iff_not, bne_iff_ne, ne_eq, bne_eq_false_iff_eq, Bool.not_eq_true', Bool.not_eq_false', gt_iff_lt, ge_iff_le, InK_i64, InK_u64]
 refine ⟨fun _ => trivial, fun h1 => ?_⟩
 simp only [Bool.or_eq_false_iff, decide_eq_false_iff_not, List.length_nil] at h1
 obtain ⟨⟨⟨h1, _⟩, h2⟩, h3⟩ := h1
 and_intros
 all_goals try (first | omega | trivial | rfl | (intro h; simp at h; done) | (intros; omega))
 intro _
 refine LoopP.count s.length (fun _ => True) trivial fun k hks _ q hq => ?_
 refine ⟨fun hlt => ⟨by omega, by omega, by omega, by omega, fun h => by simp at h, fun _ => ⟨by omega, hq (by omega) trivial⟩⟩, fun hge => ⟨fun hA => ?_, fun hB => ?_⟩⟩
 ·simp only [Bool.and_eq_true, beq_iff_eq, decide_eq_true_eq] at hA
  have e : ((5 : Int), (0 : Int)) = (wantH hk lw hd rows s 0, 0) := by
   have : 60 < s.length := by omega
   unfold wantH; rw [if_neg (by simp [hA.1]), if_pos this]
  refine ⟨(5, 0), (by and_intros <;> first | rfl | trivial | simp), ?_⟩
  rw [e]
  refine ⟨fun d => ∃ i : Nat, i ≤ s.length ∧ d.2 = i ∧ d.1 = wantH hk lw hd rows s i, fun d => s.length - d.2.toNat, ⟨0, Nat.zero_le _, rfl, rfl⟩, ?_⟩
  rintro ⟨x, _⟩ ⟨i, hi, rfl, hx⟩
  dsimp only at hx ⊢
  refine ⟨fun hc => ?_, fun hc => ?_⟩
  ·simp only [Bool.and_eq_true, decide_eq_true_eq, beq_iff_eq] at hc
   obtain ⟨hlt, hx0⟩ := hc
   have hlt : i < s.length := by omega
   have hx' := hx
   rw [hx0] at hx'
   obtain ⟨g1, g2, g3⟩ := want_zero hx'.symm
   simp only [Int.toNat_natCast, getD_nat hlt]
   refine ⟨by omega, by omega, fun _ => by omega, fun _ => by omega, fun _ => by omega, fun _ => trivial, fun hb => ⟨by omega, (2, (i : Int) + 1), (by and_intros <;> first | rfl | trivial | simp), ⟨i + 1, by omega, rfl, ?_⟩, by dsimp only; omega⟩, fun hb => ⟨by omega, (x, (i : Int) + 1), (by and_intros <;> first | rfl | trivial | simp), ⟨i + 1, by omega, rfl, ?_⟩, by dsimp only; omega⟩⟩
   ·unfold wantH; rw [if_neg (by simp [g1]), if_neg g2, take_succ_eq hlt, List.any_append, g3, Bool.false_or, List.any_cons, hb, Bool.true_or, if_pos rfl]
   ·rw [hx0]; unfold wantH; rw [if_neg (by simp [g1]), if_neg g2, take_succ_eq hlt, List.any_append, g3, Bool.false_or, List.any_cons, hb, List.any_nil, Bool.or_false, if_neg (by simp)]
  ·have hE : hooksErr hk lw hd rows s = x := by
    rw [hx]; apply want_end; rw [← hx]
    by_cases h5 : x = 0
    ·left; rw [h5] at hc; simp at hc; omega
    ·exact .inr h5
   refine ⟨fun hne => ?_, fun he => ?_⟩
   ·have w1 : hooksW hk lw hd rows s = [] := by unfold hooksW; rw [hE, if_neg hne]
    have w2 : looseW hk lw hd rows s = [] := by unfold looseW; rw [hE, if_neg hne]
    rw [w1, w2, hE]; simp
   ·rw [he] at hE
    have w1 : hooksW hk lw hd rows s = hooksI lw rows s := by unfold hooksW; rw [hE, if_pos rfl]
    have w2 : looseW hk lw hd rows s = looseI lw s := by unfold looseW; rw [hE, if_pos rfl]
    rw [he] at hx
    obtain ⟨g1, g2, g3⟩ := want_zero hx.symm
    have g3 : s.any (fun x => !inI x.1 0 119 || !inI x.2.1 0 (lw.length - 1)) = false := by
     cases h : s.any (fun x => !inI x.1 0 119 || !inI x.2.1 0 (lw.length - 1)) with
     | false => rfl
     | true => unfold hooksErr at hE; rw [if_neg (by simp [g1]), if_neg g2, if_pos h] at hE; cases hE
    obtain ⟨t1, t2, t3, t4, t5⟩ := tieErr_zero (weaveErr_tie g1)
    obtain ⟨v1, v2⟩ := weaveErr_zero g1
    obtain ⟨p1, p2, p3, p4, p5⟩ := pointErr_zero v1
    have hpw := pow_bound p1 p2
    have rn : ¬ rows = [] := fun h => p4 (by rw [h]; rfl)
    have sp : ∀ x ∈ s, 0 ≤ x.1 := fun x hx => by
     have := List.any_eq_false.1 g3 x hx
     simp only [Bool.or_eq_true, Bool.not_eq_true', inI, Bool.and_eq_false_iff, decide_eq_false_iff_not] at this
     omega
    have pq : ∀ x ∈ rows, 0 ≤ x ∧ x < 9223372036854775808 := fun x hx => by have := p5 x hx; omega
    rw [w1, w2, hE, hooksI_len, looseI_len]
    refine ⟨fun h => by simp at h, fun _ => ?_⟩
    refine LoopP.count lw.length (fun _ => True) trivial fun w hw _ q2 hq2 => ?_
    refine ⟨fun hwl => ?_, fun _ => trivial⟩
    have hwl : w < lw.length := by omega
    refine ⟨(w : Int), (0, 0), (by and_intros <;> first | rfl | trivial | simp), ?_⟩
    refine ⟨fun d => ∃ (k b : Nat), (k : Int) ≤ hk ∧ d.2 = k ∧ d.1 = b ∧ b < 2 ^ k ∧ ∀ j, b.testBit j = (decide (j < k) && (decide (idxF lw (fun x => x == (j : Int)) ≥ 0) && seesB rows s w j)), fun d => hk.toNat - d.2.toNat, ⟨0, 0, by omega, rfl, rfl, by simp, by simp⟩, ?_⟩
    rintro ⟨_, _⟩ ⟨k, b, hk', rfl, rfl, hb, hbit⟩
    dsimp only
    refine ⟨fun hlt => ?_, fun hge => ?_⟩
    ·have hsh : shlI .i64 1 (k : Int) = ((2 ^ k : Nat) : Int) := by
      rw [shl_one (by omega) (by omega), Int.toNat_natCast]; norm_cast
     have h2k : 2 ^ k ≤ 2 ^ 24 := Nat.pow_le_pow_right (by omega) (by omega)
     rw [hsh]
     have hp2 : 2 ^ (k + 1) = 2 ^ k + 2 ^ k := by rw [Nat.pow_succ]; omega
     generalize hz : 2 ^ k = z at *
     refine ⟨by omega, fun _ => ⟨rn, pq, by omega, by omega, by omega, by omega, by omega, sp⟩, fun hc => ?_, fun hc => ?_⟩
     ·refine ⟨by omega, by omega, by omega, by omega, by omega, (((b + z : Nat) : Int), (k : Int) + 1), (by and_intros <;> first | rfl | trivial | (dsimp only; omega)), ⟨k + 1, b + z, by omega, rfl, rfl, by omega, fun j => ?_⟩, by dsimp only; omega⟩
      rw [Nat.add_comm b z, ← hz]
      rcases Nat.lt_trichotomy j k with hj | hj | hj
      ·rw [Nat.testBit_two_pow_add_gt hj, hbit j]
       have : j < k + 1 := by omega
       simp [hj, this]
      ·subst hj
       rw [Nat.testBit_two_pow_add_eq, hbit j]
       simp only [ge_iff_le] at hc ⊢
       simp [hc]
      ·have h6 : ¬ j < k + 1 := by omega
       rw [decide_eq_false h6, Bool.false_and]
       apply Nat.testBit_lt_two_pow
       have : 2 ^ (k + 1) ≤ 2 ^ j := Nat.pow_le_pow_right (by omega) (by omega)
       omega
     ·refine ⟨by omega, ((b : Int), (k : Int) + 1), (by and_intros <;> first | rfl | trivial | simp), ⟨k + 1, b, by omega, rfl, rfl, by omega, fun j => ?_⟩, by dsimp only; omega⟩
      rw [hbit j]
      by_cases hj : j = k
      ·subst hj
       simp only [ge_iff_le] at hc ⊢
       simp [hc]
      ·have : (j < k + 1) = (j < k) := by apply propext; omega
       simp only [this]
    ·have hkk : (k : Int) = hk := by omega
     have hbk : hookN lw rows s w = b := by
      apply Nat.eq_of_testBit_eq
      intro j
      rw [hook_bit fun x hx => (t5 x hx).1, hbit j]
      by_cases hj : j < k
      ·rw [decide_eq_true hj, Bool.true_and]
      ·rw [decide_eq_false hj, Bool.false_and]
       have : decide (idxF lw (fun x => x == (j : Int)) ≥ 0) = false := by
        rw [idxF_nonneg, List.any_eq_false]
        intro x hx
        have := t5 x hx
        simp only [beq_iff_eq]; omega
       rw [this, Bool.false_and]
     have hgd : (hooksI lw rows s).getD w 0 = (b : Int) := by
      rw [getD_nat (by rw [hooksI_len]; exact hwl), ← hbk]; simp [hooksI]
     simp only [Int.toNat_natCast, hgd, loose_at (rows := rows) hwl]
     refine ⟨by omega, by omega, fun _ => by omega, fun _ => by omega, fun _ => ⟨rn, pq, by omega, by omega, by omega, by omega, by omega, sp⟩, fun h => by simp at h, fun _ => ⟨by omega, hq2 hwl trivial⟩⟩
 ·have e : (weaveErr hk lw hd rows, (0 : Int)) = (wantH hk lw hd rows s 0, 0) := by
   unfold wantH
   by_cases h4 : weaveErr hk lw hd rows = 0
   ·have : ¬ 60 < s.length := by rw [h4] at hB; simp at hB; omega
    rw [if_neg (by simp [h4]), if_neg this, h4]; rfl
   ·rw [if_pos h4]
  refine ⟨(weaveErr hk lw hd rows, 0), (by and_intros <;> first | rfl | trivial | simp), ?_⟩
  rw [e]
  refine ⟨fun d => ∃ i : Nat, i ≤ s.length ∧ d.2 = i ∧ d.1 = wantH hk lw hd rows s i, fun d => s.length - d.2.toNat, ⟨0, Nat.zero_le _, rfl, rfl⟩, ?_⟩
  rintro ⟨x, _⟩ ⟨i, hi, rfl, hx⟩
  dsimp only at hx ⊢
  refine ⟨fun hc => ?_, fun hc => ?_⟩
  ·simp only [Bool.and_eq_true, decide_eq_true_eq, beq_iff_eq] at hc
   obtain ⟨hlt, hx0⟩ := hc
   have hlt : i < s.length := by omega
   have hx' := hx
   rw [hx0] at hx'
   obtain ⟨g1, g2, g3⟩ := want_zero hx'.symm
   simp only [Int.toNat_natCast, getD_nat hlt]
   refine ⟨by omega, by omega, fun _ => by omega, fun _ => by omega, fun _ => by omega, fun _ => trivial, fun hb => ⟨by omega, (2, (i : Int) + 1), (by and_intros <;> first | rfl | trivial | simp), ⟨i + 1, by omega, rfl, ?_⟩, by dsimp only; omega⟩, fun hb => ⟨by omega, (x, (i : Int) + 1), (by and_intros <;> first | rfl | trivial | simp), ⟨i + 1, by omega, rfl, ?_⟩, by dsimp only; omega⟩⟩
   ·unfold wantH; rw [if_neg (by simp [g1]), if_neg g2, take_succ_eq hlt, List.any_append, g3, Bool.false_or, List.any_cons, hb, Bool.true_or, if_pos rfl]
   ·rw [hx0]; unfold wantH; rw [if_neg (by simp [g1]), if_neg g2, take_succ_eq hlt, List.any_append, g3, Bool.false_or, List.any_cons, hb, List.any_nil, Bool.or_false, if_neg (by simp)]
  ·have hE : hooksErr hk lw hd rows s = x := by
    rw [hx]; apply want_end; rw [← hx]
    by_cases h5 : x = 0
    ·left; rw [h5] at hc; simp at hc; omega
    ·exact .inr h5
   refine ⟨fun hne => ?_, fun he => ?_⟩
   ·have w1 : hooksW hk lw hd rows s = [] := by unfold hooksW; rw [hE, if_neg hne]
    have w2 : looseW hk lw hd rows s = [] := by unfold looseW; rw [hE, if_neg hne]
    rw [w1, w2, hE]; simp
   ·rw [he] at hE
    have w1 : hooksW hk lw hd rows s = hooksI lw rows s := by unfold hooksW; rw [hE, if_pos rfl]
    have w2 : looseW hk lw hd rows s = looseI lw s := by unfold looseW; rw [hE, if_pos rfl]
    rw [he] at hx
    obtain ⟨g1, g2, g3⟩ := want_zero hx.symm
    have g3 : s.any (fun x => !inI x.1 0 119 || !inI x.2.1 0 (lw.length - 1)) = false := by
     cases h : s.any (fun x => !inI x.1 0 119 || !inI x.2.1 0 (lw.length - 1)) with
     | false => rfl
     | true => unfold hooksErr at hE; rw [if_neg (by simp [g1]), if_neg g2, if_pos h] at hE; cases hE
    obtain ⟨t1, t2, t3, t4, t5⟩ := tieErr_zero (weaveErr_tie g1)
    obtain ⟨v1, v2⟩ := weaveErr_zero g1
    obtain ⟨p1, p2, p3, p4, p5⟩ := pointErr_zero v1
    have hpw := pow_bound p1 p2
    have rn : ¬ rows = [] := fun h => p4 (by rw [h]; rfl)
    have sp : ∀ x ∈ s, 0 ≤ x.1 := fun x hx => by
     have := List.any_eq_false.1 g3 x hx
     simp only [Bool.or_eq_true, Bool.not_eq_true', inI, Bool.and_eq_false_iff, decide_eq_false_iff_not] at this
     omega
    have pq : ∀ x ∈ rows, 0 ≤ x ∧ x < 9223372036854775808 := fun x hx => by have := p5 x hx; omega
    rw [w1, w2, hE, hooksI_len, looseI_len]
    refine ⟨fun h => by simp at h, fun _ => ?_⟩
    refine LoopP.count lw.length (fun _ => True) trivial fun w hw _ q2 hq2 => ?_
    refine ⟨fun hwl => ?_, fun _ => trivial⟩
    have hwl : w < lw.length := by omega
    refine ⟨(w : Int), (0, 0), (by and_intros <;> first | rfl | trivial | simp), ?_⟩
    refine ⟨fun d => ∃ (k b : Nat), (k : Int) ≤ hk ∧ d.2 = k ∧ d.1 = b ∧ b < 2 ^ k ∧ ∀ j, b.testBit j = (decide (j < k) && (decide (idxF lw (fun x => x == (j : Int)) ≥ 0) && seesB rows s w j)), fun d => hk.toNat - d.2.toNat, ⟨0, 0, by omega, rfl, rfl, by simp, by simp⟩, ?_⟩
    rintro ⟨_, _⟩ ⟨k, b, hk', rfl, rfl, hb, hbit⟩
    dsimp only
    refine ⟨fun hlt => ?_, fun hge => ?_⟩
    ·have hsh : shlI .i64 1 (k : Int) = ((2 ^ k : Nat) : Int) := by
      rw [shl_one (by omega) (by omega), Int.toNat_natCast]; norm_cast
     have h2k : 2 ^ k ≤ 2 ^ 24 := Nat.pow_le_pow_right (by omega) (by omega)
     rw [hsh]
     have hp2 : 2 ^ (k + 1) = 2 ^ k + 2 ^ k := by rw [Nat.pow_succ]; omega
     generalize hz : 2 ^ k = z at *
     refine ⟨by omega, fun _ => ⟨rn, pq, by omega, by omega, by omega, by omega, by omega, sp⟩, fun hc => ?_, fun hc => ?_⟩
     ·refine ⟨by omega, by omega, by omega, by omega, by omega, (((b + z : Nat) : Int), (k : Int) + 1), (by and_intros <;> first | rfl | trivial | (dsimp only; omega)), ⟨k + 1, b + z, by omega, rfl, rfl, by omega, fun j => ?_⟩, by dsimp only; omega⟩
      rw [Nat.add_comm b z, ← hz]
      rcases Nat.lt_trichotomy j k with hj | hj | hj
      ·rw [Nat.testBit_two_pow_add_gt hj, hbit j]
       have : j < k + 1 := by omega
       simp [hj, this]
      ·subst hj
       rw [Nat.testBit_two_pow_add_eq, hbit j]
       simp only [ge_iff_le] at hc ⊢
       simp [hc]
      ·have h6 : ¬ j < k + 1 := by omega
       rw [decide_eq_false h6, Bool.false_and]
       apply Nat.testBit_lt_two_pow
       have : 2 ^ (k + 1) ≤ 2 ^ j := Nat.pow_le_pow_right (by omega) (by omega)
       omega
     ·refine ⟨by omega, ((b : Int), (k : Int) + 1), (by and_intros <;> first | rfl | trivial | simp), ⟨k + 1, b, by omega, rfl, rfl, by omega, fun j => ?_⟩, by dsimp only; omega⟩
      rw [hbit j]
      by_cases hj : j = k
      ·subst hj
       simp only [ge_iff_le] at hc ⊢
       simp [hc]
      ·have : (j < k + 1) = (j < k) := by apply propext; omega
       simp only [this]
    ·have hkk : (k : Int) = hk := by omega
     have hbk : hookN lw rows s w = b := by
      apply Nat.eq_of_testBit_eq
      intro j
      rw [hook_bit fun x hx => (t5 x hx).1, hbit j]
      by_cases hj : j < k
      ·rw [decide_eq_true hj, Bool.true_and]
      ·rw [decide_eq_false hj, Bool.false_and]
       have : decide (idxF lw (fun x => x == (j : Int)) ≥ 0) = false := by
        rw [idxF_nonneg, List.any_eq_false]
        intro x hx
        have := t5 x hx
        simp only [beq_iff_eq]; omega
       rw [this, Bool.false_and]
     have hgd : (hooksI lw rows s).getD w 0 = (b : Int) := by
      rw [getD_nat (by rw [hooksI_len]; exact hwl), ← hbk]; simp [hooksI]
     simp only [Int.toNat_natCast, hgd, loose_at (rows := rows) hwl]
     refine ⟨by omega, by omega, fun _ => by omega, fun _ => by omega, fun _ => ⟨rn, pq, by omega, by omega, by omega, by omega, by omega, sp⟩, fun h => by simp at h, fun _ => ⟨by omega, hq2 hwl trivial⟩⟩
end Go.Proofs.Tryz