/- A framework for walks, contracts of functions, and their proofs: part 3. -/
import Derived.Laws.Closers25b
import Derived.Test.YtoagdbabgiekgaaDoorQ2
namespace Go.V
open Go
section
variable {P : Program} {B : Heap} {pl : Nat → Value} {tb : Nat → Option Bool} {own : Own} {σ : Heap}
theorem solid_cell {s : SV} {v : Value} (h : s.solid = true) (hs : SR P B pl tb s v) : vcells v = some [v] ∧ cellOk v = true := by
  cases s with
  | any => cases h
  | grd gs s => cases h
  | agg l => cases h
  | tup l => cases h
  | val k x =>
    simp only [SR] at hs
    cases k with
    | i ik => simp only [KC] at hs; obtain rfl := (List.cons.inj hs).1; exact ⟨rfl, rfl⟩
    | bo => simp only [KC] at hs; obtain rfl := (List.cons.inj hs).1; exact ⟨rfl, rfl⟩
    | st => simp only [KC] at hs; obtain rfl := (List.cons.inj hs).1; exact ⟨rfl, rfl⟩
    | list k =>
      obtain ⟨v', e, hs⟩ := hs
      obtain rfl := (List.cons.inj e).1
      obtain ⟨a, c, rfl⟩ := hs.len
      exact ⟨rfl, rfl⟩
    | pair a b =>
      have h1 := KC.length hs
      have h2 := a.size_pos
      have h3 := b.size_pos
      simp only [Kind.size, List.length_singleton] at h1
      omega
  | bid n c => simp only [SR] at hs; obtain ⟨rfl, _⟩ := hs; exact ⟨rfl, rfl⟩
  | nilS => simp only [SR] at hs; subst hs; exact ⟨rfl, rfl⟩
  | nilP => simp only [SR] at hs; subst hs; exact ⟨rfl, rfl⟩
  | nilM => simp only [SR] at hs; subst hs; exact ⟨rfl, rfl⟩
  | nilF => simp only [SR] at hs; subst hs; exact ⟨rfl, rfl⟩
  | lst o => simp only [SR] at hs; obtain ⟨_, a, n, c, rfl⟩ := hs; exact ⟨rfl, rfl⟩
  | sub o lo n sz => simp only [SR] at hs; rcases hs with ⟨_, _, rfl, _⟩ | ⟨_, _, _, _, _, _, _, rfl⟩ <;> exact ⟨rfl, rfl⟩
  | elp o i off sz => simp only [SR] at hs; obtain ⟨_, _, _, _, _, _, rfl⟩ := hs; exact ⟨rfl, rfl⟩
  | rop k l i off => simp only [SR] at hs; obtain ⟨_, _, _, _, _, _, _, _, _, rfl, _⟩ := hs; exact ⟨rfl, rfl⟩
  | box o off => simp only [SR] at hs; obtain ⟨_, _, rfl⟩ := hs; exact ⟨rfl, rfl⟩
  | cp l off => simp only [SR] at hs; obtain ⟨_, _, _, _, _, _, rfl, _⟩ := hs; exact ⟨rfl, rfl⟩
  | map o => simp only [SR] at hs; obtain ⟨_, m, rfl⟩ := hs; exact ⟨rfl, rfl⟩
  | fn f a b => simp only [SR] at hs; obtain ⟨_, _, rfl, _⟩ := hs; exact ⟨rfl, rfl⟩
  | pf ks r dom p => simp only [SR] at hs; obtain ⟨_, _, _, rfl, _⟩ := hs; exact ⟨rfl, rfl⟩
theorem solids_cells : ∀ {l : List SV} {c : List Value}, l.all SV.solid = true → SRs P B pl tb l c → c.all cellOk = true
  | [], c, _, h => by simp only [SRs] at h; subst h; rfl
  | s :: ss, c, hl, h => by
    simp only [SRs] at h
    obtain ⟨x, y, rfl, h1, h2⟩ := h
    simp only [List.all_cons, Bool.and_eq_true] at hl ⊢
    exact ⟨(solid_cell hl.1 h1).2, solids_cells hl.2 h2⟩
theorem scells_sound {s : SV} {v : Value} {l : List SV} (h : scells s = some l) (hs : SR P B pl tb s v) : ∃ c, vcells v = some c ∧ SRs P B pl tb l c ∧ c.all cellOk = true := by
  have key : s.solid = true → some [s] = some l → ∃ c, vcells v = some c ∧ SRs P B pl tb l c ∧ c.all cellOk = true := fun hsol e => by
    obtain rfl := Option.some.inj e
    obtain ⟨h1, h2⟩ := solid_cell hsol hs
    exact ⟨[v], h1, by simp only [SRs]; exact ⟨v, [], rfl, hs, rfl⟩, by simp [h2]⟩
  cases s with
  | any => cases h
  | grd gs s => cases h
  | tup l => cases h
  | agg l' =>
    simp only [scells] at h
    cases hl : l'.all SV.solid with
    | false => rw [hl] at h; cases h
    | true =>
      rw [hl] at h
      obtain rfl := Option.some.inj h
      simp only [SR] at hs
      obtain ⟨cs, rfl, hs⟩ := hs
      exact ⟨cs, rfl, hs, solids_cells hl hs⟩
  | _ => exact key rfl h
theorem setS_sound : ∀ {vs : List SV} {us : List Value} {c : List SV} {cV : List Value} {o : Nat}, SRs P B pl tb c cV → SRs P B pl tb vs us → SRs P B pl tb (gfill.setS c o vs) (setL cV o us)
  | [], us, c, cV, o, h, h' => by simp only [SRs] at h'; subst h'; exact h
  | v :: vs, us, c, cV, o, h, h' => by
    simp only [SRs] at h'
    obtain ⟨x, y, rfl, h1, h2⟩ := h'
    simp only [gfill.setS, setL]
    exact setS_sound (h.set o h1) h2
theorem gfill_sound : ∀ {ps : List (Nat × Nat × Operand)} {c l : List SV} {cV : List Value} {ev : Operand → SV} {evV : Operand → Value}, (∀ x, SR P B pl tb (ev x) (evV x)) → SRs P B pl tb c cV → gfill c (ps.map fun p => (p.1, p.2.1, ev p.2.2)) = some l →
    ∃ lV, fillL cV (ps.map fun p => (p.1, p.2.1, evV p.2.2)) = some lV ∧ SRs P B pl tb l lV
  | [], c, l, cV, ev, evV, hev, h, hg => by obtain rfl := Option.some.inj hg; exact ⟨cV, rfl, h⟩
  | p :: ps, c, l, cV, ev, evV, hev, h, hg => by
    simp only [List.map_cons, gfill] at hg
    split at hg
    · rename_i vs hs
      split at hg
      · rename_i hcond
        obtain ⟨us, h1, h2, _⟩ := scells_sound hs (hev p.2.2)
        obtain ⟨lV, h3, h4⟩ := gfill_sound hev (setS_sound h h2) hg
        refine ⟨lV, ?_, h4⟩
        simp only [List.map_cons, fillL, h1]
        rw [if_pos ⟨by rw [← h2.length]; exact hcond.1, by rw [← h.length]; exact hcond.2⟩]
        exact h3
      · cases hg
    · cases hg
theorem zeroOk_sound {h : Heap} : ∀ {k : Kind} {z : List Value}, zeroOk k z = true → KC h k k.dflt z
  | .i ik, z, e => by
    unfold zeroOk at e
    split at e <;> simp_all [KC, Kind.dflt]
  | .bo, z, e => by
    unfold zeroOk at e
    split at e <;> simp_all [KC, Kind.dflt]
  | .st, z, e => by
    unfold zeroOk at e
    split at e <;> simp_all [KC, Kind.dflt]
    rename_i s
    cases s; simp_all
  | .list k, z, e => by
    unfold zeroOk at e
    split at e <;> simp_all [KC, Kind.dflt]
    exact .inl ⟨rfl, rfl⟩
  | .pair a b, z, e => by
    simp only [zeroOk, Bool.and_eq_true] at e
    exact ⟨_, _, (List.take_append_drop a.size z).symm, zeroOk_sound e.1, zeroOk_sound e.2⟩
theorem mkOk_key {h : Heap} {mk : MK} {kk : Kind} (hk : gq.mkOk mk kk = true) {x : kk.T} {v : Value} (e : KC h kk x [v]) : keyOk mk v = true := by
  unfold gq.mkOk at hk
  split at hk
  · simp only [KC] at e; obtain rfl := (List.cons.inj e).1; simpa [keyOk] using of_decide_eq_true hk
  · simp only [KC] at e; obtain rfl := (List.cons.inj e).1; rfl
  · simp only [KC] at e; obtain rfl := (List.cons.inj e).1; rfl
  · cases hk
theorem keq_sound {h : Heap} {mk : MK} {kk : Kind} (hk : gq.mkOk mk kk = true) {x y : kk.T} {u v : Value} (e : KC h kk x [u]) (e' : KC h kk y [v]) : keyEq u v = gq.keq kk x y := by
  unfold gq.mkOk at hk
  split at hk
  · simp only [KC] at e e'; obtain rfl := (List.cons.inj e).1; obtain rfl := (List.cons.inj e').1; rfl
  · simp only [KC] at e e'; obtain rfl := (List.cons.inj e).1; obtain rfl := (List.cons.inj e').1; simp [keyEq, gq.keq]
  · simp only [KC] at e e'; obtain rfl := (List.cons.inj e).1; obtain rfl := (List.cons.inj e').1; rfl
  · cases hk
theorem MR.keys {mk : MK} {kk vk : Kind} (hk : gq.mkOk mk kk = true) : ∀ {m : List (kk.T × vk.T)} {es : List MEnt}, MR B kk vk m es → es.all (fun e => keyOk mk e.1) = true
  | [], es, h => by simp only [MR] at h; subst h; rfl
  | m :: ms, es, h => by
    obtain ⟨e, es', rfl, h2, h3, h4⟩ := h
    simp only [List.all_cons, Bool.and_eq_true]
    exact ⟨mkOk_key hk h2, MR.keys hk h4⟩
theorem MR.length {kk vk : Kind} : ∀ {m : List (kk.T × vk.T)} {es : List MEnt}, MR B kk vk m es → es.length = m.length
  | [], es, h => by simp only [MR] at h; subst h; rfl
  | m :: ms, es, h => by
    obtain ⟨e, es', rfl, h2, h3, h4⟩ := h
    simp [MR.length h4]
theorem MR.find {mk : MK} {kk vk : Kind} (hk : gq.mkOk mk kk = true) {key : kk.T} {kv : Value} (hkey : KC B kk key [kv]) {d : vk.T} {z : Value} (hz : KC B vk d [z]) : ∀ {m : List (kk.T × vk.T)} {es : List MEnt}, MR B kk vk m es →
    (∃ e, mapFind kv es = some e ∧ gq.ahas kk m key = true ∧ KC B vk (gq.aget kk m key d) [e.2.1]) ∨ (mapFind kv es = none ∧ gq.ahas kk m key = false ∧ gq.aget kk m key d = d)
  | [], es, h => by simp only [MR] at h; subst h; exact .inr ⟨rfl, rfl, rfl⟩
  | m :: ms, es, h => by
    obtain ⟨e, es', rfl, h2, h3, h4⟩ := h
    have hq := keq_sound hk hkey h2
    cases hc : gq.keq kk key m.1 with
    | true =>
      refine .inl ⟨e, by simp [mapFind, hq, hc], by simp [gq.ahas, hc], by simpa [gq.aget, hc] using h3⟩
    | false =>
      rcases MR.find hk hkey hz h4 with ⟨e', k1, k2, k3⟩ | ⟨k1, k2, k3⟩
      · exact .inl ⟨e', by simp [mapFind, hq, hc, k1], by simp [gq.ahas, hc, k2], by simpa [gq.aget, hc] using k3⟩
      · exact .inr ⟨by simp [mapFind, hq, hc, k1], by simp [gq.ahas, hc, k2], by simpa [gq.aget, hc] using k3⟩
theorem SRs.one {v : SV} {c : List Value} (h : SRs P B pl tb [v] c) : ∃ u, c = [u] ∧ SR P B pl tb v u := by
  simp only [SRs] at h
  obtain ⟨u, us, rfl, h1, rfl⟩ := h
  exact ⟨u, rfl, h1⟩
theorem deck_sound : ∀ {k : Kind} {l : List SV} {x : k.T} {c : List Value}, deck k l = some x → SRs P B pl tb l c → KC B k x c
  | .i ik, [], x, c, h, hs | .bo, [], x, c, h, hs | .st, [], x, c, h, hs | .list _, [], x, c, h, hs => by cases h
  | .i ik, _ :: _ :: _, x, c, h, hs | .bo, _ :: _ :: _, x, c, h, hs | .st, _ :: _ :: _, x, c, h, hs | .list _, _ :: _ :: _, x, c, h, hs => by cases h
  | .i ik, [v], x, c, h, hs => by
    obtain ⟨u, rfl, h1⟩ := hs.one
    simp only [deck] at h
    split at h
    · rename_i ik' y
      split at h
      · rename_i e
        obtain rfl := Option.some.inj h
        subst e
        simp only [SR] at h1
        exact h1
      · cases h
    · cases h
  | .bo, [v], x, c, h, hs => by
    obtain ⟨u, rfl, h1⟩ := hs.one
    rw [asB_inv h h1]; rfl
  | .st, [v], x, c, h, hs => by
    obtain ⟨u, rfl, h1⟩ := hs.one
    rw [asS_inv h h1]; rfl
  | .list k, [v], x, c, h, hs => by
    obtain ⟨u, rfl, h1⟩ := hs.one
    simp only [deck] at h
    split at h
    · obtain rfl := Option.some.inj h
      simp only [SR] at h1
      subst h1
      exact ⟨_, rfl, .inl ⟨rfl, rfl⟩⟩
    · rename_i k' l'
      obtain rfl := castL_kind h
      obtain rfl := castL_same h
      simp only [SR] at h1
      exact h1
    · cases h
  | .pair a b, l, x, c, h, hs => by
    simp only [deck] at h
    split at h
    · rename_i y z h1 h2
      obtain rfl := Option.some.inj h
      exact ⟨c.take a.size, c.drop a.size, (List.take_append_drop _ _).symm, deck_sound h1 (hs.take _), deck_sound h2 (hs.drop _)⟩
    · cases h
end
end Go.V

namespace Go.V
open Go
theorem InK.wrap {k : IntKind} {x : Int} (h : InK k x) : k.wrap x = x := by
  obtain ⟨h1, h2⟩ := h
  cases k <;> simp [IntKind.wrap, IntKind.bits, IntKind.signed, IntKind.min, IntKind.max] at h1 h2 ⊢ <;> (try split) <;> omega
section
variable {P : Program} {B : Heap} {pl : Nat → Value} {tb : Nat → Option Bool} {own : Own} {σ : Heap}
def QOk (P : Program) (B : Heap) (pl : Nat → Value) (tb : Nat → Option Bool) (σ : Heap) (o : VOp) (evV : Operand → Value) (v : SV) : Prop := ∃ u, vact o evV σ = some (u, σ) ∧ SR P B pl tb v u
theorem sr_int (k : IntKind) (x : Int) : SR P B pl tb (.val (.i k) x) (.int k x) := by simp [SR, KC]
theorem sr_bool (x : Bool) : SR P B pl tb (.val .bo x) (.bool x) := by simp [SR, KC]
theorem sr_str (x : List UInt8) : SR P B pl tb (.val .st x) (.string ⟨x.toArray⟩) := by simp [SR, KC]
theorem pinj {α β : Type _} {a c : α} {b d : β} (h : some (a, b) = some (c, d)) : a = c ∧ b = d := by cases h; exact ⟨rfl, rfl⟩
theorem bind2_some {α β γ : Type} {a : Option α} {b : Option β} {f : α → β → Option γ} {c : γ} (h : (match a, b with | some x, some y => f x y | _, _ => none) = some c) : ∃ x y, a = some x ∧ b = some y ∧ f x y = some c := by
  cases a <;> cases b <;> first | (cases h; done) | exact ⟨_, _, rfl, rfl, h⟩
section
variable {kt : List (Nat × Kind)} {raw : Bool} {ev : Operand → SV} {evV : Operand → Value} {cs : List Prop} {v : SV}
theorem q_int2 (hev : ∀ x, SR P B pl tb (ev x) (evV x)) {x y : Operand} {k k' : IntKind} {a b : Int} (h1 : asI (ev x) = some (k, a)) (h2 : asI (ev y) = some (k', b)) : evV x = .int k a ∧ evV y = .int k' b := ⟨asI_inv h1 (hev x), asI_inv h2 (hev y)⟩
theorem q_arith (hev : ∀ x, SR P B pl tb (ev x) (evV x)) {op : BinOp} {x y : Operand} (h : gq kt raw (.arith op x y) ev own = some (cs, v)) (hc : ∀ c ∈ cs, c) : QOk P B pl tb σ (.arith op x y) evV v := by
  simp only [gq] at h
  split at h
  · rename_i k a k' b h1 h2
    obtain ⟨e1, e2⟩ := q_int2 hev h1 h2
    split at h
    · rename_i hk
      subst hk
      cases raw with
      | true =>
        obtain ⟨rfl, rfl⟩ := pinj h
        refine ⟨_, by simp only [vact, e1, e2, if_true] <;> rfl, ?_⟩
        have : varith op k a b = k.wrap (arithI op a b) := by cases op <;> rfl
        rw [this]; exact sr_int _ _
      | false =>
        obtain ⟨rfl, rfl⟩ := pinj h
        refine ⟨_, by simp only [vact, e1, e2, if_true] <;> rfl, ?_⟩
        have : varith op k a b = arithI op a b := by
          have hw : InK k (arithI op a b) := hc _ (by simp)
          have e : varith op k a b = k.wrap (arithI op a b) := by cases op <;> rfl
          rw [e, hw.wrap]
        rw [this]; exact sr_int _ _
    · cases h
  · cases h
theorem q_div (hev : ∀ x, SR P B pl tb (ev x) (evV x)) {op : BinOp} {x y : Operand} (h : gq kt raw (.div op x y) ev own = some (cs, v)) (hc : ∀ c ∈ cs, c) : QOk P B pl tb σ (.div op x y) evV v := by
  simp only [gq] at h
  split at h
  · rename_i k a k' b h1 h2
    obtain ⟨e1, e2⟩ := q_int2 hev h1 h2
    split at h
    · rename_i hk
      subst hk
      split at h
      · obtain ⟨rfl, rfl⟩ := pinj h
        have hb : b ≠ 0 := hc _ (by simp)
        have hw : InK k (a.tdiv b) := hc _ (by simp)
        refine ⟨_, by simp only [vact, e1, e2, hb, ne_eq, not_false_iff, and_self, if_true] <;> rfl, ?_⟩
        simp only [vdiv, hw.wrap]; exact sr_int _ _
      · obtain ⟨rfl, rfl⟩ := pinj h
        have hb : b ≠ 0 := hc _ (by simp)
        refine ⟨_, by simp only [vact, e1, e2, hb, ne_eq, not_false_iff, and_self, if_true] <;> rfl, ?_⟩
        rename_i hop
        have : vdiv op k a b = a.tmod b := by unfold vdiv; split <;> simp_all
        rw [this]; exact sr_int _ _
    · cases h
  · cases h
theorem q_bits (hev : ∀ x, SR P B pl tb (ev x) (evV x)) {op : BinOp} {x y : Operand} (h : gq kt raw (.bits op x y) ev own = some (cs, v)) : QOk P B pl tb σ (.bits op x y) evV v := by
  simp only [gq] at h
  split at h
  · rename_i k a k' b h1 h2
    obtain ⟨e1, e2⟩ := q_int2 hev h1 h2
    split at h
    · rename_i hk
      subst hk
      obtain ⟨rfl, rfl⟩ := pinj h
      exact ⟨_, by simp only [vact, e1, e2, if_true] <;> rfl, sr_int _ _⟩
    · cases h
  · cases h
theorem q_shift (hev : ∀ x, SR P B pl tb (ev x) (evV x)) {op : BinOp} {x y : Operand} (h : gq kt raw (.shift op x y) ev own = some (cs, v)) (hc : ∀ c ∈ cs, c) : QOk P B pl tb σ (.shift op x y) evV v := by
  simp only [gq] at h
  split at h
  · rename_i k a k' b h1 h2
    obtain ⟨e1, e2⟩ := q_int2 hev h1 h2
    split at h
    · cases raw with
      | true =>
        obtain ⟨rfl, rfl⟩ := pinj h
        have hb : 0 ≤ b := hc _ (by simp)
        exact ⟨_, by simp only [vact, e1, e2, hb, if_true] <;> rfl, sr_int _ _⟩
      | false =>
        obtain ⟨rfl, rfl⟩ := pinj h
        have hb : 0 ≤ b := hc _ (by simp)
        have hw : InK k (shlI k a b) := hc _ (by simp)
        refine ⟨_, by simp only [vact, e1, e2, hb, if_true] <;> rfl, ?_⟩
        have : vshift .shl k a b = k.wrap (shlI k a b) := rfl
        rw [this, hw.wrap]; exact sr_int _ _
    · obtain ⟨rfl, rfl⟩ := pinj h
      have hb : 0 ≤ b := hc _ (by simp)
      refine ⟨_, by simp only [vact, e1, e2, hb, if_true] <;> rfl, ?_⟩
      have : vshift op k a b = shrI k a b := by unfold vshift; split <;> simp_all [shrI]
      rw [this]; exact sr_int _ _
  · cases h
theorem q_cmp (hev : ∀ x, SR P B pl tb (ev x) (evV x)) {op : BinOp} {x y : Operand} (h : gq kt raw (.cmp op x y) ev own = some (cs, v)) : QOk P B pl tb σ (.cmp op x y) evV v := by
  simp only [gq] at h
  split at h
  · rename_i k a k' b h1 h2
    obtain ⟨e1, e2⟩ := q_int2 hev h1 h2
    split at h
    · rename_i hk
      subst hk
      obtain ⟨rfl, rfl⟩ := pinj h
      exact ⟨_, by simp only [vact, e1, e2, if_true] <;> rfl, sr_bool _⟩
    · cases h
  · cases h
theorem q_str (hev : ∀ x, SR P B pl tb (ev x) (evV x)) {op : BinOp} {x y : Operand} (h : gq kt raw (.str op x y) ev own = some (cs, v)) (hc : ∀ c ∈ cs, c) : QOk P B pl tb σ (.str op x y) evV v := by
  simp only [gq] at h
  split at h
  · rename_i a b h1 h2
    have e1 := asS_inv h1 (hev x)
    have e2 := asS_inv h2 (hev y)
    split at h
    · obtain ⟨rfl, rfl⟩ := pinj h
      have hw : a.length + b.length ≤ 4611686018427387904 := hc _ (by simp)
      refine ⟨.string (⟨a.toArray⟩ ++ ⟨b.toArray⟩), by simp only [vact, e1, e2]; rw [if_pos (by simpa [ByteArray.size] using hw)], ?_⟩
      have : (⟨a.toArray⟩ : ByteArray) ++ ⟨b.toArray⟩ = ⟨(a ++ b).toArray⟩ := by
        apply ByteArray.ext; simp
      rw [this]; exact sr_str _
    · obtain ⟨rfl, rfl⟩ := pinj h
      exact ⟨_, by simp only [vact, e1, e2] <;> rfl, sr_bool _⟩
    · obtain ⟨rfl, rfl⟩ := pinj h
      exact ⟨_, by simp only [vact, e1, e2] <;> rfl, sr_bool _⟩
    · obtain ⟨rfl, rfl⟩ := pinj h
      exact ⟨_, by simp only [vact, e1, e2] <;> rfl, sr_bool _⟩
    · cases h
  · cases h
theorem q_eqB (hev : ∀ x, SR P B pl tb (ev x) (evV x)) {neg : Bool} {x y : Operand} (h : gq kt raw (.eqB neg x y) ev own = some (cs, v)) : QOk P B pl tb σ (.eqB neg x y) evV v := by
  simp only [gq] at h
  split at h
  · rename_i a b h1 h2
    have e1 := asB_inv h1 (hev x)
    have e2 := asB_inv h2 (hev y)
    obtain ⟨rfl, rfl⟩ := pinj h
    exact ⟨_, by simp only [vact, e1, e2] <;> rfl, sr_bool _⟩
  · cases h
theorem q_un (hev : ∀ x, SR P B pl tb (ev x) (evV x)) {op : UnOp} {x : Operand} (h : gq kt raw (.un op x) ev own = some (cs, v)) (hc : ∀ c ∈ cs, c) : QOk P B pl tb σ (.un op x) evV v := by
  simp only [gq] at h
  split at h
  · split at h
    · rename_i b h1
      obtain ⟨rfl, rfl⟩ := pinj h
      exact ⟨_, by simp only [vact, asB_inv h1 (hev x)] <;> rfl, sr_bool _⟩
    · cases h
  · split at h
    · rename_i k n h1
      obtain ⟨rfl, rfl⟩ := pinj h
      have hw : InK k (0 - n) := hc _ (by simp)
      refine ⟨_, by simp only [vact, asI_inv h1 (hev x)] <;> rfl, ?_⟩
      rw [hw.wrap]; exact sr_int _ _
    · cases h
  · split at h
    · rename_i k n h1
      obtain ⟨rfl, rfl⟩ := pinj h
      exact ⟨_, by simp only [vact, asI_inv h1 (hev x)] <;> rfl, sr_int _ _⟩
    · cases h
  · cases h
theorem q_convI (hev : ∀ x, SR P B pl tb (ev x) (evV x)) {k : IntKind} {x : Operand} (h : gq kt raw (.convI k x) ev own = some (cs, v)) (hc : ∀ c ∈ cs, c) : QOk P B pl tb σ (.convI k x) evV v := by
  simp only [gq] at h
  split at h
  · rename_i k' n h1
    cases raw with
    | true =>
      obtain ⟨rfl, rfl⟩ := pinj h
      exact ⟨_, by simp only [vact, asI_inv h1 (hev x)] <;> rfl, sr_int _ _⟩
    | false =>
      obtain ⟨rfl, rfl⟩ := pinj h
      have hw : InK k n := hc _ (by simp)
      refine ⟨_, by simp only [vact, asI_inv h1 (hev x)] <;> rfl, ?_⟩
      rw [hw.wrap]; exact sr_int _ _
  · cases h
theorem q_convS (hev : ∀ x, SR P B pl tb (ev x) (evV x)) {x : Operand} (h : gq kt raw (.convS x) ev own = some (cs, v)) : QOk P B pl tb σ (.convS x) evV v := by
  simp only [gq] at h
  split at h
  · rename_i s h1
    obtain ⟨rfl, rfl⟩ := pinj h
    exact ⟨_, by simp only [vact, asS_inv h1 (hev x)] <;> rfl, sr_str _⟩
  · cases h
theorem q_build (hev : ∀ x, SR P B pl tb (ev x) (evV x)) {z : List Value} {ps : List (Nat × Nat × Operand)} (h : gq kt raw (.build z ps) ev own = some (cs, v)) : QOk P B pl tb σ (.build z ps) evV v := by
  simp only [gq] at h
  split at h
  · rename_i l h1
    obtain ⟨rfl, rfl⟩ := pinj h
    have hz : SRs P B pl tb (z.map cvp) (z.map id) := SRs.map fun x _ => cvp_sound x
    rw [List.map_id] at hz
    obtain ⟨lV, h2, h3⟩ := gfill_sound hev hz h1
    refine ⟨.agg lV.toArray, by simp only [vact, h2], ?_⟩
    simp only [SR]; exact ⟨lV, rfl, h3⟩
  · cases h
theorem q_load (hev : ∀ x, SR P B pl tb (ev x) (evV x)) (hle : B.Le σ) (hobj : ∀ d, OR P B pl tb σ (pl d) (oget own d)) {agg : Bool} {size : Nat} {a : Operand} (h : gq kt raw (.load agg size a) ev own = some (cs, v)) : QOk P B pl tb σ (.load agg size a) evV v := by
  simp only [gq] at h
  cases hb : Nat.blt 0 size with
  | false => rw [hb] at h; cases h
  | true =>
    rw [hb] at h
    simp only [_root_.cond_true, Option.map_eq_some_iff] at h
    obtain ⟨v', h1, h2⟩ := h
    obtain ⟨rfl, rfl⟩ := (by simpa only [Prod.mk.injEq] using h2 : _ = cs ∧ _ = v)
    have hs : 0 < size := by simpa [Nat.blt_eq] using hb
    obtain ⟨i, o, c, e, wr, t, u, h3, h4, h5, h6⟩ := gload_sound hle hobj hs h1 (hev a)
    exact ⟨u, by simp only [vact, h3, h4, h5], h6⟩
theorem q_fieldAddr (hev : ∀ x, SR P B pl tb (ev x) (evV x)) {off : Nat} {a : Operand} (h : gq kt raw (.fieldAddr off a) ev own = some (cs, v)) : QOk P B pl tb σ (.fieldAddr off a) evV v := by
  have ha := hev a
  simp only [gq] at h
  split at h
  · rename_i o f heq
    obtain ⟨rfl, rfl⟩ := pinj h
    rw [heq] at ha
    simp only [SR] at ha
    obtain ⟨b, h1, h2⟩ := ha
    refine ⟨_, by simp only [vact, h2] <;> rfl, ?_⟩
    simp only [SR]; exact ⟨b, h1, rfl⟩
  · rename_i l f heq
    obtain ⟨rfl, rfl⟩ := pinj h
    rw [heq] at ha
    simp only [SR] at ha
    obtain ⟨b, c, e, wr, t, h1, h2, h3⟩ := ha
    refine ⟨_, by simp only [vact, h2] <;> rfl, ?_⟩
    simp only [SR]; exact ⟨b, c, e, wr, t, h1, rfl, h3⟩
  · rename_i o i f sz heq
    obtain ⟨rfl, rfl⟩ := pinj h
    rw [heq] at ha
    simp only [SR] at ha
    obtain ⟨b, len, cap, h1, h2, h3, h4⟩ := ha
    refine ⟨_, by simp only [vact, h4] <;> rfl, ?_⟩
    simp only [SR]; exact ⟨b, len, cap, h1, h2, h3, by rw [Nat.add_assoc]⟩
  · rename_i k l i f heq
    obtain ⟨rfl, rfl⟩ := pinj h
    rw [heq] at ha
    simp only [SR] at ha
    obtain ⟨b, o, c, e, wr, t, h1, h2, h3, h4, h5, h6⟩ := ha
    refine ⟨_, by simp only [vact, h4] <;> rfl, ?_⟩
    simp only [SR]; exact ⟨b, o, c, e, wr, t, h1, h2, h3, by rw [Nat.add_assoc], h5, h6⟩
  · cases h
theorem q_field (hev : ∀ x, SR P B pl tb (ev x) (evV x)) {agg : Bool} {off size : Nat} {x : Operand} (h : gq kt raw (.field agg off size x) ev own = some (cs, v)) : QOk P B pl tb σ (.field agg off size x) evV v := by
  have ha := hev x
  simp only [gq] at h
  split at h
  · rename_i l heq
    rw [heq] at ha
    simp only [SR] at ha
    obtain ⟨c, h1, h2⟩ := ha
    simp only [Option.map_eq_some_iff] at h
    obtain ⟨v', h3, h4⟩ := h
    obtain ⟨rfl, rfl⟩ := (by simpa only [Prod.mk.injEq] using h4 : _ = cs ∧ _ = v)
    obtain ⟨u, h5, h6⟩ := gpart_sound h2 h3
    exact ⟨u, by simp only [vact, h1, h5], h6⟩
  · cases h
theorem q_extract (hev : ∀ x, SR P B pl tb (ev x) (evV x)) {x : Operand} {i : Nat} (h : gq kt raw (.extract x i) ev own = some (cs, v)) : QOk P B pl tb σ (.extract x i) evV v := by
  have ha := hev x
  simp only [gq] at h
  split at h
  · rename_i l heq
    rw [heq] at ha
    simp only [SR] at ha
    obtain ⟨c, h1, h2⟩ := ha
    simp only [Option.map_eq_some_iff] at h
    obtain ⟨v', h3, h4⟩ := h
    obtain ⟨rfl, rfl⟩ := (by simpa only [Prod.mk.injEq] using h4 : _ = cs ∧ _ = v)
    obtain ⟨u, h5, h6⟩ := h2.get h3
    exact ⟨u, by simp only [vact, h1, h5], h6⟩
  · cases h
theorem q_nilCheck (hev : ∀ x, SR P B pl tb (ev x) (evV x)) {x : Operand} (h : gq kt raw (.nilCheck x) ev own = some (cs, v)) : QOk P B pl tb σ (.nilCheck x) evV v := by
  have ha := hev x
  simp only [gq] at h
  split at h
  · rename_i o f heq
    obtain ⟨rfl, rfl⟩ := pinj h
    rw [heq] at ha
    have hb := ha
    simp only [SR] at ha
    obtain ⟨b, h1, h2⟩ := ha
    exact ⟨_, by simp only [vact, h2] <;> rfl, by rw [← h2]; exact hb⟩
  · rename_i l f heq
    obtain ⟨rfl, rfl⟩ := pinj h
    rw [heq] at ha
    have hb := ha
    simp only [SR] at ha
    obtain ⟨b, c, e, wr, t, h1, h2, h3⟩ := ha
    exact ⟨_, by simp only [vact, h2] <;> rfl, by rw [← h2]; exact hb⟩
  · rename_i f a b heq
    obtain ⟨rfl, rfl⟩ := pinj h
    rw [heq] at ha
    have hb := ha
    simp only [SR] at ha
    obtain ⟨x1, y1, h1, h2, h3⟩ := ha
    exact ⟨_, by simp only [vact, h1] <;> rfl, by rw [← h1]; exact hb⟩
  · cases h
theorem q_indexStr (hev : ∀ x, SR P B pl tb (ev x) (evV x)) {x i : Operand} (h : gq kt raw (.indexStr x i) ev own = some (cs, v)) (hc : ∀ c ∈ cs, c) : QOk P B pl tb σ (.indexStr x i) evV v := by
  simp only [gq] at h
  split at h
  · rename_i s k j h1 h2
    have e1 := asS_inv h1 (hev x)
    have e2 := asI_inv h2 (hev i)
    obtain ⟨rfl, rfl⟩ := pinj h
    have k1 : 0 ≤ j := hc _ (by simp)
    have k2 : j < s.length := hc _ (by simp)
    have k3 : j.toNat < s.length := by omega
    refine ⟨.int .u8 (s[j.toNat].toNat : Int), by simp only [vact, e1, e2, k1, if_true]; simp [k3], ?_⟩
    have : s.getD j.toNat 0 = s[j.toNat] := by simp [List.getD_eq_getElem?_getD, k3]
    rw [this]; exact sr_int _ _
  · cases h
theorem q_indexArr (hev : ∀ x, SR P B pl tb (ev x) (evV x)) (hcst : ∀ c, evV (.const c) = c) {len size : Nat} {agg : Bool} {x i : Operand} (h : gq kt raw (.indexArr len agg size x i) ev own = some (cs, v)) : QOk P B pl tb σ (.indexArr len agg size x i) evV v := by
  have ha := hev x
  simp only [gq] at h
  split at h
  · rename_i l k j heq
    split at h
    · rename_i hj
      rw [heq] at ha
      simp only [SR] at ha
      obtain ⟨c, h1, h2⟩ := ha
      simp only [Option.map_eq_some_iff] at h
      obtain ⟨v', h3, h4⟩ := h
      obtain ⟨rfl, rfl⟩ := (by simpa only [Prod.mk.injEq] using h4 : _ = cs ∧ _ = v)
      obtain ⟨u, h5, h6⟩ := gpart_sound h2 h3
      refine ⟨u, ?_, h6⟩
      simp only [vact, h1, hcst]
      rw [if_pos ⟨by simp, by simpa using hj⟩]
      simp [h5]
    · cases h
  · cases h
theorem q_indexAddrArr (hev : ∀ x, SR P B pl tb (ev x) (evV x)) (hcst : ∀ c, evV (.const c) = c) {len size : Nat} {x i : Operand} (h : gq kt raw (.indexAddrArr len size x i) ev own = some (cs, v)) : QOk P B pl tb σ (.indexAddrArr len size x i) evV v := by
  have ha := hev x
  simp only [gq] at h
  split at h
  · rename_i o f k j heq
    split at h
    · rename_i hj
      obtain ⟨rfl, rfl⟩ := pinj h
      rw [heq] at ha
      simp only [SR] at ha
      obtain ⟨b, h1, h2⟩ := ha
      refine ⟨.pointer (some ⟨b, f + j * size, none⟩), ?_, ?_⟩
      · simp only [vact, h2, hcst]
        rw [if_pos ⟨by simp, by simpa using hj⟩]; simp
      · simp only [SR]; exact ⟨b, h1, rfl⟩
    · cases h
  · rename_i l f k j heq
    split at h
    · rename_i hj
      obtain ⟨rfl, rfl⟩ := pinj h
      rw [heq] at ha
      simp only [SR] at ha
      obtain ⟨b, c, e, wr, t, h1, h2, h3⟩ := ha
      refine ⟨.pointer (some ⟨b, f + j * size, none⟩), ?_, ?_⟩
      · simp only [vact, h2, hcst]
        rw [if_pos ⟨by simp, by simpa using hj⟩]; simp
      · simp only [SR]; exact ⟨b, c, e, wr, t, h1, rfl, h3⟩
    · cases h
  · cases h
theorem q_indexAddr (hev : ∀ x, SR P B pl tb (ev x) (evV x)) (_hle : B.Le σ) (hobj : ∀ d, OR P B pl tb σ (pl d) (oget own d)) {size : Nat} {x i : Operand} (h : gq kt raw (.indexAddr size x i) ev own = some (cs, v)) (hc : ∀ c ∈ cs, c) : QOk P B pl tb σ (.indexAddr size x i) evV v := by
  have ha := hev x
  simp only [gq] at h
  split at h
  · rename_i o k' j heq hj
    have ej := asI_inv hj (hev i)
    split at h
    · rename_i ty k xs nl ho
      split at h
      · rename_i hsz
        obtain ⟨rfl, rfl⟩ := pinj h
        have h0 : 0 ≤ j := hc _ (by simp)
        have h1 : j < xs.length := hc _ (by simp)
        rw [heq] at ha
        simp only [SR] at ha
        have hob := hobj o
        rw [ho] at hob
        rcases hob with ⟨_, rfl, _⟩ | ⟨_, b, cap, c, t, h2, h3, h4, h5, h6⟩
        · simp at h1; omega
        · refine ⟨.pointer (some ⟨b, 0 + j.toNat * size, none⟩), ?_, ?_⟩
          · simp only [vact, ha.1, h2, ej]
            rw [if_pos ⟨h0, h1⟩]
          · simp only [SR]; exact ⟨b, _, cap, h2, h0, h1, by simp⟩
      · cases h
    · cases h
  · rename_i o lo n sz k' j heq hj
    have ej := asI_inv hj (hev i)
    split at h
    · rename_i ty k xs nl ho
      split at h
      · rename_i hsz
        obtain ⟨hsz, rfl⟩ := hsz
        obtain ⟨rfl, rfl⟩ := pinj h
        have h0 : 0 ≤ j := hc _ (by simp)
        have h1 : j < n := hc _ (by simp)
        rw [heq] at ha
        simp only [SR] at ha
        rcases ha with ⟨rfl, rfl, _, _⟩ | ⟨b, len, cap, cap', h2, h3, h4, h5⟩
        · simp at h1; omega
        · refine ⟨.pointer (some ⟨b, lo * sz + j.toNat * sz, none⟩), ?_, ?_⟩
          · simp only [vact, h5, ej]
            rw [if_pos ⟨h0, h1⟩]
          · simp only [SR]
            refine ⟨b, len, cap, h2, by omega, by omega, ?_⟩
            have : ((lo : Int) + j).toNat = lo + j.toNat := by omega
            rw [this, Nat.add_mul, Nat.add_zero]
      · cases h
    · cases h
  · rename_i k l k' j heq hj
    have ej := asI_inv hj (hev i)
    split at h
    · rename_i hsz
      obtain ⟨rfl, rfl⟩ := pinj h
      have h0 : 0 ≤ j := hc _ (by simp)
      have h1 : j < l.length := hc _ (by simp)
      rw [heq] at ha
      simp only [SR, KC] at ha
      obtain ⟨v', e, hs⟩ := ha
      obtain e := (List.cons.inj e).1
      rcases hs with ⟨rfl, _⟩ | ⟨b, o, cap, c, e', wr, t, h2, h3, h4, h5, h6, h7⟩
      · simp at h1; omega
      · refine ⟨.pointer (some ⟨b, o + j.toNat * size, none⟩), ?_, ?_⟩
        · simp only [vact, e, h2, ej]
          rw [if_pos ⟨h0, h1⟩]
        · simp only [SR]
          exact ⟨b, o, c, e', wr, t, h0, h1, h4, by rw [hsz, Nat.add_zero], h6, h7⟩
    · cases h
  · cases h
theorem gbound_sound (hev : ∀ x, SR P B pl tb (ev x) (evV x)) {x : Option Operand} {d : Nat} {a : Int} (h : gbound ev x d = some a) (ha : 0 ≤ a) : vbound evV x d = some a.toNat := by
  cases x with
  | none => obtain rfl := Option.some.inj h; simp [vbound]
  | some x =>
    simp only [gbound, Option.map_eq_some_iff] at h
    obtain ⟨⟨k, a'⟩, h1, h2⟩ := h
    simp only at h2
    subst h2
    simp only [vbound, asI_inv h1 (hev x), ha, if_true]
theorem q_sliceStr (hev : ∀ x, SR P B pl tb (ev x) (evV x)) {x : Operand} {lo hi : Option Operand} (h : gq kt raw (.sliceStr x lo hi) ev own = some (cs, v)) (hc : ∀ c ∈ cs, c) : QOk P B pl tb σ (.sliceStr x lo hi) evV v := by
  simp only [gq] at h
  split at h
  · rename_i s hs
    have es := asS_inv hs (hev x)
    split at h
    · rename_i a b h1 h2
      obtain ⟨rfl, rfl⟩ := pinj h
      have k0 : 0 ≤ a := hc _ (by simp)
      have k1 : a ≤ b := hc _ (by simp)
      have k2 : b ≤ s.length := hc _ (by simp)
      have e1 := gbound_sound (evV := evV) hev h1 k0
      have e2 := gbound_sound (evV := evV) hev h2 (by omega)
      have hsize : (ByteArray.mk s.toArray).size = s.length := by simp [ByteArray.size]
      refine ⟨.string ((ByteArray.mk s.toArray).extract a.toNat b.toNat), ?_, ?_⟩
      · simp only [vact, es, hsize, e1, e2]
        rw [if_pos (by omega)]
      · have : (ByteArray.mk s.toArray).extract a.toNat b.toNat = ⟨((s.drop a.toNat).take (b - a).toNat).toArray⟩ := by
          apply ByteArray.ext
          simp [ByteArray.data_extract]
          rw [show (b - a).toNat = b.toNat - a.toNat by omega]
        rw [this]; exact sr_str _
    · cases h
  · cases h
theorem q_len (hev : ∀ x, SR P B pl tb (ev x) (evV x)) (hobj : ∀ d, OR P B pl tb σ (pl d) (oget own d)) {x : Operand} (h : gq kt raw (.len x) ev own = some (cs, v)) : QOk P B pl tb σ (.len x) evV v := by
  simp only [gq] at h
  split at h
  · rename_i n h1
    obtain ⟨rfl, rfl⟩ := pinj h
    obtain ⟨a, cap, e⟩ := vlen_sound hobj h1 (hev x)
    exact ⟨.int .i64 n, by simp only [vact, e], sr_int _ _⟩
  · cases h
theorem q_lenStr (hev : ∀ x, SR P B pl tb (ev x) (evV x)) {x : Operand} (h : gq kt raw (.lenStr x) ev own = some (cs, v)) : QOk P B pl tb σ (.lenStr x) evV v := by
  simp only [gq] at h
  split at h
  · rename_i s h1
    obtain ⟨rfl, rfl⟩ := pinj h
    exact ⟨.int .i64 s.length, by simp only [vact, asS_inv h1 (hev x)]; simp [ByteArray.size], sr_int _ _⟩
  · cases h
theorem q_max (hev : ∀ x, SR P B pl tb (ev x) (evV x)) {x y : Operand} (h : gq kt raw (.max x y) ev own = some (cs, v)) : QOk P B pl tb σ (.max x y) evV v := by
  simp only [gq] at h
  split at h
  · rename_i k a k' b h1 h2
    obtain ⟨e1, e2⟩ := q_int2 hev h1 h2
    split at h
    · rename_i hk
      subst hk
      obtain ⟨rfl, rfl⟩ := pinj h
      exact ⟨.int k (gmax a b), by simp only [vact, e1, e2, if_true]; rfl, sr_int _ _⟩
    · cases h
  · cases h
theorem q_min (hev : ∀ x, SR P B pl tb (ev x) (evV x)) {x y : Operand} (h : gq kt raw (.min x y) ev own = some (cs, v)) : QOk P B pl tb σ (.min x y) evV v := by
  simp only [gq] at h
  split at h
  · rename_i k a k' b h1 h2
    obtain ⟨e1, e2⟩ := q_int2 hev h1 h2
    split at h
    · rename_i hk
      subst hk
      obtain ⟨rfl, rfl⟩ := pinj h
      exact ⟨.int k (gmin a b), by simp only [vact, e1, e2, if_true]; rfl, sr_int _ _⟩
    · cases h
  · cases h
theorem q_makeFunc (hev : ∀ x, SR P B pl tb (ev x) (evV x)) {fn : Fn} {a b : List Operand} (h : gq kt raw (.makeFunc fn a b) ev own = some (cs, v)) : QOk P B pl tb σ (.makeFunc fn a b) evV v := by
  cases fn with
  | func f =>
    obtain ⟨rfl, rfl⟩ := pinj h
    refine ⟨.func (.func f) (a.map evV).toArray (b.map evV).toArray, by simp only [vact], ?_⟩
    simp only [SR]
    exact ⟨_, _, rfl, SRs.map fun x _ => hev x, SRs.map fun x _ => hev x⟩
  | _ => cases h
theorem vslice_ok {size : Nat} {i o len cap l h : Nat} {c : List Value} {e : El} {wr t : Bool} (hg : σ.get i = some (.cells c e wr t)) (he : e.sz = size) (h1 : l ≤ h) (h2 : h ≤ cap) :
    vslice size σ (.slice (some ⟨i, o, none⟩) len cap) l h none = some (.slice (some ⟨i, o + l * size, none⟩) (h - l) (cap - l), σ) := by
  simp only [vslice, hg]
  rw [if_pos ⟨he, h1, h2⟩]
theorem q_slice (hev : ∀ x, SR P B pl tb (ev x) (evV x)) (hle : B.Le σ) (hobj : ∀ d, OR P B pl tb σ (pl d) (oget own d)) {size : Nat} {x : Operand} {lo hi mx : Option Operand} (h : gq kt raw (.slice size x lo hi mx) ev own = some (cs, v)) (hc : ∀ c ∈ cs, c) : QOk P B pl tb σ (.slice size x lo hi mx) evV v := by
  have ha := hev x
  cases mx with
  | some m => cases h
  | none =>
  simp only [gq] at h
  split at h
  · rename_i o heq
    rw [heq] at ha
    simp only [SR] at ha
    have hob := hobj o
    split at h
    · rename_i ty k xs nl ho
      rw [ho] at hob
      split at h
      · rename_i hsz
        split at h
        · rename_i a b h1 h2
          obtain ⟨rfl, rfl⟩ := pinj h
          have k0 : 0 ≤ a := hc _ (by simp)
          have k1 : a ≤ b := hc _ (by simp)
          have k2 : b ≤ xs.length := hc _ (by simp)
          have e1 := gbound_sound (evV := evV) (d := 0) hev h1 k0
          have e2 := gbound_sound (evV := evV) hev h2 (by omega)
          rcases hob with ⟨_, rfl, h3⟩ | ⟨_, i, cap, c, t, h3, h4, h5, h6, h7⟩
          · simp only [List.length_nil] at k2 e2
            have za : a.toNat = 0 := by omega
            have zb : b.toNat = 0 := by omega
            have zc : (b - a).toNat = 0 := by omega
            refine ⟨.slice none 0 0, ?_, ?_⟩
            · simp only [vact, ha.1, h3, e1, e2, za, zb, vslice]; rfl
            · rw [za, zc]; simp only [SR]; exact .inl ⟨trivial, trivial, trivial, h3⟩
          · refine ⟨.slice (some ⟨i, 0 + a.toNat * size, none⟩) (b.toNat - a.toNat) (cap - a.toNat), ?_, ?_⟩
            · simp only [vact, ha.1, h3, e1, e2]
              exact vslice_ok h5 hsz (by omega) (by omega)
            · simp only [SR]
              refine .inr ⟨i, _, cap, cap - a.toNat, h3, by omega, by omega, ?_⟩
              rw [Nat.zero_add, show (b - a).toNat = b.toNat - a.toNat by omega]
        · cases h
      · cases h
    · cases h
  · rename_i o l0 n sz heq
    rw [heq] at ha
    simp only [SR] at ha
    have hob := hobj o
    split at h
    · rename_i ty k xs nl ho
      rw [ho] at hob
      split at h
      · rename_i hsz
        obtain ⟨hsz, rfl⟩ := hsz
        split at h
        · rename_i a b h1 h2
          obtain ⟨rfl, rfl⟩ := pinj h
          have k0 : 0 ≤ a := hc _ (by simp)
          have k1 : a ≤ b := hc _ (by simp)
          have k2 : b ≤ n := hc _ (by simp)
          have e1 := gbound_sound (evV := evV) (d := 0) hev h1 k0
          have e2 := gbound_sound (evV := evV) hev h2 (by omega)
          rcases ha with ⟨rfl, rfl, hv, hp⟩ | ⟨i, len, cap, cap', h3, h4, h5, hv⟩
          · have za : a.toNat = 0 := by omega
            have zb : b.toNat = 0 := by omega
            have zc : (b - a).toNat = 0 := by omega
            refine ⟨.slice none 0 0, ?_, ?_⟩
            · simp only [vact, hv, e1, e2, za, zb, vslice]; rfl
            · rw [za, zc]; simp only [SR]; exact .inl ⟨trivial, trivial, trivial, hp⟩
          · rcases hob with ⟨_, _, h6⟩ | ⟨_, i', cap1, c, t, h6, h7, h8, h9, h10⟩
            · rw [h3] at h6; cases h6
            · rw [h3] at h6
              obtain ⟨rfl, rfl, rfl⟩ := (by simpa using h6 : i = i' ∧ len = xs.length ∧ cap = cap1)
              refine ⟨.slice (some ⟨i, l0 * sz + a.toNat * sz, none⟩) (b.toNat - a.toNat) (cap' - a.toNat), ?_, ?_⟩
              · simp only [vact, hv, e1, e2]
                exact vslice_ok h8 hsz (by omega) (by omega)
              · simp only [SR]
                refine .inr ⟨i, _, cap, cap' - a.toNat, h3, by omega, by omega, ?_⟩
                rw [Nat.add_mul, show (b - a).toNat = b.toNat - a.toNat by omega]
        · cases h
      · cases h
    · cases h
  · rename_i k l heq
    rw [heq] at ha
    simp only [SR, KC] at ha
    obtain ⟨v', e, hs⟩ := ha
    obtain e := (List.cons.inj e).1
    split at h
    · rename_i hsz
      split at h
      · rename_i a b h1 h2
        obtain ⟨rfl, rfl⟩ := pinj h
        have k0 : 0 ≤ a := hc _ (by simp)
        have k1 : a ≤ b := hc _ (by simp)
        have k2 : b ≤ l.length := hc _ (by simp)
        have e1 := gbound_sound (evV := evV) (d := 0) hev h1 k0
        have e2 := gbound_sound (evV := evV) hev h2 (by omega)
        rcases hs with ⟨rfl, h3⟩ | ⟨i, o, cap, c, e', wr, t, h3, h4, h5, h6, h7, h8⟩
        · simp only [List.length_nil] at k2 e2
          have za : a.toNat = 0 := by omega
          have zb : b.toNat = 0 := by omega
          refine ⟨.slice none 0 0, ?_, ?_⟩
          · simp only [vact, e, h3, e1, e2, za, zb, vslice]; rfl
          · simp only [SR, KC]; exact ⟨_, rfl, .inl ⟨by simp, rfl⟩⟩
        · have hlen : ((l.drop a.toNat).take (b - a).toNat).length = (b - a).toNat := by simp; omega
          refine ⟨.slice (some ⟨i, o + a.toNat * size, none⟩) (b.toNat - a.toNat) (cap - a.toNat), ?_, ?_⟩
          · simp only [vact, e, h3, e1, e2]
            exact vslice_ok (hle.2 _ _ h5) (by rw [h6, hsz]) (by omega) (by omega)
          · simp only [SR, KC]
            refine ⟨_, rfl, .inr ⟨i, o + a.toNat * size, cap - a.toNat, c, e', wr, t, ?_, by rw [hlen]; omega, h5, h6, ?_, ?_⟩⟩
            · rw [hlen, show (b - a).toNat = b.toNat - a.toNat by omega]
            · rw [hlen, hsz]
              have : (a.toNat + (b - a).toNat) * size ≤ l.length * size := Nat.mul_le_mul_right _ (by omega)
              rw [Nat.add_mul] at this
              rw [hsz] at h7; omega
            · rw [hlen]
              have := (h8.drop KC.rows_len a.toNat).take KC.rows_len (b - a).toNat
              have e3 : (((c.drop o).take (l.length * k.size)).drop (a.toNat * k.size)).take ((b - a).toNat * k.size) = (c.drop (o + a.toNat * size)).take ((b - a).toNat * k.size) := by
                rw [hsz]
                apply List.ext_getElem?
                intro j
                simp only [List.getElem?_take, List.getElem?_drop]
                split
                · have : (a.toNat + (b - a).toNat) * size ≤ l.length * size := Nat.mul_le_mul_right _ (by omega)
                  rw [Nat.add_mul] at this
                  rw [if_pos (by omega), Nat.add_assoc]
                · rfl
              rw [e3] at this
              exact this
      · cases h
    · cases h
  · rename_i heq
    rw [heq] at ha
    simp only [SR] at ha
    split at h
    · rename_i a b h1 h2
      obtain ⟨rfl, rfl⟩ := pinj h
      have k0 : a = 0 := hc _ (by simp)
      have k1 : b = 0 := hc _ (by simp)
      subst k0; subst k1
      have e1 := gbound_sound (evV := evV) (d := 0) hev h1 (Int.le_refl _)
      have e2 := gbound_sound (evV := evV) (d := 0) hev h2 (Int.le_refl _)
      refine ⟨.slice none 0 0, ?_, ?_⟩
      · simp only [vact, ha, e1, e2, vslice]; rfl
      · simp only [SR]
    · cases h
  · cases h
theorem q_eqNil (hev : ∀ x, SR P B pl tb (ev x) (evV x)) {neg : Bool} {x y : Operand} (hobj : ∀ d, OR P B pl tb σ (pl d) (oget own d)) (h : gq kt raw (.ext (.eqNil 1 neg x y)) ev own = some (cs, v)) (hc : ∀ c ∈ cs, c) : QOk P B pl tb σ (.ext (.eqNil 1 neg x y)) evV v := by
  have ha := hev x
  have hb := hev y
  simp only [gq] at h
  split at h
  · rename_i h1 h2
    rw [h1] at ha; rw [h2] at hb
    simp only [SR] at ha hb
    obtain ⟨rfl, rfl⟩ := pinj h
    refine ⟨.bool (!neg), ?_, sr_bool _⟩
    simp only [vact, xact, ha, hb, sameNil]
    cases neg <;> rfl
  · rename_i o h1 h2
    rw [h1] at ha; rw [h2] at hb
    simp only [SR] at ha hb
    have hob := hobj o
    split at h
    · rename_i ty k xs nl ho
      rw [ho] at hob
      obtain ⟨rfl, rfl⟩ := pinj h
      refine ⟨.bool (bif neg then !nl else nl), ?_, sr_bool _⟩
      rcases hob with ⟨rfl, _, h3⟩ | ⟨rfl, i, cap, c, t, h3, _⟩
      · simp only [vact, xact, ha.1, h3, hb, sameNil]
        cases neg <;> rfl
      · simp only [vact, xact, ha.1, h3, hb, sameNil]
        cases neg <;> rfl
    · cases h
  · rename_i k l h1 h2
    rw [h1] at ha; rw [h2] at hb
    simp only [SR] at ha hb
    obtain ⟨rfl, rfl⟩ := pinj h
    have hl := hc (l ≠ []) (by simp)
    refine ⟨.bool neg, ?_, sr_bool _⟩
    obtain ⟨u, hu, hs⟩ := ha
    obtain rfl := (List.cons.inj hu).1
    rcases hs with ⟨e, _⟩ | ⟨i, o, cap, c, e, wr, t, h3, _⟩
    · exact absurd e hl
    · simp only [vact, xact, h3, hb, sameNil]
      cases neg <;> rfl
  · cases h
theorem q_lookup (hev : ∀ x, SR P B pl tb (ev x) (evV x)) {mk : MK} {z : Value} {ok : Bool} {x i : Operand} (_hle : B.Le σ) (hobj : ∀ d, OR P B pl tb σ (pl d) (oget own d)) (h : gq kt raw (.ext (.lookup mk z ok x i)) ev own = some (cs, v)) : QOk P B pl tb σ (.ext (.lookup mk z ok x i)) evV v := by
  have ha := hev x
  simp only [gq] at h
  split at h
  · rename_i o h1
    rw [h1] at ha
    simp only [SR] at ha
    have hob := hobj o
    split at h
    · rename_i kk vk m ho
      rw [ho] at hob
      obtain ⟨id, es, clock, h2, h3, h4⟩ := hob
      split at h
      · rename_i hmk
        obtain ⟨hmk, hz⟩ := hmk
        split at h
        · rename_i key hkey
          have hi : SRs P B pl tb [ev i] [evV i] := by simp only [SRs]; exact ⟨_, [], rfl, hev i, rfl⟩
          have hk := deck_sound hkey hi
          have hko := mkOk_key hmk hk
          have hall := MR.keys hmk h4
          have hzk : KC B vk vk.dflt [z] := zeroOk_sound hz
          have hmap : σ.mapAt id = some (es, clock, true) := by simp [Heap.mapAt, h3]
          have key2 := MR.find hmk hk hzk h4
          have base : ∀ u, (match mapFind (evV i) es with
            | some e => some (if ok then Value.tuple #[e.2.1, .bool true] else e.2.1, σ)
            | none => some (if ok then .tuple #[z, .bool false] else z, σ)) = some (u, σ) → vact (.ext (.lookup mk z ok x i)) evV σ = some (u, σ) := fun u hu => by
            simp only [vact, xact, hko, if_true, ha.1, h2, hmap, hall]
            exact hu
          cases ok with
          | true =>
            simp only [if_true] at h
            obtain ⟨rfl, rfl⟩ := pinj h
            rcases key2 with ⟨e, k1, k2, k3⟩ | ⟨k1, k2, k3⟩
            · refine ⟨.tuple #[e.2.1, .bool true], base _ (by rw [k1]; rfl), ?_⟩
              simp only [SR]
              refine ⟨[e.2.1, .bool true], rfl, ?_⟩
              simp only [SRs, SR]
              exact ⟨_, _, rfl, k3, _, _, rfl, by simp [KC, k2], rfl⟩
            · refine ⟨.tuple #[z, .bool false], base _ (by rw [k1]; rfl), ?_⟩
              simp only [SR]
              refine ⟨[z, .bool false], rfl, ?_⟩
              simp only [SRs, SR]
              exact ⟨_, _, rfl, by rw [k3]; exact hzk, _, _, rfl, by simp [KC, k2], rfl⟩
          | false =>
            simp only [Bool.false_eq_true, if_false] at h
            obtain ⟨rfl, rfl⟩ := pinj h
            rcases key2 with ⟨e, k1, k2, k3⟩ | ⟨k1, k2, k3⟩
            · exact ⟨e.2.1, base _ (by rw [k1]; rfl), by simp only [SR]; exact k3⟩
            · exact ⟨z, base _ (by rw [k1]; rfl), by simp only [SR]; rw [k3]; exact hzk⟩
        · cases h
      · cases h
    · cases h
  · cases h
theorem q_lenMap (hev : ∀ x, SR P B pl tb (ev x) (evV x)) {x : Operand} (hobj : ∀ d, OR P B pl tb σ (pl d) (oget own d)) (h : gq kt raw (.ext (.lenMap x)) ev own = some (cs, v)) : QOk P B pl tb σ (.ext (.lenMap x)) evV v := by
  have ha := hev x
  simp only [gq] at h
  split at h
  · rename_i o h1
    rw [h1] at ha
    simp only [SR] at ha
    have hob := hobj o
    split at h
    · rename_i kk vk m ho
      rw [ho] at hob
      obtain ⟨id, es, clock, h2, h3, h4⟩ := hob
      obtain ⟨rfl, rfl⟩ := pinj h
      have hmap : σ.mapAt id = some (es, clock, true) := by simp [Heap.mapAt, h3]
      refine ⟨.int .i64 es.length, by simp only [vact, xact, ha.1, h2, hmap], ?_⟩
      rw [h4.length]; exact sr_int _ _
    · cases h
  · cases h
theorem gq_sound (hev : ∀ x, SR P B pl tb (ev x) (evV x)) (hcst : ∀ c, evV (.const c) = c) (hle : B.Le σ) (hobj : ∀ d, OR P B pl tb σ (pl d) (oget own d)) {o : VOp} (h : gq kt raw o ev own = some (cs, v)) (hc : ∀ c ∈ cs, c) : QOk P B pl tb σ o evV v := by
  cases o with
  | move x => obtain ⟨rfl, rfl⟩ := pinj h; exact ⟨evV x, rfl, hev x⟩
  | arith => exact q_arith hev h hc
  | div => exact q_div hev h hc
  | bits => exact q_bits hev h
  | shift => exact q_shift hev h hc
  | cmp => exact q_cmp hev h
  | str => exact q_str hev h hc
  | eqB => exact q_eqB hev h
  | un => exact q_un hev h hc
  | convI => exact q_convI hev h hc
  | convS => exact q_convS hev h
  | build => exact q_build hev h
  | load => exact q_load hev hle hobj h
  | fieldAddr => exact q_fieldAddr hev h
  | field => exact q_field hev h
  | indexAddr => exact q_indexAddr hev hle hobj h hc
  | indexAddrArr => exact q_indexAddrArr hev hcst h
  | indexStr => exact q_indexStr hev h hc
  | indexArr => exact q_indexArr hev hcst h
  | slice => exact q_slice hev hle hobj h hc
  | sliceStr => exact q_sliceStr hev h hc
  | len => exact q_len hev hobj h
  | lenStr => exact q_lenStr hev h
  | max => exact q_max hev h
  | min => exact q_min hev h
  | makeFunc => exact q_makeFunc hev h
  | extract => exact q_extract hev h
  | nilCheck => exact q_nilCheck hev h
  | ext x =>
    cases x with
    | eqNil k neg a b =>
      match k with
      | 1 => exact q_eqNil hev hobj h hc
      | 0 => cases h
      | (n + 2) => cases h
    | lookup => exact q_lookup hev hle hobj h
    | lenMap => exact q_lenMap hev hobj h
    | _ => cases h
  | _ => cases h
end
end
end Go.V

namespace Go.V
open Go
theorem nemp {α : Type} {l : List α} (h : ¬ l = []) (b : Bool) : (l.isEmpty && b) = false := by cases l with | nil => exact absurd rfl h | cons _ _ => rfl
theorem nemp' {α : Type} {l : List α} (h : ¬ l = []) : l.isEmpty = false := by cases l with | nil => exact absurd rfl h | cons _ _ => rfl
theorem setL_split {c vs : List Value} {o : Nat} (h : o + vs.length ≤ c.length) : setL c o vs = c.take o ++ vs ++ c.drop (o + vs.length) := by
  apply List.ext_getElem?
  intro k
  rcases Nat.lt_or_ge k o with hk | hk
  · rw [setL_out vs c o k (.inl hk), List.append_assoc, List.getElem?_append_left (by simp; omega), List.getElem?_take, if_pos hk]
  · rcases Nat.lt_or_ge k (o + vs.length) with hk2 | hk2
    · have := setL_in vs c o (k - o) h (by omega)
      rw [show o + (k - o) = k by omega] at this
      rw [this, List.append_assoc, List.getElem?_append_right (by simp; omega), List.getElem?_append_left (by simp; omega)]
      congr 1; simp; omega
    · rw [setL_out vs c o k (.inr hk2), List.getElem?_append_right (by simp; omega), List.getElem?_drop]
      congr 1; simp; omega
theorem setL_row (us c : List Value) {m p n off : Nat} (h1 : off + us.length ≤ n) (h2 : p + n ≤ m) (h3 : m ≤ c.length) :
    (setL c (p + off) us).take m = (c.take m).take p ++ setL (((c.take m).drop p).take n) off us ++ (c.take m).drop (p + n) := by
  have l1 : (((c.take m).drop p).take n).length = n := by simp; omega
  have hrow : ∀ q, q < n → (((c.take m).drop p).take n)[q]? = c[p + q]? := fun q hq => by
    rw [List.getElem?_take, if_pos hq, List.getElem?_drop, List.getElem?_take, if_pos (by omega)]
  generalize ((c.take m).drop p).take n = row at l1 hrow
  have l2 : ((c.take m).take p).length = p := by simp; omega
  have l3 : (setL row off us).length = n := by rw [setL_length, l1]
  have g2 : ∀ q, q < p → ((c.take m).take p)[q]? = c[q]? := fun q hq => by
    rw [List.getElem?_take, if_pos hq, List.getElem?_take, if_pos (by omega)]
  generalize (c.take m).take p = pre at l2 g2
  apply List.ext_getElem?
  intro j
  rw [List.getElem?_take, List.append_assoc]
  by_cases hj : j < m
  · rw [if_pos hj]
    rcases Nat.lt_or_ge j p with a1 | a1
    · rw [setL_out us c _ j (.inl (by omega)), List.getElem?_append_left (by omega), g2 j a1]
    · rw [List.getElem?_append_right (by omega), l2]
      rcases Nat.lt_or_ge j (p + n) with a2 | a2
      · rw [List.getElem?_append_left (by omega)]
        rcases Nat.lt_or_ge (j - p) off with a3 | a3
        · rw [setL_out us c _ j (.inl (by omega)), setL_out us _ _ _ (.inl a3), hrow _ (by omega)]
          congr 1; omega
        · rcases Nat.lt_or_ge (j - p) (off + us.length) with a4 | a4
          · have b1 := setL_in us c (p + off) (j - (p + off)) (by omega) (by omega)
            have b2 := setL_in us row off (j - (p + off)) (by omega) (by omega)
            rw [show p + off + (j - (p + off)) = j by omega] at b1
            rw [show off + (j - (p + off)) = j - p by omega] at b2
            rw [b1, b2]
          · rw [setL_out us c _ j (.inr (by omega)), setL_out us _ _ _ (.inr a4), hrow _ (by omega)]
            congr 1; omega
      · rw [setL_out us c _ j (.inr (by omega)), List.getElem?_append_right (by omega), List.getElem?_drop, List.getElem?_take, l3, if_pos (by omega)]
        congr 1; omega
  · rw [if_neg hj, List.getElem?_append_right (by omega), List.getElem?_append_right (by omega), List.getElem?_drop, List.getElem?_take, if_neg (by omega)]
theorem Heap.Le.push {B σ : Heap} (h : B.Le σ) (b : Blk) : B.Le (σ.push b) :=
  ⟨by have := h.1; simp; omega, fun i b' hb => by rw [Heap.get_push_lt _ _ (σ.lt (h.2 i b' hb))]; exact h.2 i b' hb⟩
theorem Heap.Le.upd {B σ : Heap} (h : B.Le σ) {i : Nat} (hi : B.get i = none) (b : Blk) : B.Le (σ.upd i b) :=
  ⟨by simpa using h.1, fun j b' hb => by
    have : j ≠ i := fun e => by subst e; rw [hi] at hb; cases hb
    rw [Heap.get_upd_ne _ _ this]; exact h.2 j b' hb⟩
theorem Heap.Le.kill {B σ : Heap} (h : B.Le σ) {i : Nat} (hi : B.get i = none) : B.Le (σ.kill i) :=
  ⟨by simpa using h.1, fun j b' hb => by
    have : j ≠ i := fun e => by subst e; rw [hi] at hb; cases hb
    rw [Heap.get_kill_ne _ this]; exact h.2 j b' hb⟩
theorem Heap.Le.fresh {B σ : Heap} (h : B.Le σ) : B.get σ.n = none := B.wf _ h.1
section
variable {P : Program} {B F : Heap} {pl : Nat → Value} {tb : Nat → Option Bool} {s : St} {env : Env} {σ : Heap}
theorem OR.id_lt {p : Value} {b : OB} (h : OR P B pl tb σ p b) (hl : b.live = true) {i : Nat} (hi : oid p = some i) : i < σ.n := by
  cases b with
  | dead => cases hl
  | lst ty k xs nl =>
    rcases h with ⟨_, _, rfl⟩ | ⟨_, i', cap, c, t, rfl, _, h3, _⟩
    · cases hi
    · obtain rfl := Option.some.inj hi; exact σ.lt h3
  | cells l => obtain ⟨i', c, e, t, rfl, h2, _⟩ := h; obtain rfl := Option.some.inj hi; exact σ.lt h2
  | map kk vk m => obtain ⟨i', es, clock, rfl, h2, _⟩ := h; obtain rfl := Option.some.inj hi; exact σ.lt h2
  | stk l vals => cases hl
theorem Gam.push (h : Gam P B F pl tb s env σ) (d : Nat) (b : OB) (p : Value) (blk : Blk) (hp : oid p = some σ.n) (hb : OR P B (updP pl d p) tb (σ.push blk) p b) : Gam P B F (updP pl d p) tb (s.make d b) env (σ.push blk) := by
  refine h.make d b p (h.le.push blk) (fun j i hj hl hi => ?_) hb (fun i _ hi => ?_)
  · exact Heap.get_push_lt _ _ ((h.obj j).id_lt hl hi)
  · rw [hp] at hi; obtain rfl := Option.some.inj hi
    exact ⟨h.le.fresh, fun j _ hl e => by have := (h.obj j).id_lt hl e; omega⟩
theorem SlRel.sl {h : Heap} {sz : Nat} {α : Type} {R : α → List Value → Prop} {l : List α} {v : Value} (hs : SlRel h sz R l v) : ∃ cs a cap, h.sl sz v = some cs ∧ Rows R l cs ∧ v = .slice a l.length cap := by
  rcases hs with ⟨rfl, rfl⟩ | ⟨i, o, cap, c, e, wr, t, rfl, h2, h3, h4, h5, h6⟩
  · exact ⟨[], _, _, rfl, .nil, rfl⟩
  · refine ⟨_, _, cap, ?_, h6, rfl⟩
    simp only [Heap.sl, h3]
    rw [if_pos ⟨h4, h5⟩]
theorem Rows.cellOk {k : Kind} {xs : List k.T} {cs : List Value} (h : Rows (KC B k) xs cs) : cs.all Go.V.cellOk = true := by
  induction h with
  | nil => rfl
  | cons h _ ih => rw [List.all_append, KC.cellOk h, ih]; rfl
theorem kput_sound {pl : Nat → Value} : ∀ {k : Kind} {off : Nat} {v : SV} {u : Value} {x y : k.T} {row : List Value}, kput k off v x = some y → KC B k x row → SR P B pl tb v u → off < k.size → KC B k y (setL row off [u])
  | .pair a b, off, v, u, x, y, row, h, hr, hv, ho => by
    obtain ⟨c1, c2, rfl, h1, h2⟩ := hr
    have l1 := KC.length h1
    have l2 := KC.length h2
    simp only [kput] at h
    simp only [setL]
    cases hb : Nat.blt off a.size with
    | true =>
      rw [hb] at h
      simp only [_root_.cond_true, Option.map_eq_some_iff] at h
      obtain ⟨z, h3, rfl⟩ := h
      have hoff : off < a.size := by simpa [Nat.blt_eq] using hb
      have := kput_sound h3 h1 hv hoff
      exact ⟨c1.set off u, c2, by rw [List.set_append_left _ _ (by omega)], this, h2⟩
    | false =>
      rw [hb] at h
      simp only [_root_.cond_false, Option.map_eq_some_iff] at h
      obtain ⟨z, h3, rfl⟩ := h
      have hoff : ¬ off < a.size := by
        intro hlt
        rw [show Nat.blt off a.size = true by rw [Nat.blt_eq]; exact hlt] at hb; cases hb
      simp only [Kind.size] at ho
      have := kput_sound h3 h2 hv (by omega)
      refine ⟨c1, c2.set (off - a.size) u, ?_, h1, this⟩
      rw [List.set_append_right _ _ (by omega), l1]
  | .i ik, off, v, u, x, y, row, h, hr, hv, ho => by
    have := deck_sound (k := .i ik) h (show SRs P B pl tb [v] [u] by simp only [SRs]; exact ⟨_, [], rfl, hv, rfl⟩)
    have hl := KC.length hr
    simp only [Kind.size] at hl ho
    obtain ⟨c, rfl⟩ := List.length_eq_one_iff.1 hl
    obtain rfl : off = 0 := by omega
    exact this
  | .bo, off, v, u, x, y, row, h, hr, hv, ho => by
    have := deck_sound (k := .bo) h (show SRs P B pl tb [v] [u] by simp only [SRs]; exact ⟨_, [], rfl, hv, rfl⟩)
    have hl := KC.length hr
    simp only [Kind.size] at hl ho
    obtain ⟨c, rfl⟩ := List.length_eq_one_iff.1 hl
    obtain rfl : off = 0 := by omega
    exact this
  | .st, off, v, u, x, y, row, h, hr, hv, ho => by
    have := deck_sound (k := .st) h (show SRs P B pl tb [v] [u] by simp only [SRs]; exact ⟨_, [], rfl, hv, rfl⟩)
    have hl := KC.length hr
    simp only [Kind.size] at hl ho
    obtain ⟨c, rfl⟩ := List.length_eq_one_iff.1 hl
    obtain rfl : off = 0 := by omega
    exact this
  | .list k, off, v, u, x, y, row, h, hr, hv, ho => by
    have := deck_sound (k := .list k) h (show SRs P B pl tb [v] [u] by simp only [SRs]; exact ⟨_, [], rfl, hv, rfl⟩)
    have hl := KC.length hr
    simp only [Kind.size] at hl ho
    obtain ⟨c, rfl⟩ := List.length_eq_one_iff.1 hl
    obtain rfl : off = 0 := by omega
    exact this
theorem aput_sound {mk : MK} {kk vk : Kind} (hk : gq.mkOk mk kk = true) {key : kk.T} {x : vk.T} {kv xv : Value} {clock : Nat} (hkey : KC B kk key [kv]) (hx : KC B vk x [xv]) : ∀ {m : List (kk.T × vk.T)} {es : List MEnt}, MR B kk vk m es → MR B kk vk (aput kk m key x) (mapPut kv xv clock es).1
  | [], es, h => by simp only [MR] at h; subst h; exact ⟨_, [], rfl, hkey, hx, rfl⟩
  | m :: ms, es, h => by
    obtain ⟨e, es', rfl, h2, h3, h4⟩ := h
    have hq := keq_sound hk hkey h2
    simp only [mapPut, aput, hq]
    cases gq.keq kk key m.1 with
    | true => exact ⟨_, es', rfl, hkey, hx, h4⟩
    | false => exact ⟨e, _, rfl, h2, h3, aput_sound hk hkey hx h4⟩
def Fr (T : Nat) (s s' : St) (pl pl' : Nat → Value) (σ σ' : Heap) : Prop :=
  ∀ q, q ≠ T → (oget s'.own q).live = (oget s.own q).live ∧ pl' q = pl q ∧ ((oget s.own q).live = true → ∀ i, oid (pl q) = some i → σ'.get i = σ.get i)
theorem make_live (s : St) (d : Nat) (b : OB) {q : Nat} (hq : q ≠ d) : (oget (s.make d b).own q).live = (oget s.own q).live := by
  simp only [St.make, St.kill, oget_oset, oget_okill, if_neg hq, OB.live_kill]
theorem Gam.makeF {s : St} {env : Env} {σ σ' : Heap} {pl : Nat → Value} (h : Gam P B F pl tb s env σ) (d : Nat) (b : OB) (p : Value) (hle : F.Le σ') (ho : ∀ j i, j ≠ d → (oget s.own j).live = true → oid (pl j) = some i → σ'.get i = σ.get i)
    (hb : OR P B (updP pl d p) tb σ' p b) (hf : ∀ i, b.live = true → oid p = some i → F.get i = none ∧ ∀ j, j ≠ d → (oget s.own j).live = true → oid (pl j) ≠ some i) : Gam P B F (updP pl d p) tb (s.make d b) env σ' ∧ Fr d s (s.make d b) pl (updP pl d p) σ σ' :=
  ⟨h.make d b p hle ho hb hf, fun q hq => ⟨make_live s d b hq, by simp [updP, hq], fun hl i hi => ho q i hq hl hi⟩⟩
theorem Gam.writeF {s : St} {env : Env} {σ σ' : Heap} {pl : Nat → Value} (h : Gam P B F pl tb s env σ) (d : Nat) (b : OB) (hle : F.Le σ') (hlive : (oget s.own d).live = true)
    (hfr : ∀ j i, j ≠ d → (oget s.own j).live = true → oid (pl j) = some i → σ'.get i = σ.get i) (hb : OR P B pl tb σ' (pl d) b) : Gam P B F pl tb ⟨s.env, oset s.own d b, s.nx⟩ env σ' ∧ Fr d s ⟨s.env, oset s.own d b, s.nx⟩ pl pl σ σ' :=
  ⟨h.write d b hle hlive hfr hb, fun q hq => ⟨by simp only [oget_oset, if_neg hq], rfl, fun hl i hi => hfr q i hq hl hi⟩⟩
theorem Gam.pushF {s : St} {env : Env} {σ : Heap} {pl : Nat → Value} (h : Gam P B F pl tb s env σ) (d : Nat) (b : OB) (p : Value) (blk : Blk) (hp : oid p = some σ.n) (hb : OR P B (updP pl d p) tb (σ.push blk) p b) : Gam P B F (updP pl d p) tb (s.make d b) env (σ.push blk) ∧ Fr d s (s.make d b) pl (updP pl d p) σ (σ.push blk) :=
  ⟨h.push d b p blk hp hb, fun q hq => ⟨make_live s d b hq, by simp [updP, hq], fun hl i hi => Heap.get_push_lt _ _ ((h.obj q).id_lt hl hi)⟩⟩
def NOk (P : Program) (B F : Heap) (tb : Nat → Option Bool) (o : VOp) (evV : Operand → Value) (env : Env) (σ : Heap) (K : SV → St → Prop) (T : Nat) (s : St) (pl : Nat → Value) : Prop :=
  ∃ u σ' pl' v s', vact o evV σ = some (u, σ') ∧ K v s' ∧ (Gam P B F pl' tb s' env σ' ∧ Fr T s s' pl pl' σ σ') ∧ SR P B pl' tb v u
theorem pl_updP (pl : Nat → Value) (d : Nat) (p : Value) : updP pl d p d = p := by simp [updP]
section
variable {C : Cx} {d : Nat} {ev : Operand → SV} {evV : Operand → Value} {K : SV → St → Prop}
theorem n_alloc (hev : ∀ x, SR P B pl tb (ev x) (evV x)) (hG : Gam P B F pl tb s env σ) {t : Nat} {z : List Value} (h : gn C d (.alloc t z) ev s K) : NOk P B F tb (.alloc t z) evV env σ K (gtouch d (.alloc t z) ev) s pl := by
  have _hev := hev
  simp only [gn] at h
  refine ⟨.pointer (some ⟨σ.n, 0, none⟩), _, updP pl d (.pointer (some ⟨σ.n, 0, none⟩)), _, _, rfl, h, hG.pushF d _ _ _ rfl ?_, ?_⟩
  · refine ⟨σ.n, z, _, _, rfl, Heap.get_push_self _ _, ?_⟩
    have hz : SRs P B (updP pl d (.pointer (some ⟨σ.n, 0, none⟩))) tb (z.map cvp) (z.map id) := SRs.map fun x _ => cvp_sound x
    rwa [List.map_id] at hz
  · simp only [SR, pl_updP]; exact ⟨_, rfl, rfl⟩
theorem n_box (hev : ∀ x, SR P B pl tb (ev x) (evV x)) (hG : Gam P B F pl tb s env σ) {t : Nat} {x : Operand} (h : gn C d (.box t x) ev s K) : NOk P B F tb (.box t x) evV env σ K (gtouch d (.box t x) ev) s pl := by
  simp only [gn] at h
  split at h
  · rename_i l hl
    obtain ⟨c, h1, h2, _⟩ := scells_sound hl (hev x)
    refine ⟨.pointer (some ⟨σ.n, 0, none⟩), σ.push (.cells c ⟨c.length, t⟩ true true), updP pl d (.pointer (some ⟨σ.n, 0, none⟩)), _, _, by simp only [vact, h1], h, hG.pushF d _ _ _ rfl ?_, ?_⟩
    · exact ⟨σ.n, c, _, _, rfl, Heap.get_push_self _ _, SRs.upd (Heap.Le.refl B) (fun _ _ h => h) (fun j hj => by simp [updP, hj]) _ _ h2⟩
    · simp only [SR, pl_updP]; exact ⟨_, rfl, rfl⟩
  · cases h
theorem gparts_sound (hev : ∀ x, SR P B pl tb (ev x) (evV x)) {k : Kind} : ∀ {ps : List (Nat × Operand)} {xs ys : List k.T} {c : List Value}, gparts k ev ps xs = some ys → Rows (KC B k) xs c →
    ys.length = xs.length ∧ ∃ c', fillL c (ps.map fun p => (p.1 * k.size, k.size, evV p.2)) = some c' ∧ Rows (KC B k) ys c'
  | [], xs, ys, c, h, hr => by obtain rfl := Option.some.inj h; exact ⟨rfl, c, rfl, hr⟩
  | (j, x) :: r, xs, ys, c, h, hr => by
    simp only [gparts] at h
    split at h
    · rename_i l hl
      split at h
      · rename_i y hy
        split at h
        · rename_i hj
          obtain ⟨vs, h1, h2, _⟩ := scells_sound hl (hev x)
          have hk := deck_sound hy h2
          have hlen := KC.length hk
          have hcl := hr.length KC.rows_len
          have hjl : (j + 1) * k.size ≤ xs.length * k.size := Nat.mul_le_mul_right _ hj
          rw [Nat.add_mul, Nat.one_mul] at hjl
          have hset := hr.set KC.rows_len hj hk
          have e : setL c (j * k.size) vs = c.take (j * k.size) ++ vs ++ c.drop (j * k.size + k.size) := by
            rw [setL_split (by omega), hlen]
          rw [← e] at hset
          obtain ⟨h3, c', h4, h5⟩ := gparts_sound hev h hset
          refine ⟨by rw [h3, List.length_set], c', ?_, h5⟩
          simp only [List.map_cons, fillL, h1]
          rw [if_pos ⟨hlen, by omega⟩]; exact h4
        · cases h
      · cases h
    · cases h
theorem n_buildSlice (hev : ∀ x, SR P B pl tb (ev x) (evV x)) (hG : Gam P B F pl tb s env σ) {e : El} {z : List Value} {n : Nat} {ps : List (Nat × Operand)} (h : gn C d (.buildSlice e z n ps) ev s K) : NOk P B F tb (.buildSlice e z n ps) evV env σ K (gtouch d (.buildSlice e z n ps) ev) s pl := by
  simp only [gn] at h
  split at h
  · rename_i k _
    split at h
    · rename_i hc
      obtain ⟨hsz, hz⟩ := hc
      split at h
      · rename_i xs hx
        have hz' : KC B k k.dflt z := zeroOk_sound hz
        have hrow : Rows (KC B k) (List.replicate n k.dflt) (repl n z) := by rw [repl_flat]; exact Rows.replicate hz' n
        obtain ⟨h3, c', h4, h5⟩ := gparts_sound (B := B) hev hx hrow
        rw [List.length_replicate] at h3
        have hcl := h5.length KC.rows_len
        refine ⟨.slice (some ⟨σ.n, 0, none⟩) n n, σ.push (.cells c' e true true), updP pl d (.slice (some ⟨σ.n, 0, none⟩) n n), _, _, ?_, h, hG.pushF d _ _ _ rfl ?_, ?_⟩
        · simp only [vact]; rw [← hsz, h4]
        · refine .inr ⟨rfl, σ.n, n, c', true, by rw [h3], by omega, ?_, by rw [hcl, h3]; exact Nat.le_refl _, ?_⟩
          · rw [Heap.get_push_self, hsz]
          · rw [List.take_of_length_le (by omega)]; exact h5
        · simp only [SR, pl_updP]; exact ⟨trivial, _, _, _, rfl⟩
      · cases h
    · cases h
  · cases h
theorem n_makeSlice (hev : ∀ x, SR P B pl tb (ev x) (evV x)) (hG : Gam P B F pl tb s env σ) {e : El} {bytes : Nat} {z : List Value} {l c : Operand} (h : gn C d (.makeSlice e bytes z l c) ev s K) : NOk P B F tb (.makeSlice e bytes z l c) evV env σ K (gtouch d (.makeSlice e bytes z l c) ev) s pl := by
  simp only [gn] at h
  split at h
  · rename_i k k1 a k2 b _ h1 h2
    have e1 := asI_inv h1 (hev l)
    have e2 := asI_inv h2 (hev c)
    split at h
    · rename_i hc
      obtain ⟨hsz, hz⟩ := hc
      simp only [gobl, gimp] at h
      obtain ⟨k3, k4, k5, k6, h⟩ := h
      have hz' : KC B k k.dflt z := zeroOk_sound hz
      have hrow : Rows (KC B k) (List.replicate b.toNat k.dflt) (repl b.toNat z) := by rw [repl_flat]; exact Rows.replicate hz' _
      have hcl := hrow.length KC.rows_len
      rw [List.length_replicate] at hcl
      have ht := hrow.take KC.rows_len a.toNat
      rw [List.take_replicate, Nat.min_eq_left (by omega)] at ht
      refine ⟨.slice (some ⟨σ.n, 0, none⟩) a.toNat b.toNat, σ.push (.cells (repl b.toNat z) e true true), updP pl d (.slice (some ⟨σ.n, 0, none⟩) a.toNat b.toNat), _, _, ?_, h, hG.pushF d _ _ _ rfl ?_, ?_⟩
      · simp only [vact, e1, e2]
        rw [if_pos ⟨k3, k4, by simpa using k5, by simpa using k6⟩]
      · refine .inr ⟨rfl, σ.n, b.toNat, _, true, by rw [List.length_replicate], by simp; omega, ?_, by rw [hcl]; exact Nat.le_refl _, ?_⟩
        · rw [Heap.get_push_self, hsz]
        · rw [List.length_replicate]; exact ht
      · simp only [SR, pl_updP]; exact ⟨trivial, _, _, _, rfl⟩
    · cases h
  · cases h
theorem n_append (hev : ∀ x, SR P B pl tb (ev x) (evV x)) (hG : Gam P B F pl tb s env σ) {e : El} {bytes : Nat} {x y : Operand} (h : gn C d (.append e bytes x y) ev s K) : NOk P B F tb (.append e bytes x y) evV env σ K (gtouch d (.append e bytes x y) ev) s pl := by
  have ha := hev x
  simp only [gn] at h
  split at h
  · rename_i k _
    split at h
    · rename_i ys hy
      obtain ⟨cs, ay, capy, hcs, hrows, hvy⟩ := (view_sound hG.leB hG.obj hy (hev y)).sl
      have hok : cs.all cellOk = true := hrows.cellOk
      have hcl := hrows.length KC.rows_len
      split at h
      · rename_i hx
        have hT : gtouch d (.append e bytes x y) ev = d := by simp only [gtouch, hx]
        rw [hT]
        rw [hx] at ha
        simp only [SR] at ha
        split at h
        · rename_i hsz
          simp only [gobl, gimp] at h
          obtain ⟨h1, h⟩ := h
          rw [hsz] at hcs
          have base : vact (.append e bytes x y) evV σ = vappend e bytes σ (.slice none 0 0) ys.length cs := by
            simp only [vact, hvy] at hcs ⊢
            simp only [hcs, hok, if_true, ha]
          by_cases hm : ys = []
          · subst hm
            refine ⟨.slice none 0 0, σ, updP pl d (.slice none 0 0), _, _, by rw [base]; rfl, h, ?_, ?_⟩
            · refine hG.makeF d _ _ hG.le (fun j i _ _ _ => rfl) (.inl ⟨rfl, rfl, rfl⟩) fun i _ hi => by cases hi
            · simp only [SR, pl_updP]; exact ⟨trivial, _, _, _, rfl⟩
          · have hm0 : ys.length ≠ 0 := fun e => hm (List.length_eq_zero_iff.1 e)
            refine ⟨.slice (some ⟨σ.n, 0, none⟩) ys.length ys.length, σ.push (.cells cs e true false), updP pl d (.slice (some ⟨σ.n, 0, none⟩) ys.length ys.length), _, _, ?_, h, hG.pushF d _ _ _ rfl ?_, ?_⟩
            · rw [base]; simp only [vappend]
              rw [if_neg hm0, if_pos (by simpa using h1)]
            · refine .inr ⟨nemp' hm, σ.n, ys.length, cs, false, rfl, Nat.le_refl _, ?_, by omega, ?_⟩
              · rw [Heap.get_push_self, hsz]
              · rw [List.take_of_length_le (by omega)]; exact hrows
            · simp only [SR, pl_updP]; exact ⟨trivial, _, _, _, rfl⟩
        · cases h
      · rename_i o hx
        have hT : gtouch d (.append e bytes x y) ev = o := by simp only [gtouch, hx]
        rw [hT]
        rw [hx] at ha
        simp only [SR] at ha
        have hob := hG.obj o
        split at h
        · rename_i ty k' xs nl ho
          rw [ho] at hob
          have hlive : (oget s.own o).live = true := by rw [ho]; rfl
          split at h
          · rename_i hsz
            obtain ⟨hty, hsz⟩ := hsz
            split at h
            · rename_i xs' hcast
              obtain rfl := castL_kind hcast
              obtain rfl := castL_same hcast
              simp only [gobl, gimp] at h
              obtain ⟨h1, h⟩ := h
              rw [hsz] at hcs
              have base : vact (.append e bytes x y) evV σ = vappend e bytes σ (pl o) ys.length cs := by
                simp only [vact, hvy] at hcs ⊢
                simp only [hcs, hok, if_true, ha.1]
              have he : e = ⟨k'.size, ty⟩ := by cases e; simp only at hty hsz; rw [hty, hsz]
              rcases hob with ⟨rfl, rfl, h3⟩ | ⟨rfl, i, cap, c, t, h3, h4, h5, h6, h7⟩
              ·
                rw [h3] at base
                by_cases hm : ys = []
                · subst hm
                  refine ⟨.slice none 0 0, σ, updP pl o (.slice none 0 0), _, _, by rw [base]; rfl, h, ?_, ?_⟩
                  · refine hG.makeF o _ _ hG.le (fun j i _ _ _ => rfl) (.inl ⟨rfl, rfl, rfl⟩) fun i _ hi => by cases hi
                  · simp only [SR, pl_updP]; exact ⟨trivial, _, _, _, rfl⟩
                · have hm0 : ys.length ≠ 0 := fun e => hm (List.length_eq_zero_iff.1 e)
                  refine ⟨.slice (some ⟨σ.n, 0, none⟩) ys.length ys.length, σ.push (.cells cs e true false), updP pl o (.slice (some ⟨σ.n, 0, none⟩) ys.length ys.length), _, _, ?_, h, hG.pushF o _ _ _ rfl ?_, ?_⟩
                  · rw [base]; simp only [vappend]
                    rw [if_neg hm0, if_pos (by simpa using h1)]
                  · rw [List.nil_append]
                    refine .inr ⟨nemp hm _, σ.n, ys.length, cs, false, rfl, Nat.le_refl _, ?_, by omega, ?_⟩
                    · rw [Heap.get_push_self, he]
                    · rw [List.take_of_length_le (by omega)]; exact hrows
                  · simp only [SR, pl_updP]; exact ⟨trivial, _, _, _, rfl⟩
              · rw [h3] at base
                have k1 : xs'.length * k'.size ≤ cap * k'.size := Nat.mul_le_mul_right _ h4
                have hid : F.get i = none := hG.fresh o i hlive (by rw [h3]; rfl)
                have hoth : ∀ j i', j ≠ o → (oget s.own j).live = true → oid (pl j) = some i' → i' ≠ i := fun j i' hj hl hi e => by
                  subst e; exact hG.sep j o i' hj hl hlive hi (by rw [h3]; rfl)
                have hcond : e = e ∧ xs'.length ≤ cap ∧ 0 + xs'.length * e.sz ≤ c.length := ⟨rfl, h4, by rw [← hsz]; omega⟩
                simp only [vappend, h5] at base
                rw [← he, if_pos hcond] at base
                by_cases hm : ys = []
                · subst hm
                  simp only [List.length_nil, if_true] at base
                  refine ⟨_, σ, updP pl o (pl o), _, _, base, h, ?_, ?_⟩
                  · refine hG.makeF o _ _ hG.le (fun j i _ _ _ => rfl) (.inr ⟨rfl, i, cap, c, t, ?_, ?_, h5, h6, ?_⟩) fun i' _ hi => ?_
                    · rw [h3]; simp
                    · simpa using h4
                    · simpa using h7
                    · rw [h3] at hi; obtain rfl := Option.some.inj hi
                      exact ⟨hid, fun j hj hl e => hoth j _ hj hl e rfl⟩
                  · simp only [SR, pl_updP, h3]; exact ⟨trivial, _, _, _, rfl⟩
                · have hm0 : ys.length ≠ 0 := fun e => hm (List.length_eq_zero_iff.1 e)
                  have hnl : (ys.isEmpty && false) = false := by simp
                  have hrr : Rows (KC B k') (xs' ++ ys) (c.take (xs'.length * k'.size) ++ cs) := h7.append hrows
                  have hrl := hrr.length KC.rows_len
                  rw [if_neg hm0] at base
                  by_cases hroom : xs'.length + ys.length ≤ cap
                  · have hr1 : (xs'.length + ys.length) * k'.size ≤ cap * k'.size := Nat.mul_le_mul_right _ hroom
                    have hr2 : xs'.length * k'.size + ys.length * k'.size ≤ cap * k'.size := by rw [← Nat.add_mul]; exact hr1
                    rw [if_pos hroom, if_pos ⟨trivial, by rw [← hsz]; omega⟩] at base
                    refine ⟨_, _, updP pl o (.slice (some ⟨i, 0, none⟩) (xs'.length + ys.length) cap), _, _, base, h, ?_, ?_⟩
                    · refine hG.makeF o _ _ (hG.le.upd hid _) (fun j i' hj hl hi => Heap.get_upd_ne _ _ (hoth j i' hj hl hi)) (.inr ⟨hnl, i, cap, setL c (0 + xs'.length * e.sz) cs, t, by rw [List.length_append], by rw [List.length_append]; exact hroom, ?_, ?_, ?_⟩) fun i' _ hi => ?_
                      · rw [Heap.get_upd_self _ _ (σ.lt h5), he]
                      · rw [setL_length]; exact h6
                      · have hl1 : 0 + xs'.length * e.sz + cs.length ≤ c.length := by rw [← hsz]; omega
                        rw [setL_split hl1, ← hsz, Nat.zero_add, List.take_left' (by rw [hrl])]
                        exact hrr
                      · obtain rfl := Option.some.inj hi
                        exact ⟨hid, fun j hj hl e => hoth j _ hj hl e rfl⟩
                    · simp only [SR, pl_updP]; exact ⟨trivial, _, _, _, rfl⟩
                  · rw [if_neg hroom, if_pos (by simpa using h1)] at base
                    have hcs2 : ((c.drop 0).take (xs'.length * e.sz) ++ cs) = c.take (xs'.length * k'.size) ++ cs := by rw [List.drop_zero, hsz]
                    cases t with
                    | true =>
                      simp only [if_true] at base
                      rw [hcs2] at base
                      refine ⟨_, _, updP pl o (.slice (some ⟨σ.n, 0, none⟩) (xs'.length + ys.length) (xs'.length + ys.length)), _, _, base, h, hG.pushF o _ _ _ rfl (.inr ⟨hnl, σ.n, xs'.length + ys.length, c.take (xs'.length * k'.size) ++ cs, false, by rw [List.length_append], by rw [List.length_append]; exact Nat.le_refl _, ?_, ?_, ?_⟩), ?_⟩
                      · rw [Heap.get_push_self, he]
                      · rw [hrl, List.length_append]; exact Nat.le_refl _
                      · rw [List.take_of_length_le (by rw [hrl]; exact Nat.le_refl _)]; exact hrr
                      · simp only [SR, pl_updP]; exact ⟨trivial, _, _, _, rfl⟩
                    | false =>
                      simp only [Bool.false_eq_true, if_false, if_true] at base
                      rw [hcs2] at base
                      have hn : (σ.kill i).n = σ.n := rfl
                      refine ⟨_, _, updP pl o (.slice (some ⟨σ.n, 0, none⟩) (xs'.length + ys.length) (xs'.length + ys.length)), _, _, base, h, ?_, ?_⟩
                      · refine hG.makeF o _ _ ((hG.le.kill hid).push _) (fun j i' hj hl hi => ?_) (.inr ⟨hnl, σ.n, xs'.length + ys.length, c.take (xs'.length * k'.size) ++ cs, false, by rw [List.length_append], by rw [List.length_append]; exact Nat.le_refl _, ?_, ?_, ?_⟩) fun i' _ hi => ?_
                        · rw [Heap.get_push_lt _ _ (by rw [hn]; exact (hG.obj j).id_lt hl hi)]
                          exact Heap.get_kill_ne _ (hoth j i' hj hl hi)
                        · rw [← hn, Heap.get_push_self, he]
                        · rw [hrl, List.length_append]; exact Nat.le_refl _
                        · rw [List.take_of_length_le (by rw [hrl]; exact Nat.le_refl _)]; exact hrr
                        · obtain rfl := Option.some.inj hi
                          exact ⟨hG.le.fresh, fun j _ hl e => Nat.lt_irrefl σ.n ((hG.obj j).id_lt hl e)⟩
                      · simp only [SR, pl_updP]; exact ⟨trivial, _, _, _, rfl⟩
            · cases h
          · cases h
        · cases h
      · cases h
    · cases h
  · cases h
theorem n_store (hev : ∀ x, SR P B pl tb (ev x) (evV x)) (hG : Gam P B F pl tb s env σ) {size : Nat} {a x : Operand} (h : gn C d (.store size a x) ev s K) : NOk P B F tb (.store size a x) evV env σ K (gtouch d (.store size a x) ev) s pl := by
  have ha := hev a
  simp only [gn] at h
  split at h
  · rename_i o off vs h1 h2
    have hT : gtouch d (.store size a x) ev = o := by simp only [gtouch, h1]
    rw [hT]
    obtain ⟨us, h3, h4, h5⟩ := scells_sound h2 (hev x)
    rw [h1] at ha
    simp only [SR] at ha
    obtain ⟨b, h6, h7⟩ := ha
    have hob := hG.obj o
    split at h
    · rename_i l ho
      rw [ho] at hob
      have hlive : (oget s.own o).live = true := by rw [ho]; rfl
      obtain ⟨i, c, e, t, h8, h9, h10⟩ := hob
      rw [h6] at h8
      obtain rfl := (by simpa using h8 : b = i)
      split at h
      · rename_i hc
        have hid : F.get b = none := hG.fresh o b hlive (by rw [h6]; rfl)
        have hoth : ∀ j i', j ≠ o → (oget s.own j).live = true → oid (pl j) = some i' → i' ≠ b := fun j i' hj hl hi e => by
          subst e; exact hG.sep j o i' hj hl hlive hi (by rw [h6]; rfl)
        refine ⟨undef, σ.upd b (.cells (setL c off us) e true t), pl, _, _, ?_, h, hG.writeF o _ (hG.le.upd hid _) hlive (fun j i' hj hl hi => Heap.get_upd_ne _ _ (hoth j i' hj hl hi)) ?_, by simp [SR]⟩
        · simp only [vact, h7, h3, h9]
          rw [if_pos ⟨trivial, by rw [← h4.length]; exact hc.1, by rw [← h10.length]; exact hc.2, h5⟩]
        · exact ⟨b, _, e, t, h6, Heap.get_upd_self _ _ (σ.lt h9), setS_sound h10 h4⟩
      · cases h
    · cases h
  · rename_i o i off sz vs h1 h2
    have hT : gtouch d (.store size a x) ev = o := by simp only [gtouch, h1]
    rw [hT]
    obtain ⟨us, h3, h4, h5⟩ := scells_sound h2 (hev x)
    rw [h1] at ha
    simp only [SR] at ha
    obtain ⟨b, len, cap, h6, h7, h8, h9⟩ := ha
    have hob := hG.obj o
    split at h
    · rename_i ty k xs nl ho
      rw [ho] at hob
      have hlive : (oget s.own o).live = true := by rw [ho]; rfl
      rcases hob with ⟨_, _, k3⟩ | ⟨rfl, i', cap', c, t, k3, k4, k5, k6, k7⟩
      · rw [h6] at k3; cases k3
      · rw [h6] at k3
        obtain ⟨rfl, rfl, rfl⟩ := (by simpa using k3 : b = i' ∧ len = xs.length ∧ cap = cap')
        have hid : F.get b = none := hG.fresh o b hlive (by rw [h6]; rfl)
        have hoth : ∀ j i', j ≠ o → (oget s.own j).live = true → oid (pl j) = some i' → i' ≠ b := fun j i' hj hl hi e => by
          subst e; exact hG.sep j o i' hj hl hlive hi (by rw [h6]; rfl)
        have hi : i.toNat < xs.length := by omega
        have hsz : (i.toNat + 1) * k.size ≤ xs.length * k.size := Nat.mul_le_mul_right _ hi
        rw [Nat.add_mul, Nat.one_mul] at hsz
        have k8 := Nat.mul_le_mul_right k.size k4
        have fin : ∀ (y : k.T) (us : List Value) (off' : Nat), off' + us.length ≤ k.size → KC B k y (setL (((c.take (xs.length * k.size)).drop (i.toNat * k.size)).take k.size) off' us) →
            Gam P B F pl tb ⟨s.env, oset s.own o (.lst ty k (xs.set i.toNat y) false), s.nx⟩ env (σ.upd b (.cells (setL c (i.toNat * k.size + off') us) ⟨k.size, ty⟩ true t)) ∧ Fr o s ⟨s.env, oset s.own o (.lst ty k (xs.set i.toNat y) false), s.nx⟩ pl pl σ (σ.upd b (.cells (setL c (i.toNat * k.size + off') us) ⟨k.size, ty⟩ true t)) := by
          intro y us off' hoff' hk
          refine hG.writeF o _ (hG.le.upd hid _) hlive (fun j i' hj hl hi => Heap.get_upd_ne _ _ (hoth j i' hj hl hi)) (.inr ⟨rfl, b, cap, setL c (i.toNat * k.size + off') us, t, by rw [h6]; simp, by simpa using k4, Heap.get_upd_self _ _ (σ.lt k5), by rw [setL_length]; exact k6, ?_⟩)
          have hset := k7.set KC.rows_len hi hk
          rw [List.length_set]
          rw [setL_row us c (m := xs.length * k.size) (p := i.toNat * k.size) (n := k.size) (off := off') hoff' hsz (by omega)]; exact hset
        have hrow := k7.at KC.rows_len hi
        have hrl := KC.length hrow
        split at h
        · rename_i hc
          obtain ⟨rfl, rfl, rfl⟩ := hc
          split at h
          · rename_i y hy
            have hk := deck_sound hy h4
            have hl := KC.length hk
            refine ⟨undef, σ.upd b (.cells (setL c (i.toNat * k.size + 0) us) ⟨k.size, ty⟩ true t), pl, _, _, ?_, h, fin y us 0 (by omega) ?_, by simp [SR]⟩
            · simp only [vact, h9, h3, k5]
              rw [if_pos ⟨trivial, hl, by omega, h5⟩]
            · rw [setL_split (by omega), Nat.zero_add, List.take_zero, List.nil_append, List.drop_of_length_le (by omega), List.append_nil]; exact hk
          · cases h
        · split at h
          · rename_i hc
            obtain ⟨rfl, hv1, rfl, hoff⟩ := hc
            split at h
            · rename_i y hy
              obtain ⟨v0, rfl⟩ : ∃ v0, vs = [v0] := by
                cases vs with
                | nil => cases hv1
                | cons a r => cases r with
                  | nil => exact ⟨a, rfl⟩
                  | cons _ _ => simp at hv1
              obtain ⟨u0, rfl, hu0⟩ := h4.one
              have hx : xs.getD i.toNat k.dflt = xs[i.toNat] := by simp [List.getD_eq_getElem?_getD, List.getElem?_eq_getElem hi]
              rw [hx] at hy
              refine ⟨undef, σ.upd b (.cells (setL c (i.toNat * k.size + off) [u0]) ⟨k.size, ty⟩ true t), pl, _, _, ?_, h, fin y [u0] off (by simp; omega) (kput_sound hy hrow hu0 hoff), by simp [SR]⟩
              simp only [vact, h9, h3, k5]
              rw [if_pos ⟨trivial, rfl, by omega, h5⟩]
            · cases h
          · cases h
    · cases h
  · cases h
theorem n_mapUpdate (hev : ∀ x, SR P B pl tb (ev x) (evV x)) (hG : Gam P B F pl tb s env σ) {mk : MK} {m kx vx : Operand} (h : gn C d (.ext (.mapUpdate mk m kx vx)) ev s K) : NOk P B F tb (.ext (.mapUpdate mk m kx vx)) evV env σ K (gtouch d (.ext (.mapUpdate mk m kx vx)) ev) s pl := by
  have ha := hev m
  simp only [gn] at h
  split at h
  · rename_i o h1
    have hT : gtouch d (.ext (.mapUpdate mk m kx vx)) ev = o := by simp only [gtouch, h1]
    rw [hT]
    rw [h1] at ha
    simp only [SR] at ha
    have hob := hG.obj o
    split at h
    · rename_i kk vk l ho
      rw [ho] at hob
      have hlive : (oget s.own o).live = true := by rw [ho]; rfl
      obtain ⟨id, es, clock, h2, h3, h4⟩ := hob
      split at h
      · rename_i hc
        obtain ⟨hmk, hone⟩ := hc
        split at h
        · rename_i key x hkey hx
          have hk := deck_sound hkey (show SRs P B pl tb [ev kx] [evV kx] by simp only [SRs]; exact ⟨_, [], rfl, hev kx, rfl⟩)
          have hv := deck_sound hx (show SRs P B pl tb [ev vx] [evV vx] by simp only [SRs]; exact ⟨_, [], rfl, hev vx, rfl⟩)
          have hid : F.get id = none := hG.fresh o id hlive (by rw [h2]; rfl)
          have hoth : ∀ j i', j ≠ o → (oget s.own j).live = true → oid (pl j) = some i' → i' ≠ id := fun j i' hj hl hi e => by
            subst e; exact hG.sep j o i' hj hl hlive hi (by rw [h2]; rfl)
          have hmap : σ.mapAt id = some (es, clock, true) := by simp [Heap.mapAt, h3]
          refine ⟨undef, σ.upd id (.obj (.map (mapPut (evV kx) (evV vx) clock es).1 (mapPut (evV kx) (evV vx) clock es).2) true), pl, _, _, ?_, h, hG.writeF o _ (hG.le.upd hid _) hlive (fun j i' hj hl hi => Heap.get_upd_ne _ _ (hoth j i' hj hl hi)) ?_, by simp [SR]⟩
          · simp only [vact, xact, ha.1, h2, hmap]
            rw [if_pos (by rw [mkOk_key hmk hk, h4.keys hmk]; rfl)]
          · exact ⟨id, _, _, h2, Heap.get_upd_self _ _ (σ.lt h3), aput_sound hmk hk hv h4⟩
        · cases h
      · cases h
    · cases h
  · cases h
theorem copy_core (hG : Gam P B F pl tb s env σ) {o ty : Nat} {k : Kind} {xs ys : List k.T} {nl : Bool} (ho : oget s.own o = .lst ty k xs nl) {size lo n : Nat} (hsz : k.size = size) (hlo : lo + n ≤ xs.length) {dv sv : Value} {a b : Operand} (hda : evV a = dv) (hsa : evV b = sv)
    (hs : SlRel σ k.size (KC B k) ys sv) (hd : (n = 0 ∧ ∃ c, dv = .slice none 0 c ∨ ∃ x, dv = .slice x 0 c) ∨ ∃ i len cap cap', pl o = .slice (some ⟨i, 0, none⟩) len cap ∧ dv = .slice (some ⟨i, lo * size, none⟩) n cap')
    {s' : St} (hs' : s' = ⟨s.env, oset s.own o (.lst ty k (xs.take lo ++ (ys.take n ++ xs.drop (lo + Nat.min ys.length n))) nl), s.nx⟩) (h : K (.val (.i .i64) (Nat.min ys.length n : Nat)) s') : NOk P B F tb (.ext (.copy size a b)) evV env σ K o s pl := by
  subst hs'
  have hlive : (oget s.own o).live = true := by rw [ho]; rfl
  have hob := hG.obj o
  rw [ho] at hob
  by_cases hm : Nat.min ys.length n = 0
  · have hcont : xs.take lo ++ (ys.take n ++ xs.drop (lo + Nat.min ys.length n)) = xs := by
      rw [hm, Nat.add_zero]
      have : ys.take n = [] := by
        have : min ys.length n = 0 := hm
        rcases Nat.le_total ys.length n with h | h
        · have : ys.length = 0 := by omega
          rw [List.length_eq_zero_iff.1 this]; simp
        · have : n = 0 := by omega
          rw [this]; rfl
      rw [this, List.nil_append, List.take_append_drop]
    refine ⟨.int .i64 0, σ, pl, _, _, ?_, h, ?_, ?_⟩
    · obtain ⟨aa, cc, e⟩ := hs.len
      have hdn : ∃ x c, dv = .slice x n c := by
        rcases hd with ⟨rfl, c, hd | ⟨x, hd⟩⟩ | ⟨i, len, cap, cap', _, hd⟩
        · exact ⟨_, _, hd⟩
        · exact ⟨_, _, hd⟩
        · exact ⟨_, _, hd⟩
      obtain ⟨x, c, hdn⟩ := hdn
      simp only [vact, xact, hda, hsa, hdn, e]
      rw [if_pos (show min ys.length n = 0 from hm)]
    · rw [hcont]
      exact hG.writeF o _ hG.le hlive (fun _ _ _ _ _ => rfl) hob
    · rw [hm]; exact sr_int _ _
  · have hm' : 0 < min ys.length n := Nat.pos_of_ne_zero hm
    have hmn : Nat.min ys.length n ≤ n := Nat.min_le_right _ _
    have hmy : Nat.min ys.length n ≤ ys.length := Nat.min_le_left _ _
    rcases hd with ⟨rfl, _⟩ | ⟨i, len, cap, cap', h1, h2⟩
    · simp at hm'
    rcases hs with ⟨rfl, _⟩ | ⟨si, so, scap, sc, se, swr, st, h3, h4, h5, h6, h7, h8⟩
    · simp at hm'
    rcases hob with ⟨_, _, h9⟩ | ⟨rfl, i', cap1, c, t, h9, h10, h11, h12, h13⟩
    · rw [h1] at h9; cases h9
    rw [h1] at h9
    obtain ⟨rfl, rfl, rfl⟩ := (by simpa using h9 : i = i' ∧ len = xs.length ∧ cap = cap1)
    have hid : F.get i = none := hG.fresh o i hlive (by rw [h1]; rfl)
    have hoth : ∀ j i', j ≠ o → (oget s.own j).live = true → oid (pl j) = some i' → i' ≠ i := fun j i' hj hl hi e => by
      subst e; exact hG.sep j o i' hj hl hlive hi (by rw [h1]; rfl)
    have hrow := h8.take KC.rows_len (Nat.min ys.length n)
    have hle1 : Nat.min ys.length n * k.size ≤ ys.length * k.size := Nat.mul_le_mul_right _ (Nat.min_le_left _ _)
    rw [List.take_take, Nat.min_eq_left hle1] at hrow
    have hok := hrow.cellOk
    have hlen : ((sc.drop so).take (Nat.min ys.length n * k.size)).length = Nat.min ys.length n * k.size := by
      rw [hrow.length KC.rows_len, show (ys.take (Nat.min ys.length n)).length = Nat.min ys.length n by rw [List.length_take]; exact Nat.min_eq_left (Nat.min_le_left _ _)]
    have hsl : σ.sl size (.slice (some ⟨si, so, none⟩) (min ys.length n) scap) = some ((sc.drop so).take (Nat.min ys.length n * k.size)) := by
      simp only [Heap.sl, h5]
      rw [if_pos ⟨by rw [h6, hsz], by rw [← hsz]; have : min ys.length n * k.size ≤ ys.length * k.size := hle1; omega⟩, ← hsz]
    have hin : lo * k.size + Nat.min ys.length n * k.size ≤ xs.length * k.size := by
      rw [← Nat.add_mul]; exact Nat.mul_le_mul_right _ (by omega)
    have hcc := Nat.mul_le_mul_right k.size h10
    refine ⟨.int .i64 (Nat.min ys.length n : Nat), σ.upd i (.cells (setL c (lo * k.size) ((sc.drop so).take (Nat.min ys.length n * k.size))) ⟨k.size, ty⟩ true t), pl, _, _, ?_, h, ?_, sr_int _ _⟩
    · simp only [vact, xact, hda, hsa, h2, h3]
      rw [if_neg (show ¬ min ys.length n = 0 from hm)]
      simp only [hsl, h11]
      rw [if_pos ⟨trivial, hsz, by rw [hlen, ← hsz]; omega, hok⟩, ← hsz]
    · have htot : (xs.take lo ++ (ys.take n ++ xs.drop (lo + Nat.min ys.length n))).length = xs.length := by
        have : Nat.min ys.length n = min n ys.length := Nat.min_comm _ _
        simp only [List.length_append, List.length_take, List.length_drop]; omega
      refine hG.writeF o _ (hG.le.upd hid _) hlive (fun j i' hj hl hi => Heap.get_upd_ne _ _ (hoth j i' hj hl hi)) (.inr ⟨rfl, i, cap, _, t, by rw [htot]; exact h1, by rw [htot]; exact h10, Heap.get_upd_self _ _ (σ.lt h11), by rw [setL_length]; exact h12, ?_⟩)
      rw [htot]
      have e1 := setL_row ((sc.drop so).take (Nat.min ys.length n * k.size)) c (m := xs.length * k.size) (p := lo * k.size) (n := Nat.min ys.length n * k.size) (off := 0) (by omega) hin (by omega)
      rw [Nat.add_zero] at e1
      rw [e1]
      have e2 : setL (((c.take (xs.length * k.size)).drop (lo * k.size)).take (Nat.min ys.length n * k.size)) 0 ((sc.drop so).take (Nat.min ys.length n * k.size)) = (sc.drop so).take (Nat.min ys.length n * k.size) := by
        have l1 : (((c.take (xs.length * k.size)).drop (lo * k.size)).take (Nat.min ys.length n * k.size)).length = Nat.min ys.length n * k.size := by simp; omega
        generalize ((c.take (xs.length * k.size)).drop (lo * k.size)).take (Nat.min ys.length n * k.size) = row at l1
        generalize (sc.drop so).take (Nat.min ys.length n * k.size) = us at hlen
        rw [setL_split (by omega), Nat.zero_add, List.take_zero, List.nil_append, List.drop_of_length_le (by omega), List.append_nil]
      rw [e2, List.append_assoc]
      have e3 : ys.take n = ys.take (Nat.min ys.length n) := by
        rcases Nat.le_total ys.length n with h | h
        · rw [show Nat.min ys.length n = ys.length from Nat.min_eq_left h, List.take_of_length_le h, List.take_of_length_le (Nat.le_refl _)]
        · rw [show Nat.min ys.length n = n from Nat.min_eq_right h]
      rw [e3]
      have hd := h13.drop KC.rows_len (lo + Nat.min ys.length n)
      rw [Nat.add_mul] at hd
      exact (h13.take KC.rows_len lo).append (hrow.append hd)
theorem n_copy (hev : ∀ x, SR P B pl tb (ev x) (evV x)) (hG : Gam P B F pl tb s env σ) {size : Nat} {a b : Operand} (h : gn C d (.ext (.copy size a b)) ev s K) : NOk P B F tb (.ext (.copy size a b)) evV env σ K (gtouch d (.ext (.copy size a b)) ev) s pl := by
  have ha := hev a
  simp only [gn] at h
  split at h
  · rename_i o h1
    have hT : gtouch d (.ext (.copy size a b)) ev = o := by simp only [gtouch, h1]
    rw [hT]
    rw [h1] at ha
    simp only [SR] at ha
    split at h
    · rename_i ty k xs nl ho
      split at h
      · rename_i hsz
        split at h
        · rename_i ys hy
          have hs := view_sound hG.leB hG.obj hy (hev b)
          have hob := hG.obj o
          rw [ho] at hob
          refine copy_core hG ho (lo := 0) (n := xs.length) hsz (by omega) ha.1 rfl hs ?_ ?_ h
          · rcases hob with ⟨_, rfl, h3⟩ | ⟨_, i, cap, c, t, h3, _⟩
            · exact .inl ⟨rfl, 0, .inl h3⟩
            · exact .inr ⟨i, _, cap, cap, h3, by rw [h3]; simp⟩
          · have : xs.drop ys.length = xs.drop (0 + Nat.min ys.length xs.length) := by
              rcases Nat.le_total ys.length xs.length with h | h
              · rw [show Nat.min ys.length xs.length = ys.length from Nat.min_eq_left h, Nat.zero_add]
              · rw [show Nat.min ys.length xs.length = xs.length from Nat.min_eq_right h, Nat.zero_add, List.drop_of_length_le h, List.drop_of_length_le (Nat.le_refl _)]
            rw [this]; rfl
        · cases h
      · cases h
    · cases h
  · rename_i o lo n sz h1
    have hT : gtouch d (.ext (.copy size a b)) ev = o := by simp only [gtouch, h1]
    rw [hT]
    rw [h1] at ha
    simp only [SR] at ha
    split at h
    · rename_i ty k xs nl ho
      split at h
      · rename_i hsz
        split at h
        · rename_i ys hy
          have hs := view_sound hG.leB hG.obj hy (hev b)
          have hob := hG.obj o
          rw [ho] at hob
          rcases ha with ⟨rfl, rfl, h2, h3⟩ | ⟨i, len, cap, cap', h2, h3, h4, h5⟩
          · refine copy_core hG ho (lo := 0) (n := 0) hsz.1 (by omega) h2 rfl hs (.inl ⟨rfl, 0, .inl rfl⟩) rfl h
          · rcases hob with ⟨_, _, h6⟩ | ⟨_, i', cap1, c, t, h6, _⟩
            · rw [h2] at h6; cases h6
            · rw [h2] at h6
              obtain ⟨rfl, rfl, rfl⟩ := (by simpa using h6 : i = i' ∧ len = xs.length ∧ cap = cap1)
              exact copy_core hG ho (lo := lo) (n := n) hsz.1 h3 h5 rfl hs (.inr ⟨i, _, cap, cap', h2, by rw [hsz.2]⟩) rfl h
        · cases h
      · cases h
    · cases h
  · cases h
end
theorem n_makeMap (hG : Gam P B F pl tb s env σ) (d : Nat) (kk vk : Kind) : Gam P B F (updP pl d (.map (some σ.n))) tb (s.make d (.map kk vk [])) env (σ.push (.obj (.map [] 0) true)) ∧ SR P B (updP pl d (.map (some σ.n))) tb (.map d) (.map (some σ.n)) := by
  refine ⟨hG.push d _ _ _ rfl ⟨σ.n, [], 0, rfl, Heap.get_push_self _ _, rfl⟩, ?_⟩
  simp only [SR, pl_updP]; exact ⟨trivial, _, rfl⟩
end
end Go.V

namespace Go.V
open Go
def Loose (ρ1 ρ2 : Plc) : Prop := ∀ i p2, ρ2 i = some p2 → ∃ p1, ρ1 i = some p1 ∧ p2.blk = p1.blk ∧ p2.shift = p1.shift ∧ p2.ext = p1.ext ∧ p2.esz = p1.esz ∧ (p2.tight = true → p1.tight = true)
theorem VRel.loose {ρ1 ρ2 : Plc} {n : Nat} (hl : Loose ρ1 ρ2) {v c : Value} (h : VRel ρ1 n v c) : VRel ρ2 n v c := by
  induction h with
  | poison c => exact .poison c
  | bool b => exact .bool b
  | int k x => exact .int k x
  | string s => exact .string s
  | nilPtr => exact .nilPtr
  | nilSl => exact .nilSl
  | nilMap => exact .nilMap
  | nilFunc => exact .nilFunc
  | nilIface => exact .nilIface
  | ptr i o a hi h =>
    refine .ptr i o a hi fun p hp => ?_
    obtain ⟨p1, h1, h2, h3, _⟩ := hl i p hp
    rw [h2, h3]; exact h p1 h1
  | sl i o len cap a cap' hi h =>
    refine .sl i o len cap a cap' hi fun p hp => ?_
    obtain ⟨p1, h1, h2, h3, h4, h5, h6⟩ := hl i p hp
    obtain ⟨k1, k2, k3⟩ := h p1 h1
    rw [h2, h3, h4, h5]
    exact ⟨k1, fun ht => k2 (h6 ht), k3⟩
  | map i r hi h =>
    refine .map i r hi fun p hp => ?_
    obtain ⟨p1, h1, h2, _⟩ := hl i p hp
    rw [h2]; exact h p1 h1
  | yield i r hi h =>
    refine .yield i r hi fun p hp => ?_
    obtain ⟨p1, h1, h2, _⟩ := hl i p hp
    rw [h2]; exact h p1 h1
  | iface t v c _ ih => exact .iface t v c ih
  | func fn fs gs cs ds hf hc _ _ ih1 ih2 => exact .func fn fs gs cs ds hf hc ih1 ih2
  | agg cs ds hc _ ih => exact .agg cs ds hc ih
  | tuple cs ds hc _ ih => exact .tuple cs ds hc ih
theorem LRel.loose {ρ1 ρ2 : Plc} {n : Nat} (hl : Loose ρ1 ρ2) {v c : List Value} (h : LRel ρ1 n v c) : LRel ρ2 n v c := ⟨h.1, fun i a b h1 h2 => (h.2 i a b h1 h2).loose hl⟩
theorem ORel.loose {ρ1 ρ2 : Plc} {n : Nat} (hl : Loose ρ1 ρ2) {o : VObj} {O : Obj} (h : ORel ρ1 n o O) : ORel ρ2 n o O := by
  cases o with
  | map es clock =>
    obtain ⟨entries, h1, h2, h3⟩ := h
    exact ⟨entries, h1, h2, fun k kv hk => let ⟨e, he, h4, h5, hv⟩ := h3 k kv hk; ⟨e, he, h4, h5, hv.loose hl⟩⟩
  | iter m since seen last => obtain ⟨rm, h1, h2⟩ := h; exact ⟨rm, h1, h2.loose hl⟩
  | lp env r st pend => exact ⟨h.1, h.2.loose hl⟩
inductive Weak (n0 : Nat → Prop) : Value → Value → Prop
  | refl (v : Value) : Weak n0 v v
  | sl (i len cap : Nat) (hi : n0 i) (hc : len ≤ cap) : Weak n0 (.slice (some ⟨i, 0, none⟩) len cap) (.slice (some ⟨i, 0, none⟩) len len)
  | agg (cs ds : List Value) (hc : cs.length = ds.length) (h : ∀ (i : Nat) (a b : Value), cs[i]? = some a → ds[i]? = some b → Weak n0 a b) : Weak n0 (.agg cs.toArray) (.agg ds.toArray)
  | tuple (cs ds : List Value) (hc : cs.length = ds.length) (h : ∀ (i : Nat) (a b : Value), cs[i]? = some a → ds[i]? = some b → Weak n0 a b) : Weak n0 (.tuple cs.toArray) (.tuple ds.toArray)
theorem Weak.rel {ρ : Plc} {n : Nat} {n0 : Nat → Prop} (hρ : ∀ i p, n0 i → ρ i = some p → p.tight = false) {v v' : Value} (h : Weak n0 v v') : ∀ {c : Value}, VRel ρ n v c → VRel ρ n v' c := by
  induction h with
  | refl v => exact fun h => h
  | sl i len cap hi hc =>
    intro c h
    cases h with
    | sl _ _ _ _ a cap' hi' h =>
      refine .sl _ _ _ _ _ _ hi' fun p hp => ?_
      obtain ⟨k1, k2, o', k3, k4, k5⟩ := h p hp
      refine ⟨by omega, (fun ht => by rw [hρ i p hi hp] at ht; cases ht), o', k3, k4, ?_⟩
      rcases k5 with k5 | k5
      · exact .inl k5
      · exact .inr ⟨k5.1, k5.1⟩
  | agg cs ds hc h ih =>
    intro c hr
    cases hr with
    | agg _ es hc' hr =>
      refine .agg _ _ (by simpa [hc] using hc') fun i h1 h2 => ?_
      have l1 : i < cs.length := by simpa [hc] using h1
      have l2 : i < ds.length := by simpa using h1
      have := ih i cs[i] ds[i] (List.getElem?_eq_getElem l1) (List.getElem?_eq_getElem l2) (hr i (by simpa using l1) h2)
      simpa using this
  | tuple cs ds hc h ih =>
    intro c hr
    cases hr with
    | tuple _ es hc' hr =>
      refine .tuple _ _ (by simpa [hc] using hc') fun i h1 h2 => ?_
      have l1 : i < cs.length := by simpa [hc] using h1
      have l2 : i < ds.length := by simpa using h1
      have := ih i cs[i] ds[i] (List.getElem?_eq_getElem l1) (List.getElem?_eq_getElem l2) (hr i (by simpa using l1) h2)
      simpa using this
theorem DropTo.trans {σ0 σ1 σ2 σ3 : Heap} {v1 v2 v3 : Value} (h : DropTo σ0 v1 σ1 v2 σ2) (k : DropTo σ0 v2 σ2 v3 σ3) : DropTo σ0 v1 σ1 v3 σ3 := by
  intro ρ0 w0 ρ w c hH0 hE hH hv
  obtain ⟨ρ', hv', hH', hE'⟩ := h ρ0 w0 ρ w c hH0 hE hH hv
  exact k ρ0 w0 ρ' w c hH0 hE' hH' hv'
theorem DropTo.weaken {σ0 σ1 σ2 : Heap} {v v' : Value} (S : Nat → Bool) (hS : ∀ i, S i = true → σ0.n ≤ i) (hn : σ2.n = σ1.n) (h0 : σ0.n ≤ σ1.n) (h1 : ∀ i, S i = false → σ2.get i = σ1.get i)
    (h2 : ∀ i, S i = true → ∃ c e wr t m, σ1.get i = some (.cells c e wr t) ∧ σ2.get i = some (.cells (c.take m) e wr false)) (hv : Weak (fun i => S i = true) v v') : DropTo σ0 v σ1 v' σ2 := by
  intro ρ0 w0 ρ w c hH0 hE hH hvc
  let ρ' : Plc := fun i => if S i = false then ρ i else (ρ i).map fun p => { p with tight := false }
  have hl : Loose ρ ρ' := fun i p2 hp => by
    change (if S i = false then ρ i else (ρ i).map fun p => { p with tight := false }) = some p2 at hp
    by_cases hi : S i = false
    · rw [if_pos hi] at hp; exact ⟨p2, hp, rfl, rfl, rfl, rfl, fun h => h⟩
    · rw [if_neg hi, Option.map_eq_some_iff] at hp
      obtain ⟨p1, hp1, rfl⟩ := hp
      exact ⟨p1, hp1, rfl, rfl, rfl, rfl, fun h => by cases h⟩
  have hback : ∀ i p2, ρ' i = some p2 → ∃ p1, ρ i = some p1 ∧ p2.blk = p1.blk ∧ p2.ext = p1.ext := fun i p2 hp => by
    obtain ⟨p1, k1, k2, k3, k4, _⟩ := hl i p2 hp; exact ⟨p1, k1, k2, k4⟩
  have hwr : ∀ i b, σ2.get i = some b → ∃ b1, σ1.get i = some b1 ∧ b.wr = b1.wr := fun i b hb => by
    by_cases hi : S i = false
    · rw [h1 i hi] at hb; exact ⟨b, hb, rfl⟩
    · obtain ⟨c, e, wr, t, m, k1, k2⟩ := h2 i (by simpa using hi)
      rw [k2] at hb; obtain rfl := Option.some.inj hb; exact ⟨_, k1, rfl⟩
  refine ⟨ρ', ?_, ⟨fun i b hb => ?_, fun i hi => ?_, fun i p hp => ?_, fun i j p q b hij hp hq hb hw hx => ?_⟩, ⟨hE.os, hE.tape, hE.output, hE.size, hE.keep, ?_, by omega, fun i hi p hp => ?_⟩⟩
  · rw [hn]
    refine hv.rel (fun i p hi hp => ?_) (hvc.loose hl)
    have : ¬ S i = false := by simp [hi]
    change (if S i = false then ρ i else (ρ i).map fun p => { p with tight := false }) = some p at hp
    rw [if_neg this, Option.map_eq_some_iff] at hp
    obtain ⟨p1, _, rfl⟩ := hp; rfl
  · by_cases hi : S i = false
    · rw [h1 i hi] at hb
      obtain ⟨p, hp, hB⟩ := hH.live i b hb
      refine ⟨p, by simp only [ρ', hi, if_true]; exact hp, ?_⟩
      rw [hn]
      cases b with
      | cells c e wr t =>
        obtain ⟨k1, k2, k3, k4, k5, k6⟩ := hB
        exact ⟨k1, k2, k3, k4, fun k v hk => let ⟨u, a1, a2⟩ := k5 k v hk; ⟨u, a1, a2.loose hl⟩, k6⟩
      | obj o wr =>
        obtain ⟨k1, O, k2, k3⟩ := hB
        exact ⟨k1, O, k2, k3.loose hl⟩
    · obtain ⟨c, e, wr, t, m, k1, k2⟩ := h2 i (by simpa using hi)
      rw [k2] at hb; obtain rfl := Option.some.inj hb
      obtain ⟨p, hp, hB⟩ := hH.live i _ k1
      obtain ⟨a1, a2, a3, a4, a5, a6⟩ := hB
      refine ⟨{ p with tight := false }, by simp [ρ', hi, hp], a1, rfl, by simp; omega, a4, fun k v hk => ?_, fun hwr => ⟨(fun h => by cases h), (a6 hwr).2⟩⟩
      rw [List.getElem?_take] at hk
      split at hk
      · obtain ⟨u, b1, b2⟩ := a5 k v hk
        rw [hn]; exact ⟨u, b1, b2.loose hl⟩
      · cases hk
  · have hd : σ1.get i = none := by
      by_cases hi' : S i = false
      · rw [← h1 i hi']; exact hi
      · obtain ⟨c, e, wr, t, m, k1, k2⟩ := h2 i (by simpa using hi')
        rw [k2] at hi; cases hi
    have := hH.dead i hd
    simp only [ρ', this]; split <;> rfl
  · obtain ⟨p1, k1, k2, _⟩ := hback i p hp
    rw [k2]; exact hH.lt i p1 k1
  · obtain ⟨p1, k1, k2, k3⟩ := hback i p hp
    obtain ⟨q1, k4, k5, k6⟩ := hback j q hq
    obtain ⟨b1, k7, k8⟩ := hwr i b hb
    rw [k2, k5]; exact hH.sep i j p1 q1 b1 hij k1 k4 k7 (by rw [← k8]; exact hw) (by rw [← k6]; exact hx)
  · rintro B hB ⟨i, p, b, hp, hb, hw, rfl⟩
    obtain ⟨p1, k1, k2, _⟩ := hback i p hp
    obtain ⟨b1, k7, k8⟩ := hwr i b hb
    exact hE.wr _ hB ⟨i, p1, b1, k1, k7, by rw [← k8]; exact hw, k2.symm⟩
  · have : S i = false := by
      cases hs : S i with
      | false => rfl
      | true => have := hS i hs; omega
    simp only [ρ', this, if_true] at hp; exact hE.pl i hi p hp
end Go.V

namespace Go.V
open Go
def noPl : Nat → Value := fun _ => poison
def noTb : Nat → Option Bool := fun _ => none
def hNil : Heap := ⟨fun _ => none, 0, fun _ _ => rfl⟩
theorem empty_le (B : Heap) : hNil.Le B := ⟨Nat.zero_le _, fun i b h => by cases h⟩
section
variable {P : Program}
theorem KC.flat {h h' : Heap} : ∀ {k : Kind} {x : k.T} {cs : List Value}, k.flat = true → KC h k x cs → KC h' k x cs
  | .i _, _, _, _, e | .bo, _, _, _, e | .st, _, _, _, e => e
  | .list _, _, _, f, _ => by cases f
  | .pair a b, x, cs, f, e => by
    simp only [Kind.flat, Bool.and_eq_true] at f
    obtain ⟨c1, c2, hc, h1, h2⟩ := e
    exact ⟨c1, c2, hc, KC.flat f.1 h1, KC.flat f.2 h2⟩
mutual
theorem SR.retd {B B' : Heap} {pl pl' : Nat → Value} {tb tb' : Nat → Option Bool} {n : Nat} (hp : ∀ j, j < n → pl' j = pl j) :
    ∀ (s : SV) (v : Value), s.ret n = true → SR P B pl tb s v → SR P B' pl' tb' s v
  | .any, _, h, _ | .bid _ _, _, h, _ | .grd _ _, _, h, _ | .sub _ _ _ _, _, h, _ | .elp _ _ _ _, _, h, _ | .rop _ _ _ _, _, h, _ | .cp _ _, _, h, _ | .fn _ _ _, _, h, _ | .pf _ _ _ _, _, h, _ => by cases h
  | .val k x, v, h, hs => by simp only [SR] at hs ⊢; exact KC.flat h hs
  | .nilS, v, _, hs | .nilP, v, _, hs | .nilM, v, _, hs | .nilF, v, _, hs => by simp only [SR] at hs ⊢; exact hs
  | .lst j, v, h, hs => by
    have hj : j < n := by simpa [SV.ret, Nat.blt_eq] using h
    simp only [SR] at hs ⊢; rw [hp j hj]; exact hs
  | .map j, v, h, hs => by
    have hj : j < n := by simpa [SV.ret, Nat.blt_eq] using h
    simp only [SR] at hs ⊢; rw [hp j hj]; exact hs
  | .box j off, v, h, hs => by
    have hj : j < n := by simpa [SV.ret, Nat.blt_eq] using h
    simp only [SR] at hs ⊢; rw [hp j hj]; exact hs
  | .agg l, v, h, hs => by
    simp only [SR] at hs ⊢
    obtain ⟨cs, h1, h2⟩ := hs
    exact ⟨cs, h1, SRs.retd hp l cs h h2⟩
  | .tup l, v, h, hs => by
    simp only [SR] at hs ⊢
    obtain ⟨cs, h1, h2⟩ := hs
    exact ⟨cs, h1, SRs.retd hp l cs h h2⟩
theorem SRs.retd {B B' : Heap} {pl pl' : Nat → Value} {tb tb' : Nat → Option Bool} {n : Nat} (hp : ∀ j, j < n → pl' j = pl j) :
    ∀ (s : List SV) (v : List Value), SVs.ret n s = true → SRs P B pl tb s v → SRs P B' pl' tb' s v
  | [], v, _, hs => by simp only [SRs] at hs ⊢; exact hs
  | s :: ss, v, h, hs => by
    simp only [SVs.ret, Bool.and_eq_true] at h
    simp only [SRs] at hs ⊢
    obtain ⟨x, y, h1, h2, h3⟩ := hs
    exact ⟨x, y, h1, SR.retd hp s x h.1 h2, SRs.retd hp ss y h.2 h3⟩
end
mutual
theorem SR.ren {B : Heap} {pl pl' : Nat → Value} {tb tb' : Nat → Option Bool} {n d nt : Nat} (hp : ∀ j, j < n → pl' (d + j * nt) = pl j) :
    ∀ (s : SV) (v : Value), s.ret n = true → SR P B pl tb s v → SR P B pl' tb' (s.ren d nt) v
  | .any, _, h, _ | .bid _ _, _, h, _ | .grd _ _, _, h, _ | .sub _ _ _ _, _, h, _ | .elp _ _ _ _, _, h, _ | .rop _ _ _ _, _, h, _ | .cp _ _, _, h, _ | .fn _ _ _, _, h, _ | .pf _ _ _ _, _, h, _ => by cases h
  | .val k x, v, h, hs => by simp only [SR, SV.ren] at hs ⊢; exact hs
  | .nilS, v, _, hs | .nilP, v, _, hs | .nilM, v, _, hs | .nilF, v, _, hs => by simp only [SR, SV.ren] at hs ⊢; exact hs
  | .lst j, v, h, hs => by
    have hj : j < n := by simpa [SV.ret, Nat.blt_eq] using h
    simp only [SR, SV.ren] at hs ⊢; rw [hp j hj]; exact hs
  | .map j, v, h, hs => by
    have hj : j < n := by simpa [SV.ret, Nat.blt_eq] using h
    simp only [SR, SV.ren] at hs ⊢; rw [hp j hj]; exact hs
  | .box j off, v, h, hs => by
    have hj : j < n := by simpa [SV.ret, Nat.blt_eq] using h
    simp only [SR, SV.ren] at hs ⊢; rw [hp j hj]; exact hs
  | .agg l, v, h, hs => by
    simp only [SR, SV.ren] at hs ⊢
    obtain ⟨cs, h1, h2⟩ := hs
    exact ⟨cs, h1, SRs.ren hp l cs h h2⟩
  | .tup l, v, h, hs => by
    simp only [SR, SV.ren] at hs ⊢
    obtain ⟨cs, h1, h2⟩ := hs
    exact ⟨cs, h1, SRs.ren hp l cs h h2⟩
theorem SRs.ren {B : Heap} {pl pl' : Nat → Value} {tb tb' : Nat → Option Bool} {n d nt : Nat} (hp : ∀ j, j < n → pl' (d + j * nt) = pl j) :
    ∀ (s : List SV) (v : List Value), SVs.ret n s = true → SRs P B pl tb s v → SRs P B pl' tb' (SVs.ren d nt s) v
  | [], v, _, hs => by simp only [SRs, SVs.ren] at hs ⊢; exact hs
  | s :: ss, v, h, hs => by
    simp only [SVs.ret, Bool.and_eq_true] at h
    simp only [SRs, SVs.ren] at hs ⊢
    obtain ⟨x, y, h1, h2, h3⟩ := hs
    exact ⟨x, y, h1, SR.ren hp s x h.1 h2, SRs.ren hp ss y h.2 h3⟩
end
theorem MR.flat {B B' : Heap} {kk vk : Kind} (h1 : kk.flat = true) (h2 : vk.flat = true) : ∀ {m : List (kk.T × vk.T)} {es : List MEnt}, MR B kk vk m es → MR B' kk vk m es
  | [], es, h => h
  | m :: ms, es, h => by
    obtain ⟨e, es', k1, k2, k3, k4⟩ := h
    exact ⟨e, es', k1, k2.flat h1, k3.flat h2, MR.flat h1 h2 k4⟩
theorem OR.retd {B B' : Heap} {pl pl' : Nat → Value} {tb tb' : Nat → Option Bool} {σ σ' : Heap} {p : Value} {b : OB} (hb : b.ret = true) (h : OR P B pl tb σ p b) (hg : ∀ i, oid p = some i → σ'.get i = σ.get i) : OR P B' pl' tb' σ' p b := by
  cases b with
  | dead => trivial
  | lst ty k xs nl =>
    rcases h with h | ⟨h0, i, cap, c, t, h1, h2, h3, h4, h5⟩
    · exact .inl h
    · exact .inr ⟨h0, i, cap, c, t, h1, h2, by rw [hg i (by rw [h1]; rfl)]; exact h3, h4, h5.mono fun _ _ e => KC.flat hb e⟩
  | cells l =>
    obtain ⟨i, c, e, t, h1, h2, h3⟩ := h
    exact ⟨i, c, e, t, h1, by rw [hg i (by rw [h1]; rfl)]; exact h2, SRs.retd (n := 0) (fun j hj => by omega) l c hb h3⟩
  | map kk vk m =>
    simp only [OB.ret, Bool.and_eq_true] at hb
    obtain ⟨i, es, clock, h1, h2, h3⟩ := h
    exact ⟨i, es, clock, h1, by rw [hg i (by rw [h1]; rfl)]; exact h2, h3.flat hb.1 hb.2⟩
  | stk l vals => cases hb
def kenc : (k : Kind) → k.T → List Value
  | .i ik, x => [.int ik x]
  | .bo, x => [.bool x]
  | .st, x => [.string ⟨x.toArray⟩]
  | .list _, _ => []
  | .pair a b, x => kenc a x.1 ++ kenc b x.2
def canB : OB → Option Blk
  | .lst ty k xs nl => if nl then none else some (.cells (xs.map (kenc k)).flatten ⟨k.size, ty⟩ true false)
  | _ => none
def canH (σ : Heap) (bs : List OB) : Heap where
  get i := if i < σ.n then σ.get i else (bs[i - σ.n]?).bind canB
  n := σ.n + bs.length
  wf i h := by
    rw [if_neg (by omega), List.getElem?_eq_none (by omega)]; rfl
def canP (σ : Heap) (bs : List OB) (j : Nat) : Value := match bs[j]? with
  | some (.lst _ _ xs nl) => if nl then .slice none 0 0 else .slice (some ⟨σ.n + j, 0, none⟩) xs.length xs.length
  | _ => poison
mutual
def cval (p : Nat → Value) : SV → Value
  | .val k x => (kenc k x).headD poison
  | .nilS => .slice none 0 0
  | .nilP => .pointer none
  | .nilM => .map none
  | .nilF => .nilFunc
  | .lst j => p j
  | .agg l => .agg (cvals p l).toArray
  | .tup l => .tuple (cvals p l).toArray
  | _ => poison
def cvals (p : Nat → Value) : List SV → List Value
  | [] => []
  | s :: ss => cval p s :: cvals p ss
end
def Dead (σ σ' : Heap) : Prop := σ.n ≤ σ'.n ∧ ∀ i, i < σ.n → σ.get i = none → σ'.get i = none
theorem Dead.refl (σ : Heap) : Dead σ σ := ⟨Nat.le_refl _, fun _ _ h => h⟩
theorem Dead.trans {σ0 σ σ' : Heap} (h : Dead σ0 σ) (h' : Dead σ σ') : Dead σ0 σ' := ⟨Nat.le_trans h.1 h'.1, fun i hi hg => h'.2 i (Nat.lt_of_lt_of_le hi h.1) (h.2 i hi hg)⟩
def Ret (P : Program) (σ : Heap) (v : SV) (bs : List OB) (u : Value) (σ' : Heap) : Prop :=
  (σ.Le σ' ∧ Dead σ σ') ∧ (bs = [] → σ' = σ) ∧ ∃ pl : Nat → Value, (∀ j b, bs[j]? = some b → OR P hNil pl noTb σ' (pl j) b ∧ ∀ i, oid (pl j) = some i → σ.get i = none ∧ σ.n ≤ i) ∧
    (∀ j j' i, j < bs.length → j' < bs.length → j ≠ j' → oid (pl j) = some i → oid (pl j') = some i → False) ∧ SR P hNil pl noTb v u
def ApOk (P : Program) (ap : SV → List SV → Option (Prop × SV)) : Prop :=
  ∀ σ f args c v fV vs, SR P σ noPl noTb f fV → SRs P σ noPl noTb args vs → ap f args = some (c, v) → c → v.ret 0 = true ∧ ∃ g a b, fV = .func (.func g) a b ∧ VCalled P g (a.toList ++ vs ++ b.toList) σ fun u σ' => σ' = σ ∧ SR P hNil noPl noTb v u
def OkC (P : Program) (f : Nat) (sp : CSp) : Prop :=
  ∀ ap, ApOk P ap → ∀ σ args vs c v bs, SRs P σ noPl noTb args vs → sp ap args = some (c, v, bs) → v.ret bs.length = true → bs.all OB.ret = true → c → (VCalled P f vs σ fun u σ' => Ret P σ v bs u σ') ∧
    (bs.all OB.isL = true → noBox v = true → VCalled P f vs σ fun u σ' => u = cval (canP σ bs) v ∧ σ' = canH σ bs)
def CsOk (P : Program) (cs : List (Nat × CSp)) : Prop := ∀ f sp, alook cs f = some sp → OkC P f sp
theorem VCalled.mono {f : FuncId} {args : List Value} {σ : Heap} {R R' : Value → Heap → Prop} (h : VCalled P f args σ R) (hr : ∀ v σ', R v σ' → R' v σ') : VCalled P f args σ R' := by
  intro ρ w cargs hH hL
  rcases h ρ w cargs hH hL with ⟨h1, h2⟩ | ⟨c, h1, h2⟩
  · exact .inl ⟨h1, h2.mono fun _ _ ⟨c, he, hg⟩ => ⟨c, he, hg.mono hr⟩⟩
  · exact .inr ⟨c, h1.mono hr, h2⟩
theorem asV_sound {B : Heap} {pl : Nat → Value} {tb : Nat → Option Bool} {k : Kind} {v : SV} {u : Value} {x : k.T} (h : gap.asV k v = some x) (hs : SR P B pl tb v u) : KV B k x u := by
  unfold gap.asV at h
  cases hone : k.one with
  | true =>
    rw [hone] at h
    exact .inl ⟨hone, deck_sound h (by simp only [SRs]; exact ⟨u, [], rfl, hs, rfl⟩)⟩
  | false =>
    rw [hone] at h
    simp only [_root_.cond_false] at h
    split at h
    · simp only [SR] at hs
      obtain ⟨cs, rfl, hs⟩ := hs
      exact .inr ⟨hone, cs, rfl, deck_sound h hs⟩
    · cases h
theorem deca_sound {B : Heap} {pl : Nat → Value} {tb : Nat → Option Bool} : ∀ {ks : List Kind} {args : List SV} {x : AT ks} {vs : List Value}, gap.deca ks args = some x → SRs P B pl tb args vs → atVals B ks x vs
  | [], [], x, vs, _, hs => by simp only [SRs] at hs; exact hs
  | [], _ :: _, x, vs, h, _ => by cases h
  | [k], [], x, vs, h, _ => by cases h
  | [k], [v], x, vs, h, hs => by
    obtain ⟨u, rfl, h1⟩ := hs.one
    exact ⟨u, rfl, asV_sound h h1⟩
  | [k], _ :: _ :: _, x, vs, h, _ => by cases h
  | k :: k' :: ks, [], x, vs, h, _ => by cases h
  | k :: k' :: ks, v :: args, x, vs, h, hs => by
    simp only [gap.deca] at h
    split at h
    · rename_i y z h1 h2
      obtain rfl := Option.some.inj h
      simp only [SRs] at hs
      obtain ⟨u, us, rfl, h3, h4⟩ := hs
      exact ⟨u, us, rfl, asV_sound h1 h3, deca_sound h2 h4⟩
    · cases h
theorem Ret.flat {σ σ' : Heap} {v : SV} {u : Value} (h : Ret P σ v [] u σ') (hv : v.ret 0 = true) : σ' = σ ∧ SR P hNil noPl noTb v u := by
  obtain ⟨_, h2, pl, _, _, h5⟩ := h
  exact ⟨h2 rfl, h5.retd (fun j hj => by omega) _ _ hv⟩
theorem KV.vcall {B σ : Heap} (hB : B.Le σ) {k : Kind} {x : k.T} {v : Value} (h : KV B k x v) : KV σ k x v := by
  rcases h with ⟨h1, h2⟩ | ⟨h1, cs, h2, h3⟩
  · exact .inl ⟨h1, h2.mono hB⟩
  · exact .inr ⟨h1, cs, h2, h3.mono hB⟩
theorem kcells_ret : ∀ {k : Kind} {x : k.T}, k.flat = true → SVs.ret 0 (kcells k x) = true
  | .i _, _, _ | .bo, _, _ | .st, _, _ => rfl
  | .list _, _, h => by cases h
  | .pair a b, x, h => by
    simp only [Kind.flat, Bool.and_eq_true] at h
    have app : ∀ l m : List SV, SVs.ret 0 l = true → SVs.ret 0 m = true → SVs.ret 0 (l ++ m) = true := by
      intro l m hl hm
      induction l with
      | nil => exact hm
      | cons s l ih =>
        simp only [SVs.ret, Bool.and_eq_true, List.cons_append] at hl ⊢
        exact ⟨hl.1, ih hl.2⟩
    exact app _ _ (kcells_ret h.1) (kcells_ret h.2)
theorem kval_ret {k : Kind} {x : k.T} (h : k.flat = true) : (kval k x).ret 0 = true := by
  cases k with
  | pair a b => exact kcells_ret (k := .pair a b) h
  | list k => cases h
  | _ => rfl
theorem gap_ok {cs : List (Nat × CSp)} (h : CsOk P cs) : ∀ n, ApOk P (gap cs n)
  | 0 => fun σ f args c v fV vs _ _ h => by cases h
  | n + 1 => by
    intro σ f args c v fV vs hf ha hg hc
    cases f with
    | fn g a b =>
      simp only [gap] at hg
      split at hg
      · rename_i sp hsp
        split at hg
        · rename_i c' v' heq
          cases hv : v'.ret 0 with
          | false => rw [hv] at hg; cases hg
          | true =>
            rw [hv] at hg
            simp only [_root_.cond_true, Option.some.injEq, Prod.mk.injEq] at hg
            obtain ⟨rfl, rfl⟩ := hg
            simp only [SR] at hf
            obtain ⟨x, y, rfl, h1, h2⟩ := hf
            refine ⟨hv, g, x.toArray, y.toArray, rfl, ?_⟩
            have := (h g sp hsp (gap cs n) (gap_ok h n) σ (a ++ args ++ b) (x ++ vs ++ y) c' v' [] ((h1.append ha).append h2) heq hv rfl hc).1
            simpa using this.mono fun u σ' hr => hr.flat hv
        · cases hg
      · cases hg
    | pf ks r dom p =>
      simp only [gap] at hg
      split at hg
      · rename_i x hx
        cases hr : r.flat with
        | false => rw [hr] at hg; cases hg
        | true =>
          rw [hr] at hg
          obtain ⟨rfl, rfl⟩ := pinj hg
          simp only [SR] at hf
          obtain ⟨g, first, cap, rfl, hcall⟩ := hf
          have h2 := hcall x hc σ vs (Heap.Le.refl _) (deca_sound hx ha)
          have hret := kval_ret (x := p x) hr
          exact ⟨hret, g, first, cap, rfl, h2.mono fun u σ' hu => ⟨hu.1, (kval_sound (P := P) (pl := noPl) (tb := noTb) hu.2).retd (fun j hj => by omega) _ _ hret⟩⟩
      · cases hg
    | _ => cases hg
end
end Go.V

namespace Go.V
open Go
theorem DropTo.rename2 {σ0 σf σ' : Heap} {v v' : Value} (π : Nat → Nat) (h1 : σ0.n ≤ σ'.n)
    (h2 : ∀ i, i < σ0.n → π i = i ∧ σ'.get i = σf.get i ∧ (σf.get i = σ0.get i ∨ ∃ b, σf.get i = some b ∧ b.plain = true))
    (h3 : ∀ i, σ0.n ≤ i → i < σ'.n → σ0.n ≤ π i ∧ ((σ'.get i = none ∧ σf.get (π i) = none) ∨ ∃ b' b, σ'.get i = some b' ∧ σf.get (π i) = some b ∧ BRen σ'.n π b' b))
    (h4 : ∀ i j, σ0.n ≤ i → i < σ'.n → σ0.n ≤ j → j < σ'.n → π i = π j → i = j) (h5 : Ren σ'.n π v' v) : DropTo σ0 v σf v' σ' := by
  intro ρ0 w0 ρ w c hH0 hE hH hv
  have hπ : ∀ i, i < σ0.n → π i = i := fun i hi => (h2 i hi).1
  have hblk : ∀ i b', σ'.get i = some b' → ∃ b, σf.get (π i) = some b ∧ BRen σ'.n π b' b := fun i b' hb => by
    have hi := σ'.lt hb
    rcases Nat.lt_or_ge i σ0.n with hlt | hge
    · obtain ⟨k1, k2, k3⟩ := h2 i hlt
      rw [k1]
      rw [k2] at hb
      refine ⟨b', hb, ?_⟩
      rcases k3 with k3 | ⟨b, k3, k4⟩
      · rw [k3] at hb
        obtain ⟨p, _, hB⟩ := hH0.live i b' hb
        exact hB.ren h1 hπ
      · rw [k3] at hb; obtain rfl := Option.some.inj hb
        exact BRen.plain k4
    · obtain ⟨_, ⟨k1, _⟩ | ⟨b1, b, k1, k2, k3⟩⟩ := h3 i hge hi
      · rw [k1] at hb; cases hb
      · rw [k1] at hb; obtain rfl := Option.some.inj hb
        exact ⟨b, k2, k3⟩
  have hinj : ∀ i j, i < σ'.n → j < σ'.n → π i = π j → i = j := fun i j hi hj he => by
    rcases Nat.lt_or_ge i σ0.n with hlt | hge <;> rcases Nat.lt_or_ge j σ0.n with hlt' | hge'
    · rw [hπ i hlt, hπ j hlt'] at he; exact he
    · have := (h3 j hge' hj).1; rw [hπ i hlt] at he; omega
    · have := (h3 i hge hi).1; rw [hπ j hlt'] at he; omega
    · exact h4 i j hge hi hge' hj he
  refine ⟨fun i => if i < σ'.n then ρ (π i) else none, h5.rel hv, ⟨fun i b' hb => ?_, fun i hi => ?_, fun i p hp => ?_, fun i j p q b hij hp hq hb hw hx => ?_⟩, ⟨hE.os, hE.tape, hE.output, hE.size, hE.keep, ?_, h1, fun i hi p hp => ?_⟩⟩
  · obtain ⟨b, hb1, hb2⟩ := hblk i b' hb
    obtain ⟨p, hp, hB⟩ := hH.live _ b hb1
    exact ⟨p, by simp [σ'.lt hb, hp], hb2.rel hB⟩
  · show (if i < σ'.n then ρ (π i) else none) = none
    split
    · rename_i hlt
      rcases Nat.lt_or_ge i σ0.n with hlt' | hge
      · obtain ⟨k1, k2, _⟩ := h2 i hlt'
        rw [k1]; exact hH.dead i (by rw [← k2]; exact hi)
      · obtain ⟨_, ⟨_, k2⟩ | ⟨b1, b, k1, _⟩⟩ := h3 i hge hlt
        · exact hH.dead _ k2
        · rw [k1] at hi; cases hi
    · rfl
  · change (if i < σ'.n then ρ (π i) else none) = some p at hp
    split at hp
    · exact hH.lt _ p hp
    · cases hp
  · change (if i < σ'.n then ρ (π i) else none) = some p at hp
    change (if j < σ'.n then ρ (π j) else none) = some q at hq
    split at hp
    · rename_i hi
      split at hq
      · rename_i hj
        obtain ⟨b0, hb1, hb2⟩ := hblk i b hb
        exact hH.sep (π i) (π j) p q b0 (fun e => hij (hinj i j hi hj e)) hp hq hb1 (by rw [← hb2.wr]; exact hw) hx
      · cases hq
    · cases hp
  · rintro B hB ⟨i, p, b, hp, hb, hw, rfl⟩
    change (if i < σ'.n then ρ (π i) else none) = some p at hp
    split at hp
    · obtain ⟨b0, hb1, hb2⟩ := hblk i b hb
      exact hE.wr _ hB ⟨π i, p, b0, hp, hb1, by rw [← hb2.wr]; exact hw, rfl⟩
    · cases hp
  · change (if i < σ'.n then ρ (π i) else none) = some p at hp
    split at hp
    · rw [hπ i hi] at hp; exact hE.pl i hi p hp
    · cases hp
theorem KC.enc {h : Heap} : ∀ {k : Kind} {x : k.T} {cs : List Value}, k.flat = true → KC h k x cs → cs = kenc k x
  | .i _, _, _, _, e | .bo, _, _, _, e | .st, _, _, _, e => e
  | .list _, _, _, f, _ => by cases f
  | .pair a b, x, cs, f, e => by
    simp only [Kind.flat, Bool.and_eq_true] at f
    obtain ⟨c1, c2, rfl, h1, h2⟩ := e
    rw [KC.enc f.1 h1, KC.enc f.2 h2]; rfl
theorem Rows.enc {h : Heap} {k : Kind} (hk : k.flat = true) {xs : List k.T} {cs : List Value} (hr : Rows (KC h k) xs cs) : cs = (xs.map (kenc k)).flatten := by
  induction hr with
  | nil => rfl
  | cons h _ ih => rw [List.map_cons, List.flatten_cons, ← ih, KC.enc hk h]
theorem enc_plain : ∀ {k : Kind} {x : k.T}, k.flat = true → (kenc k x).all plainV = true
  | .i _, _, _ | .bo, _, _ | .st, _, _ => rfl
  | .list _, _, h => by cases h
  | .pair a b, x, h => by
    simp only [Kind.flat, Bool.and_eq_true] at h
    simp only [kenc, List.all_append, Bool.and_eq_true]
    exact ⟨enc_plain h.1, enc_plain h.2⟩
section
variable {P : Program}
mutual
theorem cval_sound {B : Heap} {pl : Nat → Value} {tb : Nat → Option Bool} {n : Nat} : ∀ (s : SV) (v : Value), s.ret n = true → noBox s = true → SR P B pl tb s v → v = cval pl s
  | .val k x, v, h, _, hs => by
    simp only [SR] at hs
    have := KC.enc h hs
    simp only [cval, ← this, List.headD_cons]
  | .nilS, v, _, _, hs | .nilP, v, _, _, hs | .nilM, v, _, _, hs | .nilF, v, _, _, hs => by simp only [SR] at hs; exact hs
  | .lst j, v, _, _, hs => by simp only [SR] at hs; exact hs.1
  | .agg l, v, h, hb, hs => by
    simp only [SR] at hs
    obtain ⟨cs, rfl, h2⟩ := hs
    rw [cvals_sound l cs h hb h2]; rfl
  | .tup l, v, h, hb, hs => by
    simp only [SR] at hs
    obtain ⟨cs, rfl, h2⟩ := hs
    rw [cvals_sound l cs h hb h2]; rfl
  | .box _ _, _, _, hb, _ | .map _, _, _, hb, _ => by cases hb
  | .any, _, h, _, _ | .bid _ _, _, h, _, _ | .grd _ _, _, h, _, _ | .sub _ _ _ _, _, h, _, _ | .elp _ _ _ _, _, h, _, _ | .rop _ _ _ _, _, h, _, _ | .cp _ _, _, h, _, _ | .fn _ _ _, _, h, _, _ | .pf _ _ _ _, _, h, _, _ => by cases h
theorem cvals_sound {B : Heap} {pl : Nat → Value} {tb : Nat → Option Bool} {n : Nat} : ∀ (s : List SV) (v : List Value), SVs.ret n s = true → noBoxs s = true → SRs P B pl tb s v → v = cvals pl s
  | [], v, _, _, hs => by simp only [SRs] at hs; exact hs
  | s :: ss, v, h, hb, hs => by
    simp only [SVs.ret, Bool.and_eq_true] at h
    simp only [noBoxs, Bool.and_eq_true] at hb
    simp only [SRs] at hs
    obtain ⟨x, y, rfl, h1, h2⟩ := hs
    rw [cval_sound s x h.1 hb.1 h1, cvals_sound ss y h.2 hb.2 h2]; rfl
end
theorem Ren.rfl_plain {n : Nat} {π : Nat → Nat} {v : Value} (h : plainV v = true) : Ren n π v v := .plain v h
theorem one_plain {k : Kind} {x : k.T} (h : k.flat = true) : plainV ((kenc k x).headD poison) = true ∨ (kenc k x).headD poison = poison := by
  have := enc_plain (x := x) h
  cases e : kenc k x with
  | nil => exact .inr rfl
  | cons a l => rw [e] at this; simp only [List.all_cons, Bool.and_eq_true] at this; exact .inl this.1
mutual
theorem cval_ren {n m : Nat} {π : Nat → Nat} {p q : Nat → Value} (h : ∀ j, j < m → Ren n π (p j) (q j)) : ∀ (s : SV), s.ret m = true → noBox s = true → Ren n π (cval p s) (cval q s)
  | .val k x, hr, _ => by
    simp only [cval]
    rcases one_plain (x := x) hr with h | h
    · exact .plain _ h
    · rw [h]; exact .poison _
  | .nilS, _, _ | .nilP, _, _ | .nilM, _, _ | .nilF, _, _ => .plain _ rfl
  | .lst j, hr, _ => h j (by simpa [SV.ret, Nat.blt_eq] using hr)
  | .agg l, hr, hb => by
    have := cvals_ren h l hr hb
    simp only [cval]
    refine .agg _ _ (by simpa using this.1) fun i h1 h2 => this.2 i _ _ (by simp) (by simp)
  | .tup l, hr, hb => by
    have := cvals_ren h l hr hb
    simp only [cval]
    refine .tuple _ _ (by simpa using this.1) fun i h1 h2 => this.2 i _ _ (by simp) (by simp)
  | .box _ _, _, hb | .map _, _, hb => by cases hb
  | .any, h, _ | .bid _ _, h, _ | .grd _ _, h, _ | .sub _ _ _ _, h, _ | .elp _ _ _ _, h, _ | .rop _ _ _ _, h, _ | .cp _ _, h, _ | .fn _ _ _, h, _ | .pf _ _ _ _, h, _ => by cases h
theorem cvals_ren {n m : Nat} {π : Nat → Nat} {p q : Nat → Value} (h : ∀ j, j < m → Ren n π (p j) (q j)) : ∀ (s : List SV), SVs.ret m s = true → noBoxs s = true → LRen n π (cvals p s) (cvals q s)
  | [], _, _ => ⟨rfl, fun i v c hv => by simp [cvals] at hv⟩
  | s :: ss, hr, hb => by
    simp only [SVs.ret, Bool.and_eq_true] at hr
    simp only [noBoxs, Bool.and_eq_true] at hb
    have h1 := cval_ren h s hr.1 hb.1
    have h2 := cvals_ren h ss hr.2 hb.2
    refine ⟨by simp [cvals, h2.1], fun i v c hv hc => ?_⟩
    cases i with
    | zero => simp [cvals] at hv hc; subst hv; subst hc; exact h1
    | succ i => simp [cvals] at hv hc; exact h2.2 i v c hv hc
end
mutual
theorem cval_weak {m : Nat} {S : Nat → Prop} {p q : Nat → Value} (h : ∀ j, j < m → Weak S (p j) (q j)) : ∀ (s : SV), s.ret m = true → noBox s = true → Weak S (cval p s) (cval q s)
  | .val k x, _, _ => .refl _
  | .nilS, _, _ | .nilP, _, _ | .nilM, _, _ | .nilF, _, _ => .refl _
  | .lst j, hr, _ => h j (by simpa [SV.ret, Nat.blt_eq] using hr)
  | .agg l, hr, hb => by
    have := cvals_weak h l hr hb
    simp only [cval]
    exact .agg _ _ this.1 this.2
  | .tup l, hr, hb => by
    have := cvals_weak h l hr hb
    simp only [cval]
    exact .tuple _ _ this.1 this.2
  | .box _ _, _, hb | .map _, _, hb => by cases hb
  | .any, h, _ | .bid _ _, h, _ | .grd _ _, h, _ | .sub _ _ _ _, h, _ | .elp _ _ _ _, h, _ | .rop _ _ _ _, h, _ | .cp _ _, h, _ | .fn _ _ _, h, _ | .pf _ _ _ _, h, _ => by cases h
theorem cvals_weak {m : Nat} {S : Nat → Prop} {p q : Nat → Value} (h : ∀ j, j < m → Weak S (p j) (q j)) : ∀ (s : List SV), SVs.ret m s = true → noBoxs s = true → (cvals p s).length = (cvals q s).length ∧ ∀ (i : Nat) (a b : Value), (cvals p s)[i]? = some a → (cvals q s)[i]? = some b → Weak S a b
  | [], _, _ => ⟨rfl, fun i v c hv => by simp [cvals] at hv⟩
  | s :: ss, hr, hb => by
    simp only [SVs.ret, Bool.and_eq_true] at hr
    simp only [noBoxs, Bool.and_eq_true] at hb
    have h1 := cval_weak h s hr.1 hb.1
    have h2 := cvals_weak h ss hr.2 hb.2
    refine ⟨by simp [cvals, h2.1], fun i v c hv hc => ?_⟩
    cases i with
    | zero => simp [cvals] at hv hc; subst hv; subst hc; exact h1
    | succ i => simp [cvals] at hv hc; exact h2.2 i v c hv hc
end
theorem KC.ofEnc {h : Heap} : ∀ {k : Kind} {x : k.T}, k.flat = true → KC h k x (kenc k x)
  | .i _, _, _ | .bo, _, _ | .st, _, _ => by simp [KC, kenc]
  | .list _, _, f => by cases f
  | .pair a b, x, f => by
    simp only [Kind.flat, Bool.and_eq_true] at f
    exact ⟨_, _, rfl, KC.ofEnc f.1, KC.ofEnc f.2⟩
theorem Rows.ofEnc {h : Heap} {k : Kind} (hk : k.flat = true) : ∀ xs : List k.T, Rows (KC h k) xs (xs.map (kenc k)).flatten
  | [] => .nil
  | x :: xs => by rw [List.map_cons, List.flatten_cons]; exact .cons (KC.ofEnc hk) (Rows.ofEnc hk xs)
mutual
theorem cval_sr {pl : Nat → Value} {m : Nat} (h : ∀ j, j < m → ∃ a n c, pl j = .slice a n c) : ∀ (s : SV), s.ret m = true → noBox s = true → SR P hNil pl noTb s (cval pl s)
  | .val k x, hr, hb => by
    have h1 := KC.ofEnc (h := hNil) (x := x) hr
    have h2 := KC.length h1
    rw [Kind.one_size hb] at h2
    obtain ⟨c, e⟩ := List.length_eq_one_iff.1 h2
    simp only [cval, SR, e, List.headD_cons]
    rw [e] at h1; exact h1
  | .nilS, _, _ | .nilP, _, _ | .nilM, _, _ | .nilF, _, _ => by simp [cval, SR]
  | .lst j, hr, _ => by
    simp only [cval, SR]; exact ⟨trivial, h j (by simpa [SV.ret, Nat.blt_eq] using hr)⟩
  | .agg l, hr, hb => by
    simp only [cval, SR]; exact ⟨_, rfl, cvals_sr h l hr hb⟩
  | .tup l, hr, hb => by
    simp only [cval, SR]; exact ⟨_, rfl, cvals_sr h l hr hb⟩
  | .box _ _, _, hb | .map _, _, hb => by cases hb
  | .any, h, _ | .bid _ _, h, _ | .grd _ _, h, _ | .sub _ _ _ _, h, _ | .elp _ _ _ _, h, _ | .rop _ _ _ _, h, _ | .cp _ _, h, _ | .fn _ _ _, h, _ | .pf _ _ _ _, h, _ => by cases h
theorem cvals_sr {pl : Nat → Value} {m : Nat} (h : ∀ j, j < m → ∃ a n c, pl j = .slice a n c) : ∀ (s : List SV), SVs.ret m s = true → noBoxs s = true → SRs P hNil pl noTb s (cvals pl s)
  | [], _, _ => by simp [cvals, SRs]
  | s :: ss, hr, hb => by
    simp only [SVs.ret, Bool.and_eq_true] at hr
    simp only [noBoxs, Bool.and_eq_true] at hb
    simp only [cvals, SRs]
    exact ⟨_, _, rfl, cval_sr h s hr.1 hb.1, cvals_sr h ss hr.2 hb.2⟩
end
theorem canP_sl {σ : Heap} {bs : List OB} (hl : bs.all OB.isL = true) {j : Nat} (hj : j < bs.length) : ∃ a n c, canP σ bs j = .slice a n c := by
  have hb := List.all_eq_true.1 hl _ (List.getElem_mem hj)
  simp only [canP, List.getElem?_eq_getElem hj]
  cases e : bs[j] with
  | lst ty k xs nl => cases nl <;> simp
  | _ => rw [e] at hb; cases hb
theorem canon_drop {σ0 σf : Heap} (hA : Agree σ0 σf) (hn : σ0.n ≤ σf.n) {v : SV} {bs : List OB} (hv : v.ret bs.length = true) (hnb : noBox v = true) (hb : bs.all OB.ret = true) (hl : bs.all OB.isL = true) {pl : Nat → Value} {u : Value}
    (hob : ∀ j b, bs[j]? = some b → OR P hNil pl noTb σf (pl j) b ∧ ∀ i, oid (pl j) = some i → σ0.n ≤ i)
    (hsep : ∀ j j' i, j < bs.length → j' < bs.length → j ≠ j' → oid (pl j) = some i → oid (pl j') = some i → False) (hu : SR P hNil pl noTb v u) :
    DropTo σ0 u σf (cval (canP σ0 bs) v) (canH σ0 bs) := by
  have hu' := cval_sound v u hv hnb hu
  subst hu'
  have kind : ∀ j, j < bs.length → ∃ ty k xs nl, bs[j]? = some (.lst ty k xs nl) ∧ k.flat = true ∧ ((nl = true ∧ xs = [] ∧ pl j = .slice none 0 0) ∨ (nl = false ∧ ∃ i cap c t, pl j = .slice (some ⟨i, 0, none⟩) xs.length cap ∧ xs.length ≤ cap ∧ σ0.n ≤ i ∧ σf.get i = some (.cells c ⟨k.size, ty⟩ true t) ∧ c.take (xs.length * k.size) = (xs.map (kenc k)).flatten ∧ Rows (KC hNil k) xs (xs.map (kenc k)).flatten)) := by
    intro j hj
    have e := List.getElem?_eq_getElem hj
    have h1 := List.all_eq_true.1 hb _ (List.getElem_mem hj)
    have h2 := List.all_eq_true.1 hl _ (List.getElem_mem hj)
    obtain ⟨ho, hi⟩ := hob j _ e
    cases hbj : bs[j] with
    | lst ty k xs nl =>
      rw [hbj] at e ho h1
      refine ⟨ty, k, xs, nl, e, h1, ?_⟩
      rcases ho with ⟨k1, k2, k3⟩ | ⟨k0, i, cap, c, t, k1, k2, k3, k4, k5⟩
      · exact .inl ⟨k1, k2, k3⟩
      · have k6 := Rows.enc h1 k5
        exact .inr ⟨k0, i, cap, c, t, k1, k2, hi i (by rw [k1]; rfl), k3, k6, by rw [← k6]; exact k5⟩
    | _ => rw [hbj] at h2; cases h2
  let S : Nat → Bool := fun i => (List.range bs.length).any fun j => decide (oid (pl j) = some i)
  have hS : ∀ i, S i = true ↔ ∃ j, j < bs.length ∧ oid (pl j) = some i := fun i => by
    simp only [S, List.any_eq_true, List.mem_range, decide_eq_true_eq]
  let σw : Heap := ⟨fun i => if S i = true then ((List.range bs.length).find? fun j => decide (oid (pl j) = some i)).bind fun j => (bs[j]?).bind canB else σf.get i, σf.n, fun i hi => by
    by_cases h : S i = true
    · obtain ⟨j, hj, hid⟩ := (hS i).1 h
      obtain ⟨ty, k, xs, nl, _, _, h3⟩ := kind j hj
      rcases h3 with ⟨_, _, k3⟩ | ⟨_, i', cap, c, t, k1, _, _, k3, _⟩
      · rw [k3] at hid; cases hid
      · rw [k1] at hid; obtain rfl := Option.some.inj hid; exact absurd (σf.lt k3) (Nat.not_lt.2 hi)
    · rw [if_neg h]; exact σf.wf i hi⟩
  have hfind : ∀ j i, j < bs.length → oid (pl j) = some i → σw.get i = (bs[j]?).bind canB := fun j i hj hid => by
    have h1 : S i = true := (hS i).2 ⟨j, hj, hid⟩
    show (if S i = true then _ else _) = _
    rw [if_pos h1]
    cases hf : (List.range bs.length).find? fun j => decide (oid (pl j) = some i) with
    | none => have := List.find?_eq_none.1 hf j (List.mem_range.2 hj); simp [hid] at this
    | some j' =>
      have h2 := List.find?_some hf
      have h3 := List.mem_range.1 (List.mem_of_find?_eq_some hf)
      have h4 : j' = j := Classical.byContradiction fun hne => hsep j' j i h3 hj hne (by simpa using h2) hid
      subst h4; rfl
  let q : Nat → Value := fun j => match pl j with
    | .slice (some a) n _ => .slice (some a) n n
    | v => v
  have hq : ∀ j, j < bs.length → Weak (fun i => S i = true) (pl j) (q j) := fun j hj => by
    obtain ⟨ty, k, xs, nl, _, _, h3⟩ := kind j hj
    rcases h3 with ⟨_, _, k3⟩ | ⟨_, i', cap, c, t, k1, k2, _, k3, _⟩
    · simp only [q, k3]; exact .refl _
    · simp only [q, k1]; exact .sl _ _ _ ((hS i').2 ⟨j, hj, by rw [k1]; rfl⟩) k2
  have step1 : DropTo σ0 (cval pl v) σf (cval q v) σw := by
    refine DropTo.weaken S (fun i hi => ?_) rfl hn (fun i hi => ?_) (fun i hi => ?_) (cval_weak hq v hv hnb)
    · obtain ⟨j, hj, hid⟩ := (hS i).1 hi; exact (hob j _ (List.getElem?_eq_getElem hj)).2 i hid
    · show (if S i = true then _ else _) = _
      rw [if_neg (by simp [hi])]
    · obtain ⟨j, hj, hid⟩ := (hS i).1 hi
      obtain ⟨ty, k, xs, nl, e, _, h3⟩ := kind j hj
      rcases h3 with ⟨_, _, k3⟩ | ⟨k0, i', cap, c, t, k1, k2, _, k3, k4, _⟩
      · rw [k3] at hid; cases hid
      · rw [k1] at hid; obtain rfl := Option.some.inj hid
        refine ⟨c, _, true, t, xs.length * k.size, k3, ?_⟩
        rw [hfind j _ hj (by rw [k1]; rfl), e]
        simp only [Option.bind_some, canB, k0]
        rw [k4]; rfl
  have hpi : ∀ j i, j < bs.length → oid (pl j) = some i → i < σf.n := fun j i hj hid => by
    obtain ⟨ty, k, xs, nl, _, _, h3⟩ := kind j hj
    rcases h3 with ⟨_, _, k3⟩ | ⟨_, i', cap, c, t, k1, _, _, k3, _⟩
    · rw [k3] at hid; cases hid
    · rw [k1] at hid; obtain rfl := Option.some.inj hid; exact σf.lt k3
  let π : Nat → Nat := fun i => if i < σ0.n then i else match oid (pl (i - σ0.n)) with
    | some id => id
    | none => σf.n + i
  have hwn : σw.n = σf.n := rfl
  have step2 : DropTo σ0 (cval q v) σw (cval (canP σ0 bs) v) (canH σ0 bs) := by
    refine DropTo.rename2 π (by simp [canH]) (fun i hi => ⟨by simp [π, hi], ?_, .inl ?_⟩) (fun i h1 h2 => ?_) (fun i j h1 h2 h3 h4 he => ?_) (cval_ren (fun j hj => ?_) v hv hnb)
    · have hs : S i = false := by
        cases hs : S i with
        | false => rfl
        | true => obtain ⟨j, hj, hid⟩ := (hS i).1 hs; have := (hob j _ (List.getElem?_eq_getElem hj)).2 i hid; omega
      show (if i < σ0.n then _ else _) = (if S i = true then _ else _)
      rw [if_pos hi, if_neg (by simp [hs]), hA i hi]
    · have hs : S i = false := by
        cases hs : S i with
        | false => rfl
        | true => obtain ⟨j, hj, hid⟩ := (hS i).1 hs; have := (hob j _ (List.getElem?_eq_getElem hj)).2 i hid; omega
      show (if S i = true then _ else _) = _
      rw [if_neg (by simp [hs]), hA i hi]
    · have hj : i - σ0.n < bs.length := by simp [canH] at h2; omega
      have hge : ¬ i < σ0.n := by omega
      obtain ⟨ty, k, xs, nl, e, hfl, h3⟩ := kind _ hj
      have hcan : (canH σ0 bs).get i = (bs[i - σ0.n]?).bind canB := by show (if i < σ0.n then _ else _) = _; rw [if_neg hge]
      rcases h3 with ⟨k0, _, k3⟩ | ⟨k0, i', cap, c, t, k1, k2, k2', k3, k4, _⟩
      · have hp : π i = σf.n + i := by simp only [π, if_neg hge, k3, oid]
        refine ⟨by omega, .inl ⟨?_, σw.wf _ (by rw [hp, hwn]; omega)⟩⟩
        rw [hcan, e]; simp [canB, k0]
      · have hp : π i = i' := by simp only [π, if_neg hge, k1, oid]
        rw [hp]
        have hw := hfind _ i' hj (by rw [k1]; rfl)
        rw [e] at hw
        simp only [Option.bind_some, canB, k0] at hw
        refine ⟨k2', .inr ⟨_, _, ?_, hw, BRen.plain ?_⟩⟩
        · rw [hcan, e]; simp [canB, k0]
        · simp only [Blk.plain, List.all_flatten, List.all_map]
          rw [List.all_eq_true]; intro x _; exact enc_plain hfl
    · have hi : i - σ0.n < bs.length := by simp [canH] at h2; omega
      have hj : j - σ0.n < bs.length := by simp [canH] at h4; omega
      have hgi : ¬ i < σ0.n := by omega
      have hgj : ¬ j < σ0.n := by omega
      simp only [π, if_neg hgi, if_neg hgj] at he
      cases e1 : oid (pl (i - σ0.n)) with
      | none =>
        cases e2 : oid (pl (j - σ0.n)) with
        | none => rw [e1, e2] at he; simp only at he; omega
        | some b => rw [e1, e2] at he; have := hpi _ b hj e2; simp only at he; omega
      | some a =>
        cases e2 : oid (pl (j - σ0.n)) with
        | none => rw [e1, e2] at he; have := hpi _ a hi e1; simp only at he; omega
        | some b =>
          rw [e1, e2] at he
          simp only at he; subst he
          have : i - σ0.n = j - σ0.n := Classical.byContradiction fun hne => hsep _ _ a hi hj hne e1 e2
          omega
    · obtain ⟨ty, k, xs, nl, e, _, h3⟩ := kind j hj
      rcases h3 with ⟨k0, kx, k3⟩ | ⟨k0, i', cap, c, t, k1, k2, _, k3, _⟩
      · simp only [canP, e, k0, if_true, q, k3]; exact .plain _ rfl
      · simp only [canP, e, k0, Bool.false_eq_true, if_false, q, k1]
        have hp : π (σ0.n + j) = i' := by
          have : ¬ σ0.n + j < σ0.n := by omega
          simp only [π, if_neg this, Nat.add_sub_cancel_left, k1, oid]
        have := Ren.sl (n := (canH σ0 bs).n) (π := π) (σ0.n + j) 0 xs.length xs.length (by simp [canH]; omega)
        rwa [hp] at this
  exact step1.trans step2
def OB.wfL : OB → Prop
  | .lst _ _ xs nl => nl = true → xs = []
  | _ => True
theorem canon_ret (σ0 : Heap) {v : SV} {bs : List OB} (hv : v.ret bs.length = true) (hnb : noBox v = true) (hb : bs.all OB.ret = true) (hl : bs.all OB.isL = true) (hw : ∀ b ∈ bs, b.wfL) : Ret P σ0 v bs (cval (canP σ0 bs) v) (canH σ0 bs) := by
  have kind : ∀ j, j < bs.length → ∃ ty k xs nl, bs[j]? = some (.lst ty k xs nl) ∧ k.flat = true ∧ (nl = true → xs = []) := fun j hj => by
    have e := List.getElem?_eq_getElem hj
    have h1 := List.all_eq_true.1 hb _ (List.getElem_mem hj)
    have h2 := List.all_eq_true.1 hl _ (List.getElem_mem hj)
    have h3 := hw _ (List.getElem_mem hj)
    cases hbj : bs[j] with
    | lst ty k xs nl => rw [hbj] at e h1 h3; exact ⟨ty, k, xs, nl, e, h1, h3⟩
    | _ => rw [hbj] at h2; cases h2
  refine ⟨⟨?_, ?_⟩, ?_, canP σ0 bs, fun j b hj => ?_, fun j j' i hj hj' hne h1 h2 => ?_, cval_sr (fun j hj => canP_sl hl hj) v hv hnb⟩
  · refine ⟨by simp [canH], fun i b hg => ?_⟩
    show (if i < σ0.n then _ else _) = _
    rw [if_pos (σ0.lt hg)]; exact hg
  · refine ⟨by simp [canH], fun i hi hg => ?_⟩
    show (if i < σ0.n then _ else _) = _
    rw [if_pos hi]; exact hg
  · rintro rfl
    apply Heap.ext'
    · intro i
      show (if i < σ0.n then _ else _) = _
      by_cases hi : i < σ0.n
      · rw [if_pos hi]
      · rw [if_neg hi, σ0.wf i (by omega)]; rfl
    · simp [canH]
  · have hjl : j < bs.length := (List.getElem?_eq_some_iff.1 hj).1
    obtain ⟨ty, k, xs, nl, e, hfl, h3⟩ := kind j hjl
    obtain rfl := Option.some.inj (e.symm.trans hj)
    cases nl with
    | true =>
      have hp : canP σ0 bs j = .slice none 0 0 := by simp [canP, e]
      rw [hp]; exact ⟨.inl ⟨rfl, h3 rfl, rfl⟩, fun i hi => by cases hi⟩
    | false =>
      have hp : canP σ0 bs j = .slice (some ⟨σ0.n + j, 0, none⟩) xs.length xs.length := by simp [canP, e]
      have k5 := Rows.ofEnc (h := hNil) hfl xs
      have hrl := k5.length KC.rows_len
      rw [hp]
      refine ⟨.inr ⟨rfl, σ0.n + j, xs.length, (xs.map (kenc k)).flatten, false, rfl, Nat.le_refl _, ?_, by omega, ?_⟩, fun i hi => ?_⟩
      · show (if σ0.n + j < σ0.n then _ else _) = _
        rw [if_neg (by omega), Nat.add_sub_cancel_left, e]
        simp [canB]
      · rw [List.take_of_length_le (by omega)]; exact k5
      · obtain rfl := Option.some.inj hi
        exact ⟨σ0.wf _ (by simp), by simp⟩
  · obtain ⟨ty, k, xs, nl, e, _, h3⟩ := kind j hj
    obtain ⟨ty', k', xs', nl', e', _, h3'⟩ := kind j' hj'
    simp only [canP, e] at h1
    simp only [canP, e'] at h2
    cases nl with
    | true => simp [oid] at h1
    | false =>
      cases nl' with
      | true => simp [oid] at h2
      | false => simp [oid] at h1 h2; omega
end
end Go.V

namespace Go.V
open Go
section
variable {P : Program} {B F : Heap} {pl : Nat → Value} {tb : Nat → Option Bool} {own : Own} {σ : Heap}
mutual
theorem resP_sound {bx : List SV → Nat → SV} (hle : B.Le σ) (hobj : ∀ d, OR P B pl tb σ (pl d) (oget own d))
    (hbx : ∀ l off b c e t, σ.get b = some (.cells c e true t) → SRs P B pl tb l c → SR P σ noPl noTb (bx l off) (.pointer (some ⟨b, off, none⟩))) :
    ∀ (s : SV) (v : Value), SR P B pl tb s v → SR P σ noPl noTb (resP own bx s) v
  | .any, v, h => by simp [resP, SR]
  | .val k x, v, h => by simp only [resP, SR] at h ⊢; exact h.mono hle
  | .bid n c, v, h => by simp only [resP, SR] at h ⊢; obtain ⟨rfl, _⟩ := h; rfl
  | .grd gs s, v, h => by simp [resP, SR]
  | .nilS, v, h => by simp only [resP, SR] at h ⊢; exact h
  | .nilP, v, h => by simp only [resP, SR] at h ⊢; exact h
  | .nilM, v, h => by simp only [resP, SR] at h ⊢; exact h
  | .nilF, v, h => by simp only [resP, SR] at h ⊢; exact h
  | .lst o, v, h => by
    simp only [resP]
    split
    · rename_i ty k xs nl ho
      have : view own k (.lst o) = some xs := by simp [view, ho, castL]
      simp only [SR, KC]
      exact ⟨v, rfl, (view_sound hle hobj this h).mono (Heap.Le.refl _) fun _ _ e => e.mono hle⟩
    · simp [SR]
  | .sub o lo n sz, v, h => by
    simp only [resP]
    split
    · rename_i ty k xs nl ho
      split
      · rename_i hsz
        have : view own k (.sub o lo n sz) = some ((xs.drop lo).take n) := by simp [view, ho, castL, hsz]
        simp only [SR, KC]
        exact ⟨v, rfl, (view_sound hle hobj this h).mono (Heap.Le.refl _) fun _ _ e => e.mono hle⟩
      · simp [SR]
    · simp [SR]
  | .elp o i off sz, v, h => by simp [resP, SR]
  | .map o, v, h => by simp [resP, SR]
  | .tup l, v, h => by simp [resP, SR]
  | .box o off, v, h => by
    simp only [resP]
    split
    · rename_i l ho
      have hob := hobj o
      rw [ho] at hob
      obtain ⟨i, c, e, t, h1, h2, h3⟩ := hob
      simp only [SR] at h
      obtain ⟨b, h4, rfl⟩ := h
      rw [h4] at h1
      obtain rfl := (by simpa using h1 : b = i)
      exact hbx l off b c e t h2 h3
    · simp [SR]
  | .rop k l i off, v, h => by
    simp only [resP]
    exact SR.mono (tb := tb) hle (fun n c hn => hn) (.rop k l i off) v h |> fun h => by simp only [SR] at h ⊢; exact h
  | .cp l off, v, h => by
    simp only [resP, SR] at h ⊢
    obtain ⟨b, c, e, wr, t, h1, h2, h3⟩ := h
    exact ⟨b, c, e, wr, t, hle.2 _ _ h1, h2, resPs_sound hle hobj hbx l c h3⟩
  | .agg l, v, h => by
    simp only [resP, SR] at h ⊢
    obtain ⟨cs, h1, h2⟩ := h
    exact ⟨cs, h1, resPs_sound hle hobj hbx l cs h2⟩
  | .fn f a b, v, h => by
    simp only [resP, SR] at h ⊢
    obtain ⟨x, y, h1, h2, h3⟩ := h
    exact ⟨x, y, h1, resPs_sound hle hobj hbx a x h2, resPs_sound hle hobj hbx b y h3⟩
  | .pf ks r dom p, v, h => by simp only [resP, SR] at h ⊢; exact h.mono hle
theorem resPs_sound {bx : List SV → Nat → SV} (hle : B.Le σ) (hobj : ∀ d, OR P B pl tb σ (pl d) (oget own d))
    (hbx : ∀ l off b c e t, σ.get b = some (.cells c e true t) → SRs P B pl tb l c → SR P σ noPl noTb (bx l off) (.pointer (some ⟨b, off, none⟩))) :
    ∀ (s : List SV) (v : List Value), SRs P B pl tb s v → SRs P σ noPl noTb (resPs own bx s) v
  | [], v, h => by simp only [resPs, SRs] at h ⊢; exact h
  | s :: ss, v, h => by
    simp only [resPs, SRs] at h ⊢
    obtain ⟨x, y, h1, h2, h3⟩ := h
    exact ⟨x, y, h1, resP_sound hle hobj hbx s x h2, resPs_sound hle hobj hbx ss y h3⟩
end
theorem ress_sound (hle : B.Le σ) (hobj : ∀ d, OR P B pl tb σ (pl d) (oget own d)) {l : List SV} {v : List Value} (h : SRs P B pl tb l v) : SRs P σ noPl noTb (ress own l) v := by
  have h0 : ∀ {l v}, SRs P B pl tb l v → SRs P σ noPl noTb (res0 own l) v := fun h => resPs_sound hle hobj (fun _ _ _ _ _ _ _ _ => by simp [SR]) _ _ h
  have h1 : ∀ {l v}, SRs P B pl tb l v → SRs P σ noPl noTb (res1 own l) v := fun h => resPs_sound hle hobj (fun l off b c e t hg hs => by
    simp only [SR]; exact ⟨b, c, e, true, t, hg, rfl, h0 hs⟩) _ _ h
  exact resPs_sound hle hobj (fun l off b c e t hg hs => by
    simp only [SR]; exact ⟨b, c, e, true, t, hg, rfl, h1 hs⟩) _ _ h
mutual
theorem cval_eq {p q : Nat → Value} {n : Nat} (h : ∀ j, j < n → p j = q j) : ∀ (s : SV), s.ret n = true → cval p s = cval q s
  | .val _ _, _ | .nilS, _ | .nilP, _ | .nilM, _ | .nilF, _ => by simp [cval]
  | .lst j, hr => by simp only [cval]; exact h j (by simpa [SV.ret, Nat.blt_eq] using hr)
  | .agg l, hr => by simp only [cval]; rw [cvals_eq h l hr]
  | .tup l, hr => by simp only [cval]; rw [cvals_eq h l hr]
  | .box _ _, _ | .map _, _ => by simp [cval]
  | .any, h | .bid _ _, h | .grd _ _, h | .sub _ _ _ _, h | .elp _ _ _ _, h | .rop _ _ _ _, h | .cp _ _, h | .fn _ _ _, h | .pf _ _ _ _, h => by cases h
theorem cvals_eq {p q : Nat → Value} {n : Nat} (h : ∀ j, j < n → p j = q j) : ∀ (s : List SV), SVs.ret n s = true → cvals p s = cvals q s
  | [], _ => rfl
  | s :: ss, hr => by
    simp only [SVs.ret, Bool.and_eq_true] at hr
    simp only [cvals]; rw [cval_eq h s hr.1, cvals_eq h ss hr.2]
end
theorem gcallee_sound {cs : List (Nat × CSp)} (hcs : CsOk P cs) {f : SV} {args : List SV} {c : Prop} {v : SV} {bs : List OB} {fV : Value} {vs : List Value} (hf : SR P σ noPl noTb f fV) (ha : SRs P σ noPl noTb args vs)
    (h : gcallee cs f args = some (c, v, bs)) (hv : v.ret bs.length = true) (hb : bs.all OB.ret = true) (hc : c) : ∃ g a b, fV = .func (.func g) a b ∧ (VCalled P g (a.toList ++ vs ++ b.toList) σ fun u σ' => Ret P σ v bs u σ') ∧
    (bs.all OB.isL = true → noBox v = true → VCalled P g (a.toList ++ vs ++ b.toList) σ fun u σ' => u = cval (canP σ bs) v ∧ σ' = canH σ bs) := by
  have gen : (gap cs 3 f args).map (fun x => (x.1, x.2, ([] : List OB))) = some (c, v, bs) → ∃ g a b, fV = .func (.func g) a b ∧ (VCalled P g (a.toList ++ vs ++ b.toList) σ fun u σ' => Ret P σ v bs u σ') ∧
      (bs.all OB.isL = true → noBox v = true → VCalled P g (a.toList ++ vs ++ b.toList) σ fun u σ' => u = cval (canP σ bs) v ∧ σ' = canH σ bs) := fun h => by
    simp only [Option.map_eq_some_iff] at h
    obtain ⟨⟨c', v'⟩, h1, h2⟩ := h
    simp only [Prod.mk.injEq] at h2
    obtain ⟨rfl, rfl, rfl⟩ := h2
    obtain ⟨h3, g, a, b, rfl, h4⟩ := gap_ok hcs 3 σ f args c' v' fV vs hf ha h1 hc
    refine ⟨g, a, b, rfl, h4.mono fun u σ' hu => ?_, fun _ hnb => h4.mono fun u σ' hu => ?_⟩
    · obtain ⟨rfl, hu⟩ := hu
      exact ⟨⟨Heap.Le.refl _, Dead.refl _⟩, fun _ => rfl, noPl, (fun j b hj => by simp at hj), (fun j j' i hj => by simp at hj), hu⟩
    · obtain ⟨rfl, hu⟩ := hu
      have hz : canH σ' [] = σ' := (canon_ret (P := P) σ' (v := v') (bs := []) h3 hnb rfl rfl (fun b hb => by cases hb)).2.1 rfl
      refine ⟨?_, hz.symm⟩
      rw [cval_sound v' u h3 hnb hu]
      exact cval_eq (fun j hj => by omega) v' h3
  cases f with
  | fn g a b =>
    simp only [gcallee] at h
    split at h
    · rename_i sp hsp
      simp only [SR] at hf
      obtain ⟨x, y, rfl, h1, h2⟩ := hf
      refine ⟨g, x.toArray, y.toArray, rfl, ?_⟩
      simpa using hcs g sp hsp (gap cs 3) (gap_ok hcs 3) σ (a ++ args ++ b) (x ++ vs ++ y) c v bs ((h1.append ha).append h2) h hv hb hc
    · cases h
  | _ => exact gen h
theorem Gam.heap {s : St} {env : Env} {σ' : Heap} (h : Gam P B F pl tb s env σ) (hl : σ.Le σ') : Gam P B F pl tb s env σ' :=
  ⟨h.bf, h.le.trans hl, h.env, fun d => (h.obj d).mono (Heap.Le.refl _) (fun _ _ h => h) fun hlive i hi => by
    have hlt := (h.obj d).id_lt hlive hi
    cases hb : σ.get i with
    | none =>
      have hob := h.obj d
      cases ho : oget s.own d with
      | dead => rw [ho] at hlive; cases hlive
      | lst ty k xs nl =>
        rw [ho] at hob
        rcases hob with ⟨_, _, h2⟩ | ⟨_, i', cap, c, t, h2, _, h3, _⟩
        · rw [h2] at hi; cases hi
        · rw [h2] at hi; obtain rfl := Option.some.inj hi; rw [h3] at hb; cases hb
      | cells l => rw [ho] at hob; obtain ⟨i', c, e, t, h2, h3, _⟩ := hob; rw [h2] at hi; obtain rfl := Option.some.inj hi; rw [h3] at hb; cases hb
      | map kk vk m => rw [ho] at hob; obtain ⟨i', es, cl, h2, h3, _⟩ := hob; rw [h2] at hi; obtain rfl := Option.some.inj hi; rw [h3] at hb; cases hb
      | stk l vals => rw [ho] at hlive; cases hlive
    | some b => rw [hl.2 i b hb], h.fresh, h.sep, h.free⟩
theorem makes_sound {env : Env} {σ0 : Heap} {d nt : Nat} (hnt : 0 < nt) (plc : Nat → Value) (bs : List OB) (hB : F.Le σ0)
    (hob : ∀ j b, bs[j]? = some b → b.ret = true ∧ OR P hNil plc noTb σ (plc j) b ∧ ∀ i, oid (plc j) = some i → σ0.n ≤ i)
    (hsep : ∀ j j' i, j < bs.length → j' < bs.length → j ≠ j' → oid (plc j) = some i → oid (plc j') = some i → False) :
    ∀ (r : List OB) (j : Nat) (pl : Nat → Value) (s : St), bs.drop j = r → Gam P B F pl tb s env σ → (∀ k i, (oget s.own k).live = true → oid (pl k) = some i → i < σ0.n ∨ ∃ j' < j, j' < bs.length ∧ oid (plc j') = some i ∧ k = d + j' * nt) → (∀ j' < j, j' < bs.length → pl (d + j' * nt) = plc j') →
      ∃ pl', Gam P B F pl' tb (s.makes d nt j r) env σ ∧ ∀ j' < bs.length, pl' (d + j' * nt) = plc j'
  | [], j, pl, s, hr, hG, _, hp => ⟨pl, hG, fun j' hj' => hp j' (by
      have := congrArg List.length hr
      simp at this; omega) hj'⟩
  | b :: r, j, pl, s, hr, hG, hinv, hp => by
    have hjl : j < bs.length := by
      rcases Nat.lt_or_ge j bs.length with h | h
      · exact h
      · rw [List.drop_eq_nil_of_le h] at hr; cases hr
    have hbj : bs[j]? = some b := by
      have : (bs.drop j)[0]? = some b := by rw [hr]; rfl
      simpa using this
    have hr' : bs.drop (j + 1) = r := by
      have : (bs.drop j).drop 1 = r := by rw [hr]; rfl
      simpa [List.drop_drop, Nat.add_comm] using this
    obtain ⟨h1, h2, h3⟩ := hob j b hbj
    have hkey : ∀ j' , j' ≠ j → d + j' * nt ≠ d + j * nt := fun j' hne e => hne (Nat.eq_of_mul_eq_mul_right hnt (by omega))
    refine makes_sound hnt plc bs hB hob hsep r (j + 1) (updP pl (d + j * nt) (plc j)) _ hr' (hG.make (d + j * nt) b (plc j) hG.le (fun _ _ _ _ _ => rfl) (h2.retd h1 fun _ _ => rfl) fun i _ hi => ⟨F.wf _ (by have := h3 i hi; have := hB.1; omega), fun k hk hl e => ?_⟩) (fun k i hl hi => ?_) fun j' hj' hj'' => ?_
    · rcases hinv k i hl e with h | ⟨j', hj', hj2, he, _⟩
      · have := h3 i hi; omega
      · exact hsep j j' i hjl hj2 (by omega) hi he
    · by_cases hk : k = d + j * nt
      · subst hk
        simp only [updP, if_true] at hi
        exact .inr ⟨j, by omega, hjl, hi, rfl⟩
      · have hl' : (oget s.own k).live = true := by
          simp only [St.make, St.kill, oget_oset, oget_okill, if_neg hk] at hl
          rwa [OB.live_kill] at hl
        simp only [updP, if_neg hk] at hi
        rcases hinv k i hl' hi with h | ⟨j', hj', h5⟩
        · exact .inl h
        · exact .inr ⟨j', by omega, h5⟩
    · by_cases e : j' = j
      · subst e; simp [updP]
      · simp only [updP, if_neg (hkey j' e)]
        exact hp j' (by omega) hj''
theorem Ret.gam {s : St} {env : Env} {d nt : Nat} (hnt : 0 < nt) (hG : Gam P B F pl tb s env σ) {v : SV} {bs : List OB} {u : Value} {σ' : Heap} (hv : v.ret bs.length = true) (hb : bs.all OB.ret = true) (h : Ret P σ v bs u σ') :
    ∃ pl', Gam P B F pl' tb (s.makes d nt 0 bs) env σ' ∧ SR P B pl' tb (v.ren d nt) u := by
  obtain ⟨⟨h1, _⟩, _, plc, h2, h3, h4⟩ := h
  obtain ⟨pl', h5, h6⟩ := makes_sound (tb := tb) (d := d) hnt plc bs hG.le (fun j b hj => ⟨List.all_eq_true.1 hb b (List.mem_of_getElem? hj), (h2 j b hj).1, fun i hi => ((h2 j b hj).2 i hi).2⟩) h3 bs 0 pl s rfl (hG.heap h1)
    (fun k i hl hi => .inl ((hG.obj k).id_lt hl hi)) (fun j' hj' => by omega)
  exact ⟨pl', h5, SR.ren (tb := noTb) (fun j hj => h6 j hj) _ _ hv (SR.mono (tb := noTb) (tb' := noTb) (empty_le B) (fun _ _ h => h) _ _ h4)⟩
end
end Go.V

namespace Go.V
open Go
section
variable {P : Program}
structure GBase (B0 F0 D0 B F σ : Heap) : Prop where
  b : B0.Le B
  f : F0.Le F
  x : ∀ i b, F0.get i = some b → B0.get i = none → B.get i = none
  d : Dead D0 σ
theorem GBase.of {B F σ : Heap} {σ' : Heap} (_hB : B.Le F) (h : Dead σ σ') : GBase B F σ B F σ' := ⟨.refl _, .refl _, fun _ _ _ h => h, h⟩
theorem GBase.trans {B0 F0 D0 B F σ B' F' σ' : Heap} (h : GBase B0 F0 D0 B F σ) (h' : GBase B F σ B' F' σ') : GBase B0 F0 D0 B' F' σ' :=
  ⟨h.b.trans h'.b, h.f.trans h'.f, fun i b h1 h2 => h'.x i b (h.f.2 _ _ h1) (h.x i b h1 h2), h.d.trans h'.d⟩
def GRel (P : Program) (B0 F0 D0 : Heap) (s : St) (env : Env) (σ : Heap) : Prop := ∃ B F pl tb, GBase B0 F0 D0 B F σ ∧ Gam P B F pl tb s env σ
theorem dead_n {B0 F0 D0 B F : Heap} {σ σ' : Heap} (hB : GBase B0 F0 D0 B F σ) (h : Dead σ σ') : GBase B0 F0 D0 B F σ' := ⟨hB.b, hB.f, hB.x, hB.d.trans h⟩
theorem Gam.evs {B F : Heap} {pl : Nat → Value} {tb : Nat → Option Bool} {s : St} {env : Env} {σ : Heap} (h : Gam P B F pl tb s env σ) {gs : List Gd} (hg : Gds tb gs) (x : Operand) : SR P B pl tb (gev gs s.env x) (evalO env x) := gev_sound hg h.env x
theorem Gds.nil {tb : Nat → Option Bool} : Gds tb [] := fun _ h => by cases h
theorem gimp_holds {gs : List Gd} {c : Prop} (h : gimp gs c) (hg : ∀ g ∈ gs, g.c = g.want) : c := by
  induction gs with
  | nil => exact h
  | cons g gs ih => exact ih (h (hg g (by simp))) fun g' hg' => hg g' (by simp [hg'])
theorem gobl_holds {gs : List Gd} {cs : List Prop} {q : Prop} (h : gobl gs cs q) : q ∧ ((∀ g ∈ gs, g.c = g.want) → ∀ c ∈ cs, c) := by
  induction cs with
  | nil => exact ⟨h, fun _ c hc => by cases hc⟩
  | cons c cs ih =>
    obtain ⟨h1, h2⟩ := h
    obtain ⟨h3, h4⟩ := ih h2
    exact ⟨h3, fun hg c' hc' => by
      rcases List.mem_cons.1 hc' with rfl | hc'
      · exact gimp_holds h1 hg
      · exact h4 hg c' hc'⟩
theorem Dead.push (σ : Heap) (b : Blk) : Dead σ (σ.push b) := ⟨by simp, fun i hi h => by rw [Heap.get_push_lt _ _ hi]; exact h⟩
theorem Dead.upd (σ : Heap) (j : Nat) (b : Blk) (hj : (σ.get j).isSome = true) : Dead σ (σ.upd j b) := ⟨by simp, fun i hi h => by
  have : i ≠ j := fun e => by subst e; rw [h] at hj; cases hj
  rw [Heap.get_upd_ne _ _ this]; exact h⟩
theorem Dead.kill (σ : Heap) (j : Nat) : Dead σ (σ.kill j) := ⟨by simp, fun i hi h => by
  by_cases e : i = j
  · subst e; exact Heap.get_kill_self _ _
  · rw [Heap.get_kill_ne _ e]; exact h⟩
theorem vappend_dead {e : El} {bytes m : Nat} {σ σ' : Heap} {s u : Value} {xs : List Value} (h : vappend e bytes σ s m xs = some (u, σ')) : Dead σ σ' := by
  unfold vappend at h
  split at h
  · split at h
    · obtain ⟨rfl, rfl⟩ := pinj h; exact Dead.refl _
    · split at h
      · obtain ⟨rfl, rfl⟩ := pinj h; exact Dead.push _ _
      · cases h
  · split at h
    · rename_i hg
      split at h
      · split at h
        · obtain ⟨rfl, rfl⟩ := pinj h; exact Dead.refl _
        · split at h
          · split at h
            · obtain ⟨rfl, rfl⟩ := pinj h; exact Dead.upd _ _ _ (by rw [hg]; rfl)
            · cases h
          · split at h
            · split at h
              · obtain ⟨rfl, rfl⟩ := pinj h; exact Dead.push _ _
              · split at h
                · obtain ⟨rfl, rfl⟩ := pinj h; exact (Dead.kill _ _).trans (Dead.push _ _)
                · cases h
            · cases h
      · cases h
    · cases h
  · cases h
theorem vact_dead {o : VOp} {ev : Operand → Value} {σ σ' : Heap} {u : Value} (h : vact o ev σ = some (u, σ')) : Dead σ σ' := by
  by_cases hk : o.kind = 2
  · cases o <;> first | (cases hk; done) | skip
    case alloc t z => obtain ⟨rfl, rfl⟩ := pinj h; exact Dead.push _ _
    case box t x =>
      simp only [vact] at h
      split at h
      · obtain ⟨rfl, rfl⟩ := pinj h; exact Dead.push _ _
      · cases h
    case buildSlice e z n ps =>
      simp only [vact] at h
      split at h
      · obtain ⟨rfl, rfl⟩ := pinj h; exact Dead.push _ _
      · cases h
    case makeSlice e b z l c =>
      simp only [vact] at h
      split at h
      · split at h
        · obtain ⟨rfl, rfl⟩ := pinj h; exact Dead.push _ _
        · cases h
      · cases h
    case store size a x =>
      simp only [vact] at h
      split at h
      · split at h
        · rename_i hg
          split at h
          · obtain ⟨rfl, rfl⟩ := pinj h; exact Dead.upd _ _ _ (by rw [hg]; rfl)
          · cases h
        · cases h
      · cases h
    case append e b x y =>
      simp only [vact] at h
      split at h
      · split at h
        · exact vappend_dead h
        · cases h
      · cases h
    case slice size x lo hi mx =>
      simp only [vact] at h
      split at h
      · have sl : ∀ {l hh : Nat} {m : Option Nat} {v : Value}, vslice size σ v l hh m = some (u, σ') → Dead σ σ' := fun {l hh m v} h => by
          unfold vslice at h
          split at h
          · split at h
            · obtain ⟨rfl, rfl⟩ := pinj h; exact Dead.refl _
            · cases h
          · split at h
            · split at h
              · split at h
                · obtain ⟨rfl, rfl⟩ := pinj h; exact Dead.refl _
                · cases h
              · split at h
                · split at h
                  · obtain ⟨rfl, rfl⟩ := pinj h; exact Dead.push _ _
                  · obtain ⟨rfl, rfl⟩ := pinj h; exact Dead.refl _
                · cases h
            · cases h
          · cases h
        split at h
        · exact sl h
        · split at h
          · exact sl h
          · cases h
        · cases h
      · cases h
    case callF f a => cases h
    case callV f a => cases h
    case ext x =>
      cases x <;> first | (cases hk; done) | skip
      case makeMap => obtain ⟨rfl, rfl⟩ := pinj h; exact Dead.push _ _
      case mapUpdate mk m k v =>
        simp only [vact, xact] at h
        split at h
        · split at h
          · rename_i hm
            split at h
            · obtain ⟨rfl, rfl⟩ := pinj h
              refine Dead.upd _ _ _ ?_
              unfold Heap.mapAt at hm
              split at hm
              · rename_i hg; rw [hg]; rfl
              · cases hm
            · cases h
          · cases h
        · cases h
      case delete mk m k => cases h
      case rangeMap x =>
        simp only [vact, xact] at h
        split at h
        · split at h
          · obtain ⟨rfl, rfl⟩ := pinj h; exact Dead.push _ _
          · cases h
        · cases h
      case nextMap x => cases h
      case copy size a b =>
        simp only [vact, xact] at h
        split at h
        · split at h
          · obtain ⟨rfl, rfl⟩ := pinj h; exact Dead.refl _
          · split at h
            · split at h
              · rename_i hg
                split at h
                · obtain ⟨rfl, rfl⟩ := pinj h; exact Dead.upd _ _ _ (by rw [hg]; rfl)
                · cases h
              · cases h
            · cases h
        · cases h
      case unsafeStr e x n =>
        simp only [vact, xact] at h
        split at h
        · split at h
          · obtain ⟨rfl, rfl⟩ := pinj h; exact Dead.refl _
          · split at h
            · split at h
              · rename_i hg
                split at h
                · split at h
                  · obtain ⟨rfl, rfl⟩ := pinj h; exact Dead.upd _ _ _ (by rw [hg]; rfl)
                  · cases h
                · cases h
              · cases h
            · cases h
        · cases h
  · obtain rfl := act_quiet hk h; exact Dead.refl _
theorem gpick_sound {B F : Heap} {pl : Nat → Value} {tb : Nat → Option Bool} {s : St} {env : Env} {σ : Heap} (hG : Gam P B F pl tb s env σ) {gs : List Gd} (hg : Gds tb gs) {c a b : Operand} {v : SV} (h : gpick gs s.env c a b = some v) :
    ∃ u, vact (.pick c a b) (evalO env) σ = some (u, σ) ∧ SR P B pl tb v u := by
  have hc := hG.evs hg c
  unfold gpick at h
  split at h
  · rename_i n t heq
    rw [heq] at hc
    simp only [SR] at hc
    obtain ⟨e, htb⟩ := hc
    have ht : ∀ w, t = w → Gds tb (gs ++ [⟨n, w, t⟩]) := fun w hw g hg' => by
      rcases List.mem_append.1 hg' with h1 | h1
      · exact hg g h1
      · obtain rfl := List.mem_singleton.1 h1; exact ⟨hw, htb⟩
    have hv : ∀ u, (if t then evalO env a else evalO env b) = u → vact (.pick c a b) (evalO env) σ = some (u, σ) := fun u hu => by
      simp only [vact, e]; rw [← hu]
    split at h
    · rename_i b'
      simp only [Option.map_eq_some_iff] at h
      obtain ⟨y, h1, rfl⟩ := h
      refine ⟨.bool (t || y), hv _ ?_, sr_bool _⟩
      cases t with
      | true => rfl
      | false => simpa using asB_inv h1 (hG.evs (ht false rfl) _)
    · rename_i a' hne
      simp only [Option.map_eq_some_iff] at h
      obtain ⟨x, h1, rfl⟩ := h
      refine ⟨.bool (t && x), hv _ ?_, sr_bool _⟩
      cases t with
      | true => simpa using asB_inv h1 (hG.evs (ht true rfl) _)
      | false => rfl
    · split at h
      · rename_i k x k' y h1 h2
        split at h
        · rename_i hk
          subst hk
          obtain rfl := Option.some.inj h
          refine ⟨.int k (if t then x else y), hv _ ?_, sr_int _ _⟩
          cases t with
          | true => have := hG.evs (ht true rfl) a; rw [h1] at this; exact asI_inv rfl this
          | false => have := hG.evs (ht false rfl) b; rw [h2] at this; exact asI_inv rfl this
        · cases h
      · rename_i x y h1 h2
        obtain rfl := Option.some.inj h
        refine ⟨.bool (if t then x else y), hv _ ?_, sr_bool _⟩
        cases t with
        | true => have := hG.evs (ht true rfl) a; rw [h1] at this; exact asB_inv rfl this
        | false => have := hG.evs (ht false rfl) b; rw [h2] at this; exact asB_inv rfl this
      · cases h
  · cases h
theorem Gam.bid {B F : Heap} {pl : Nat → Value} {tb : Nat → Option Bool} {s : St} {env : Env} {σ : Heap} (hG : Gam P B F pl tb s env σ) {j : Nat} {v : SV} {c : Bool} (hv : ∀ tb', (∀ n c, tb n = some c → tb' n = some c) → tb' s.nx = some c → SR P B pl tb' v (env.getD j undef)) :
    ∃ tb', (∀ n c, tb n = some c → tb' n = some c) ∧ tb' s.nx = some c ∧ Gam P B F pl tb' ⟨s.env.set j v, s.own, s.nx + 1⟩ env σ := by
  refine ⟨fun n => if n = s.nx then some c else tb n, ?_, by simp, ?_⟩
  · intro n c' hn
    by_cases e : n = s.nx
    · rw [e, hG.free _ (Nat.le_refl _)] at hn; cases hn
    · simp only [if_neg e]; exact hn
  · have hm : ∀ n c', tb n = some c' → (fun n => if n = s.nx then some c else tb n) n = some c' := fun n c' hn => by
      by_cases e : n = s.nx
      · rw [e, hG.free _ (Nat.le_refl _)] at hn; cases hn
      · simp only [if_neg e]; exact hn
    refine ⟨hG.bf, hG.le, ?_, fun d => (hG.obj d).mono (Heap.Le.refl _) hm fun _ _ _ => rfl, hG.fresh, hG.sep, fun n hn => ?_⟩
    · have h1 := SRs.mono (Heap.Le.refl B) hm _ _ hG.env
      by_cases hj : j < env.length
      · have := h1.set j (hv _ hm (by simp))
        rwa [List.getD_eq_getElem?_getD, List.getElem?_eq_getElem hj, Option.getD_some, List.set_getElem_self] at this
      · have : s.env.set j v = s.env := List.set_eq_of_length_le (by rw [hG.env.length]; omega)
        rw [this]; exact h1
    · have : n ≠ s.nx := by simp only at hn; omega
      simp only [if_neg this]
      exact hG.free n (by simp only at hn; omega)
theorem not_all {gs : List Gd} (h : ¬ ∀ g ∈ gs, g.c = g.want) : ∃ g ∈ gs, g.c ≠ g.want := by
  rcases Classical.em (∃ g ∈ gs, g.c ≠ g.want) with h' | h'
  · exact h'
  · exact absurd (fun g hg => Classical.byContradiction fun hne => h' ⟨g, hg, hne⟩) h
theorem gguard_sound {B F : Heap} {pl : Nat → Value} {tb : Nat → Option Bool} {s : St} {env : Env} {σ : Heap} (hG : Gam P B F pl tb s env σ) {j : Nat} {want : Bool} {gs : List Gd} {s' : St} (h : gguard s j want = some (gs, s')) :
    ∃ tb', Gam P B F pl tb' s' env σ ∧ (∀ g ∈ gs, tb' g.id = some g.c) ∧ ∃ b, vwant env (some (j, want)) = some b ∧ (b = true → ∀ g ∈ gs, g.c = g.want) ∧ (b = false → ∃ g ∈ gs, g.c ≠ g.want) := by
  have hj := hG.env.getD j undef
  unfold gguard at h
  split at h
  · rename_i c heq
    obtain ⟨rfl, rfl⟩ := pinj h
    rw [heq] at hj
    have hb : env.getD j undef = .bool c := asB_inv (s := .val .bo c) rfl hj
    obtain ⟨tb', h1, h2, h3⟩ := hG.bid (j := j) (v := .bid s.nx c) (c := c) fun tb' _ h => by simp only [SR]; exact ⟨hb, h⟩
    refine ⟨tb', h3, fun g hg => by obtain rfl := List.mem_singleton.1 hg; exact h2, c == want, by simp only [vwant, hb], fun e g hg => ?_, fun e => ⟨_, List.mem_singleton.2 rfl, ?_⟩⟩
    · obtain rfl := List.mem_singleton.1 hg; simpa using e
    · simpa using e
  · rename_i n c heq
    obtain ⟨rfl, rfl⟩ := pinj h
    rw [heq] at hj
    simp only [SR] at hj
    refine ⟨tb, hG, fun g hg => by obtain rfl := List.mem_singleton.1 hg; exact hj.2, c == want, by simp only [vwant, hj.1], fun e g hg => ?_, fun e => ⟨_, List.mem_singleton.2 rfl, ?_⟩⟩
    · obtain rfl := List.mem_singleton.1 hg; simpa using e
    · simpa using e
  · rename_i gs0 c heq
    obtain ⟨rfl, rfl⟩ := pinj h
    rw [heq] at hj
    simp only [SR] at hj
    obtain ⟨⟨k1, k0⟩, k2, k3⟩ := hj
    obtain ⟨tb', h1, h2, h3⟩ := hG.bid (j := j) (v := .grd gs0 (.bid s.nx c)) (c := c) fun tb' hm h => by
      simp only [SR]
      exact ⟨⟨fun g hg => hm _ _ (k1 g hg), h⟩, fun hall => ⟨asB_inv (s := .val .bo c) (P := P) (B := B) (pl := pl) (tb := tb) rfl (by simpa only [SR] using k2 hall), h⟩, k3⟩
    refine ⟨tb', h3, fun g hg => ?_, ?_⟩
    · rcases List.mem_append.1 hg with h4 | h4
      · exact h1 _ _ (k1 g h4)
      · obtain rfl := List.mem_singleton.1 h4; exact h2
    · by_cases hall : ∀ g ∈ gs0, g.c = g.want
      · have hb : env.getD j undef = .bool c := asB_inv (s := .val .bo c) (P := P) (B := B) (pl := pl) (tb := tb) rfl (by simpa only [SR] using k2 hall)
        refine ⟨c == want, by simp only [vwant, hb], fun e g hg => ?_, fun e => ⟨_, List.mem_append.2 (.inr (List.mem_singleton.2 rfl)), by simpa using e⟩⟩
        rcases List.mem_append.1 hg with h4 | h4
        · exact hall g h4
        · obtain rfl := List.mem_singleton.1 h4; simpa using e
      · have hex := not_all hall
        refine ⟨false, by simp only [vwant, k3 hex]; rfl, (fun e => by cases e), fun _ => ?_⟩
        obtain ⟨g, hg, hne⟩ := hex
        exact ⟨g, List.mem_append.2 (.inl hg), hne⟩
  · rename_i gs0 n c heq
    obtain ⟨rfl, rfl⟩ := pinj h
    rw [heq] at hj
    simp only [SR] at hj
    obtain ⟨⟨k1, k0⟩, k2, k3⟩ := hj
    refine ⟨tb, hG, fun g hg => ?_, ?_⟩
    · rcases List.mem_append.1 hg with h4 | h4
      · exact k1 g h4
      · obtain rfl := List.mem_singleton.1 h4; exact k0
    · by_cases hall : ∀ g ∈ gs0, g.c = g.want
      · obtain ⟨hb, htb⟩ := k2 hall
        refine ⟨c == want, by simp only [vwant, hb], fun e g hg => ?_, fun e => ⟨_, List.mem_append.2 (.inr (List.mem_singleton.2 rfl)), by simpa using e⟩⟩
        rcases List.mem_append.1 hg with h4 | h4
        · exact hall g h4
        · obtain rfl := List.mem_singleton.1 h4; simpa using e
      · have hex := not_all hall
        refine ⟨false, by simp only [vwant, k3 hex]; rfl, (fun e => by cases e), fun _ => ?_⟩
        obtain ⟨g, hg, hne⟩ := hex
        exact ⟨g, List.mem_append.2 (.inl hg), hne⟩
  · cases h
theorem Gam.gcall {B F : Heap} {pl : Nat → Value} {tb : Nat → Option Bool} {s : St} {env : Env} {σ : Heap} (hG : Gam P B F pl tb s env σ) {gs : List Gd} (hg : Gds tb gs) (args : List Operand) : SRs P σ noPl noTb (ress s.own (args.map (gev gs s.env))) (args.map (evalO env)) :=
  ress_sound hG.leB hG.obj (SRs.map fun x _ => hG.evs hg x)
theorem Gam.gfun {B F : Heap} {pl : Nat → Value} {tb : Nat → Option Bool} {s : St} {env : Env} {σ : Heap} (hG : Gam P B F pl tb s env σ) {gs : List Gd} (hg : Gds tb gs) (f : Operand) : SR P σ noPl noTb ((ress s.own [gev gs s.env f]).getD 0 .any) (evalO env f) := by
  have := (ress_sound hG.leB hG.obj (show SRs P B pl tb [gev gs s.env f] [evalO env f] by simp only [SRs]; exact ⟨_, [], rfl, hG.evs hg f, rfl⟩)).getD 0 poison
  simpa using this
theorem vcallV_of {env : Env} {f : Operand} {args : List Operand} {σ : Heap} {K : Value → Heap → Prop} {g : FuncId} {a b : Array Value} (e : evalO env f = .func (.func g) a b) (h : VCalled P g (a.toList ++ args.map (evalO env) ++ b.toList) σ K) :
    vop (semSpecs P) (.callV f args) env σ K := by
  simp only [vop, e]
  exact h
def XOk (P : Program) (f : Nat) (x : XSp) : Prop :=
  ∀ (B F : Heap) (pl : Nat → Value) (tb : Nat → Option Bool) (s : St) (env : Env) (σ : Heap) (d : Nat) (args : List SV) (vs : List Value) (K : SV → St → Prop) (R : Value → Heap → Prop),
    Gam P B F pl tb s env σ → SRs P B pl tb args vs → x d args s K →
    (∀ v s' B' F' pl' tb' u σ', K v s' → GBase B F σ B' F' σ' → Gam P B' F' pl' tb' s' env σ' → SR P B' pl' tb' v u → R u σ') → VCalled P f vs σ R
def ItOk (P : Program) (f : Nat) (it : ISp) : Prop := Enterable P f ∧
  ∀ (B : Heap) (args : List SV) (vs : List Value) (c : Prop) (m ar : Nat) (xs : Nat → List SV), SRs P B noPl noTb args vs → it args = some (c, m, ar, xs) → c →
    (∀ k, (xs k).length = ar ∧ SVs.pure (xs k) = true) ∧ ∀ (i : Nat) (Y : VSpec) (J : Nat → Heap → Prop) (E : Heap → Prop) (τ0 : Heap), OkYield P i Y → (∀ k τ, J k τ → B.Le τ) →
      (∀ k us τ, k < m → J k τ → SRs P B noPl noTb (xs k) us → Y us τ fun v τ' => (v = .bool true ∧ J (k + 1) τ') ∨ (v = .bool false ∧ E τ')) →
      J 0 τ0 → VCallsTo P f (.func (.yield i) #[] #[] :: vs) τ0 fun _ τ => J m τ ∨ E τ
structure COk (P : Program) (C : Cx) : Prop where
  cs : CsOk P C.cs
  xs : ∀ f x, alook C.xs f = some x → XOk P f x
  it : ∀ f x, alook C.it f = some x → ItOk P f x
theorem gqc_sound {C : Cx} (hcs : CsOk P C.cs) {B F : Heap} {pl : Nat → Value} {tb : Nat → Option Bool} {s : St} {env : Env} {σ : Heap} (hG : Gam P B F pl tb s env σ) {gs : List Gd} (hg : Gds tb gs) {raw : Bool} {o : VOp} {cs : List Prop} {v : SV}
    (h : gqc C raw o (gev gs s.env) s.own = some (cs, v)) (hc : ∀ c ∈ cs, c) {K : Value → Heap → Prop} (hK : ∀ u, SR P B pl tb v u → K u σ) : vop (semSpecs P) o env σ K := by
  have flat : ∀ {c : Prop} {v' : SV}, (bif v'.ret 0 then some ([c], v') else none) = some (cs, v) → v'.ret 0 = true ∧ c ∧ v' = v := fun {c v'} h => by
    cases hv : v'.ret 0 with
    | false => rw [hv] at h; cases h
    | true =>
      rw [hv] at h
      obtain ⟨rfl, rfl⟩ := pinj h
      exact ⟨rfl, hc _ (by simp), rfl⟩
  have quiet : ∀ o, gq C.kt raw o (gev gs s.env) s.own = some (cs, v) → (∀ K, obind (vact o (evalO env) σ) (fun p => K p.1 p.2) → vop (semSpecs P) o env σ K) → vop (semSpecs P) o env σ K := fun o h hv => by
    obtain ⟨u, h1, h2⟩ := gq_sound (hG.evs hg) (fun _ => rfl) hG.leB hG.obj h hc
    exact hv K (by rw [h1]; exact hK u h2)
  cases o
  case callF f args =>
    simp only [gqc] at h
    split at h
    · rename_i c v' heq
      obtain ⟨h1, h2, rfl⟩ := flat h
      obtain ⟨g, a, b, h3, h4, _⟩ := gcallee_sound hcs (show SR P σ noPl noTb (.fn f [] []) (.func (.func f) #[] #[]) by simp only [SR, SRs]; exact ⟨[], [], rfl, rfl, rfl⟩) (hG.gcall hg args) heq h1 rfl h2
      obtain ⟨rfl, rfl, rfl⟩ := (by simpa using h3 : f = g ∧ #[] = a ∧ #[] = b)
      have := h4.mono (R' := K) fun u σ' hr => by
        obtain ⟨rfl, hu⟩ := hr.flat h1
        exact hK u (hu.retd (fun j hj => by omega) _ _ h1)
      show VCalled P f (args.map (evalO env)) σ K
      simpa using this
    · cases h
  case callV f args =>
    simp only [gqc] at h
    split at h
    · rename_i c v' heq
      obtain ⟨h1, h2, rfl⟩ := flat h
      obtain ⟨g, a, b, h3, h4, _⟩ := gcallee_sound hcs (hG.gfun hg f) (hG.gcall hg args) heq h1 rfl h2
      exact vcallV_of h3 (h4.mono fun u σ' hr => by
        obtain ⟨rfl, hu⟩ := hr.flat h1
        exact hK u (hu.retd (fun j hj => by omega) _ _ h1))
    · cases h
  case ext x =>
    cases x
    case nextMap x => cases h
    all_goals exact quiet _ h fun _ h => h
  all_goals exact quiet _ h fun _ h => h
end
end Go.V

namespace Go.V
open Go
section
variable {P : Program}
theorem unbid_sr {B : Heap} {pl : Nat → Value} {tb : Nat → Option Bool} {v : SV} {u : Value} (h : SR P B pl tb v u) : SR P B pl tb (unbid v) u ∧ gtb tb (unbid v) := by
  cases v with
  | bid n c => simp only [SR] at h; obtain ⟨rfl, _⟩ := h; exact ⟨sr_bool _, trivial⟩
  | _ => exact ⟨h, trivial⟩
theorem unbid_tb {tb : Nat → Option Bool} (v : SV) : gtb tb (unbid v) := by cases v <;> trivial
theorem gcallN_sound {C : Cx} (hcs : COk P C) {B F : Heap} {pl : Nat → Value} {tb : Nat → Option Bool} {s : St} {env : Env} {σ : Heap} (hG : Gam P B F pl tb s env σ) {d : Nat} {f : SV} {args : List SV} {fV : Value} {vs : List Value} (hf : SR P B pl tb f fV) (ha : SRs P B pl tb args vs) {K : SV → St → Prop} (h : gcallN C d f args s K) {R : Value → Heap → Prop}
    (hK : ∀ v s' B' F' pl' tb' u σ', K v s' → GBase B F σ B' F' σ' → Gam P B' F' pl' tb' s' env σ' → SR P B' pl' tb' v u → R u σ') : ∃ g a b, fV = .func (.func g) a b ∧ VCalled P g (a.toList ++ vs ++ b.toList) σ R := by
  unfold gcallN at h
  have hf' : SR P σ noPl noTb ((ress s.own [f]).getD 0 .any) fV := by
    have := (ress_sound hG.leB hG.obj (show SRs P B pl tb [f] [fV] by simp only [SRs]; exact ⟨_, [], rfl, hf, rfl⟩)).getD 0 poison
    simpa using this
  have ha' := ress_sound hG.leB hG.obj ha
  split at h
  · rename_i c v bs heq
    cases hb : (v.ret bs.length && (bs.all OB.ret && Nat.blt 0 C.nt)) with
    | false => rw [hb] at h; exact h.elim
    | true =>
      rw [hb] at h
      obtain ⟨h1, h2⟩ := h
      simp only [Bool.and_eq_true] at hb
      obtain ⟨g, a, b, e, hcall, _⟩ := gcallee_sound hcs.cs hf' ha' heq hb.1 hb.2.1 h1
      refine ⟨g, a, b, e, hcall.mono fun u σ' hr => ?_⟩
      obtain ⟨pl', h3, h4⟩ := hr.gam (nt := C.nt) (d := d) (by simpa [Nat.blt_eq] using hb.2.2) hG hb.1 hb.2.1
      exact hK _ _ B F pl' tb u σ' h2 (.of hG.bf hr.1.2) h3 h4
  · exact h.elim
theorem gcallX_sound {C : Cx} (hcs : COk P C) {B F : Heap} {pl : Nat → Value} {tb : Nat → Option Bool} {s : St} {env : Env} {σ : Heap} (hG : Gam P B F pl tb s env σ) {d : Nat} {f : SV} {args : List SV} {fV : Value} {vs : List Value} (hf : SR P B pl tb f fV) (ha : SRs P B pl tb args vs) {K : SV → St → Prop} (h : gcallX C d f args s K) {R : Value → Heap → Prop}
    (hK : ∀ v s' B' F' pl' tb' u σ', K v s' → GBase B F σ B' F' σ' → Gam P B' F' pl' tb' s' env σ' → SR P B' pl' tb' v u → R u σ') : ∃ g a b, fV = .func (.func g) a b ∧ VCalled P g (a.toList ++ vs ++ b.toList) σ R := by
  unfold gcallX at h
  split at h
  · rename_i g a b
    split at h
    · rename_i x hx
      have hf0 := hf
      simp only [SR] at hf
      obtain ⟨a', b', rfl, h1, h2⟩ := hf
      refine ⟨g, a'.toArray, b'.toArray, rfl, ?_⟩
      have := hcs.xs g x hx B F pl tb s env σ d _ _ K R hG (h1.append (ha.append h2)) h hK
      simpa using this
    · exact gcallN_sound hcs hG hf ha h hK
  · exact gcallN_sound hcs hG hf ha h hK
theorem gn_sound {C : Cx} (hcs : COk P C) {B F : Heap} {pl : Nat → Value} {tb : Nat → Option Bool} {s : St} {env : Env} {σ : Heap} (hG : Gam P B F pl tb s env σ) {d : Nat} {o : VOp} {K : SV → St → Prop} (h : gn C d o (gev [] s.env) s K) {R : Value → Heap → Prop}
    (hK : ∀ v s' B' F' pl' tb' u σ', K v s' → GBase B F σ B' F' σ' → Gam P B' F' pl' tb' s' env σ' → SR P B' pl' tb' v u → R u σ') : vop (semSpecs P) o env σ R := by
  have hev := hG.evs (Gds.nil (tb := tb))
  have act : ∀ o {T : Nat}, NOk P B F tb o (evalO env) env σ K T s pl → (∀ R', obind (vact o (evalO env) σ) (fun p => R' p.1 p.2) → vop (semSpecs P) o env σ R') → vop (semSpecs P) o env σ R := fun o _ ⟨u, σ', pl', v, s', h1, h2, h3, h4⟩ hv => hv R (by rw [h1]; exact hK v s' B F pl' tb u σ' h2 (.of hG.bf (vact_dead h1)) h3.1 h4)
  have hargs : ∀ args : List Operand, SRs P B pl tb (args.map (gev [] s.env)) (args.map (evalO env)) := fun args => SRs.map fun x _ => hG.evs Gds.nil x
  cases o
  case alloc t z => exact act _ (n_alloc hev hG h) fun _ h => h
  case box t x => exact act _ (n_box hev hG h) fun _ h => h
  case buildSlice e z n ps => exact act _ (n_buildSlice hev hG h) fun _ h => h
  case makeSlice e b z l c => exact act _ (n_makeSlice hev hG h) fun _ h => h
  case append e b x y => exact act _ (n_append hev hG h) fun _ h => h
  case store size a x => exact act _ (n_store hev hG h) fun _ h => h
  case callF f args =>
    simp only [gn] at h
    obtain ⟨g, a, b, h3, h4⟩ := gcallX_sound hcs hG (show SR P B pl tb (.fn f [] []) (.func (.func f) #[] #[]) by simp only [SR, SRs]; exact ⟨[], [], rfl, rfl, rfl⟩) (hargs args) h hK
    obtain ⟨rfl, rfl, rfl⟩ := (by simpa using h3 : f = g ∧ #[] = a ∧ #[] = b)
    show VCalled P f (args.map (evalO env)) σ R
    simpa using h4
  case callV f args =>
    simp only [gn] at h
    obtain ⟨g, a, b, h3, h4⟩ := gcallX_sound hcs hG (hG.evs Gds.nil f) (hargs args) h hK
    exact vcallV_of h3 h4
  case ext x =>
    cases x
    case mapUpdate mk m k v => exact act _ (n_mapUpdate hev hG h) fun _ h => h
    case copy size a b => exact act _ (n_copy hev hG h) fun _ h => h
    all_goals exact h.elim
  all_goals exact h.elim
section
variable {B F : Heap} {pl : Nat → Value} {tb : Nat → Option Bool} {s : St} {env : Env} {σ : Heap}
def Heap.ins (B σ : Heap) (i : Nat) (h : B.n ≤ σ.n) : Heap where
  get j := if j = i then σ.get i else B.get j
  n := σ.n
  wf j hj := by
    by_cases e : j = i
    · simp only [if_pos e]; subst e; exact σ.wf j hj
    · simp only [if_neg e]; exact B.wf j (Nat.le_trans h hj)
theorem Heap.ins_self (B σ : Heap) (i : Nat) (h : B.n ≤ σ.n) : (B.ins σ i h).get i = σ.get i := by simp [Heap.ins]
theorem Heap.ins_ne (B σ : Heap) {i j : Nat} (h : B.n ≤ σ.n) (e : j ≠ i) : (B.ins σ i h).get j = B.get j := by simp [Heap.ins, e]
theorem Heap.Le.ins {B σ : Heap} (h : B.Le σ) (i : Nat) : B.Le (B.ins σ i h.1) := ⟨h.1, fun j b hb => by
  by_cases e : j = i
  · subst e; rw [Heap.ins_self]; exact h.2 _ _ hb
  · rw [Heap.ins_ne _ _ _ e]; exact hb⟩
theorem Heap.Le.ins_le {B σ : Heap} (h : B.Le σ) (i : Nat) : (B.ins σ i h.1).Le σ := ⟨Nat.le_refl _, fun j b hb => by
  by_cases e : j = i
  · subst e; rw [Heap.ins_self] at hb; exact hb
  · rw [Heap.ins_ne _ _ _ e] at hb; exact h.2 _ _ hb⟩
theorem Heap.ins_ins {B F σ : Heap} (h : B.Le F) (i : Nat) (hB : B.n ≤ σ.n) (hF : F.n ≤ σ.n) : (B.ins σ i hB).Le (F.ins σ i hF) := ⟨Nat.le_refl _, fun j b hb => by
  by_cases e : j = i
  · subst e; rw [Heap.ins_self] at hb ⊢; exact hb
  · rw [Heap.ins_ne _ _ _ e] at hb ⊢; exact h.2 _ _ hb⟩
theorem Gam.freeze (hG : Gam P B F pl tb s env σ) {o i : Nat} (hl : (oget s.own o).live = true) (hi : oid (pl o) = some i) :
    GBase B F σ (B.ins σ i hG.leB.1) (F.ins σ i hG.le.1) σ ∧ Gam P (B.ins σ i hG.leB.1) (F.ins σ i hG.le.1) pl tb ⟨s.env, oset s.own o .dead, s.nx⟩ env σ := by
  have hFi := hG.fresh o i hl hi
  have lv : ∀ d, (oget (oset s.own o .dead) d).live = true → d ≠ o ∧ (oget s.own d).live = true := fun d h => by
    rw [oget_oset] at h
    by_cases e : d = o
    · rw [if_pos e] at h; cases h
    · rw [if_neg e] at h; exact ⟨e, h⟩
  refine ⟨⟨hG.leB.ins i, hG.le.ins i, fun j b h1 h2 => ?_, .refl _⟩, ⟨Heap.ins_ins hG.bf i _ _, hG.le.ins_le i, SRs.mono (hG.leB.ins i) (fun _ _ h => h) _ _ hG.env, fun d => ?_, fun d j h1 h2 => ?_, fun d d' j hne h1 h2 h3 h4 => hG.sep d d' j hne (lv d h1).2 (lv d' h2).2 h3 h4, hG.free⟩⟩
  · have e : j ≠ i := by rintro rfl; rw [hFi] at h1; cases h1
    rw [Heap.ins_ne _ _ _ e]; exact h2
  · simp only [oget_oset]
    by_cases e : d = o
    · rw [if_pos e]; trivial
    · rw [if_neg e]; exact (hG.obj d).mono (hG.leB.ins i) (fun _ _ h => h) fun _ _ _ => rfl
  · obtain ⟨hne, hlv⟩ := lv d h1
    have e : j ≠ i := by rintro rfl; exact hG.sep d o j hne hlv hl h2 hi
    rw [Heap.ins_ne _ _ _ e]; exact hG.fresh d j hlv h2
theorem Gam.own {s' : St} (hG : Gam P B F pl tb s env σ) (h1 : s'.env = s.env) (h2 : ∀ d, oget s'.own d = oget s.own d) (h3 : s'.nx = s.nx) : Gam P B F pl tb s' env σ :=
  ⟨hG.bf, hG.le, by rw [h1]; exact hG.env, fun d => by rw [h2]; exact hG.obj d, fun d i => by rw [h2]; exact hG.fresh d i, fun d d' i hne => by rw [h2, h2]; exact hG.sep d d' i hne, fun n hn => hG.free n (by rw [← h3]; exact hn)⟩
theorem Gam.drop (hG : Gam P B F pl tb s env σ) (o : Nat) : Gam P B F pl tb ⟨s.env, oset s.own o .dead, s.nx⟩ env σ := by
  have lv : ∀ d, (oget (oset s.own o .dead) d).live = true → d ≠ o ∧ (oget s.own d).live = true := fun d h => by
    rw [oget_oset] at h
    by_cases e : d = o
    · rw [if_pos e] at h; cases h
    · rw [if_neg e] at h; exact ⟨e, h⟩
  refine ⟨hG.bf, hG.le, hG.env, fun d => ?_, fun d j h1 h2 => hG.fresh d j (lv d h1).2 h2, fun d d' j hne h1 h2 h3 h4 => hG.sep d d' j hne (lv d h1).2 (lv d' h2).2 h3 h4, hG.free⟩
  simp only [oget_oset]
  by_cases e : d = o
  · rw [if_pos e]; trivial
  · rw [if_neg e]; exact hG.obj d
theorem make_drop (s : St) (d : Nat) (b : OB) (q : Nat) : oget (s.make d .dead).own q = oget (oset (s.make d b).own d .dead) q := by
  simp only [St.make, oget_oset]
  by_cases e : q = d
  · rw [if_pos e, if_pos e]
  · rw [if_neg e, if_neg e, if_neg e]
theorem ret_list {d nt : Nat} (hnt : 0 < nt) (hG : Gam P B F pl tb s env σ) {ty : Nat} {k : Kind} {xs : List k.T} {nl : Bool} (hk : k.flat = true) {u : Value} {σ' : Heap} (h : Ret P σ (.lst 0) [.lst ty k xs nl] u σ') :
    ∃ B' F' pl', GBase B F σ B' F' σ' ∧ Gam P B' F' pl' tb (s.make d .dead) env σ' ∧ SR P B' pl' tb (.val (.list k) xs) u := by
  obtain ⟨pl', h1, h2⟩ := h.gam (d := d) hnt hG (by rfl) (by simp only [List.all_cons, List.all_nil, Bool.and_true, OB.ret]; exact hk)
  simp only [St.makes, Nat.zero_mul, Nat.add_zero, SV.ren] at h1 h2
  have hob := h1.obj d
  have hget : oget (s.make d (.lst ty k xs nl)).own d = .lst ty k xs nl := by simp only [St.make, oget_oset, if_true]
  rw [hget] at hob
  simp only [SR] at h2
  obtain ⟨rfl, _⟩ := h2
  rcases hob with ⟨_, hx, hp⟩ | ⟨_, i, cap, c, t, hp, hcap, hg, hlen, hrows⟩
  · refine ⟨B, F, pl', .of hG.bf h.1.2, (h1.drop d).own rfl (make_drop s d _) rfl, ?_⟩
    simp only [SR]
    exact ⟨_, rfl, .inl ⟨hx, hp⟩⟩
  · obtain ⟨g1, g2⟩ := h1.freeze (o := d) (i := i) (by rw [hget]; rfl) (by rw [hp]; rfl)
    refine ⟨_, _, pl', (GBase.of hG.bf h.1.2).trans g1, g2.own rfl (make_drop s d _) rfl, ?_⟩
    simp only [SR]
    refine ⟨_, rfl, .inr ⟨i, 0, cap, c, ⟨k.size, ty⟩, true, t, hp, hcap, by rw [Heap.ins_self]; exact hg, rfl, by have := Nat.mul_le_mul_right k.size hcap; omega, ?_⟩⟩
    rw [List.drop_zero]
    exact hrows.mono fun _ _ e => KC.flat hk e
theorem glist1_inv {nt : Nat} {r : Option (Prop × SV × List OB)} {c : Prop} {v : SV} (h : glist1 nt r = some (c, v)) : ∃ ty k xs nl, r = some (c, .lst 0, [.lst ty k xs nl]) ∧ v = .val (.list k) xs ∧ k.flat = true ∧ 0 < nt := by
  unfold glist1 at h
  split at h
  · split at h
    · rename_i k xs _
      cases hc : (k.flat && Nat.blt 0 nt) with
      | false => rw [hc] at h; cases h
      | true =>
        rw [hc] at h
        obtain ⟨rfl, rfl⟩ := pinj h
        simp only [Bool.and_eq_true, Nat.blt_eq] at hc
        exact ⟨_, _, _, _, rfl, rfl, hc.1, hc.2⟩
    · cases h
  · cases h
theorem glist_sound {C : Cx} (hcs : CsOk P C.cs) (hG : Gam P B F pl tb s env σ) {gs : List Gd} (hg : Gds tb gs) {o : VOp} {c : Prop} {v : SV} {d : Nat} (h : glist C o (gev gs s.env) s.own = some (c, v)) (hc : c) {K : Value → Heap → Prop}
    (hK : ∀ u σ' B' F' pl', GBase B F σ B' F' σ' → Gam P B' F' pl' tb (s.make d .dead) env σ' → SR P B' pl' tb v u → K u σ') : vop (semSpecs P) o env σ K := by
  cases o <;> first | (cases h; done) | skip
  case callF f args =>
    simp only [glist] at h
    obtain ⟨ty, k, xs, nl, heq, rfl, hk, hnt⟩ := glist1_inv h
    obtain ⟨g, a, b, h3, h4, _⟩ := gcallee_sound hcs (show SR P σ noPl noTb (.fn f [] []) (.func (.func f) #[] #[]) by simp only [SR, SRs]; exact ⟨[], [], rfl, rfl, rfl⟩) (hG.gcall hg args) heq (by rfl) (by simp only [List.all_cons, List.all_nil, Bool.and_true, OB.ret]; exact hk) hc
    obtain ⟨rfl, rfl, rfl⟩ := (by simpa using h3 : f = g ∧ #[] = a ∧ #[] = b)
    have := h4.mono (R' := K) fun u σ' hr => by
      obtain ⟨B', F', pl', k1, k2, k3⟩ := ret_list (d := d) hnt hG hk hr
      exact hK u σ' B' F' pl' k1 k2 k3
    show VCalled P f (args.map (evalO env)) σ K
    simpa using this
  case callV f args =>
    simp only [glist] at h
    obtain ⟨ty, k, xs, nl, heq, rfl, hk, hnt⟩ := glist1_inv h
    obtain ⟨g, a, b, h3, h4, _⟩ := gcallee_sound hcs (hG.gfun hg f) (hG.gcall hg args) heq (by rfl) (by simp only [List.all_cons, List.all_nil, Bool.and_true, OB.ret]; exact hk) hc
    exact vcallV_of h3 (h4.mono fun u σ' hr => by
      obtain ⟨B', F', pl', k1, k2, k3⟩ := ret_list (d := d) hnt hG hk hr
      exact hK u σ' B' F' pl' k1 k2 k3)
end
theorem gop_sound {C : Cx} (hcs : COk P C) {B0 F0 D0 : Heap} {s : St} {env : Env} {σ : Heap} (hR : GRel P B0 F0 D0 s env σ) {o : VOper} {K : St → Prop} (h : gop C o s K) {R : Env → Heap → Prop} (hK : ∀ s' env' σ', K s' → GRel P B0 F0 D0 s' env' σ' → R env' σ') :
    obind (vwant env o.guard) fun b => vif b (vop (semSpecs P) o.op env σ fun v σ' => R (putE env o.dst v) σ') (R (putE env o.dst undef) σ) := by
  obtain ⟨B, F, pl, tb, hB, hG⟩ := hR
  unfold gop at h
  split at h
  · rename_i hg
    rw [hg]
    refine ⟨fun _ => ?_, fun e => by cases e⟩
    split at h
    · rename_i c a b hop
      split at h
      · rename_i v hv
        obtain ⟨u, h1, h2⟩ := gpick_sound hG Gds.nil hv
        rw [hop]
        show obind (vact (.pick c a b) (evalO env) σ) _
        rw [h1]
        exact hK _ _ _ h ⟨B, F, pl, tb, hB, hG.put o.dst h2⟩
      · exact h.elim
    · rename_i hnp
      cases hq : isQuiet o.op with
      | true =>
        rw [hq] at h
        simp only [_root_.cond_true] at h
        split at h
        · rename_i cs v hgq
          obtain ⟨h1, h2⟩ := gobl_holds h
          refine gqc_sound (C := C) hcs.cs hG Gds.nil (raw := C.raw.contains (o.dst.getD 0)) (cs := cs) (v := v) ?_ (h2 fun g hg => by cases hg) fun u hu => hK _ _ _ h1 ⟨B, F, pl, tb, hB, hG.put o.dst hu⟩
          rw [← hgq]
          cases ho : o.op <;> first | rfl | (rw [ho] at hq; cases hq)
        · exact h.elim
      | false =>
        rw [hq] at h
        simp only [_root_.cond_false] at h
        split at h
        · rename_i hop
          split at h
          · rename_i kk vk _
            obtain ⟨h1, h2⟩ := n_makeMap hG (C.off + o.dst.getD 0) kk vk
            rw [hop]
            change R (putE env o.dst (.map (some σ.n))) (σ.push (.obj (.map [] 0) true))
            exact hK _ _ _ h ⟨B, F, _, tb, dead_n hB (Dead.push _ _), h1.put o.dst h2⟩
          · exact h.elim
        · exact gn_sound hcs hG h fun v s' B' F' pl' tb' u σ' h1 hd h2 h3 => hK _ _ _ h1 ⟨B', F', pl', tb', hB.trans hd, h2.put o.dst h3⟩
  · rename_i j want hg
    rw [hg]
    split at h
    · exact h.elim
    · rename_i gs s' hgd
      obtain ⟨tb', hG', htb, b, hw, hb1, hb2⟩ := gguard_sound hG hgd
      rw [hw]
      refine ⟨fun e => ?_, fun e => ?_⟩
      · have hgs : Gds tb' gs := fun g hg => ⟨hb1 e g hg, htb g hg⟩
        have fin : ∀ {v u}, SR P B pl tb' v u → SR P B pl tb' (.grd gs (unbid v)) u := fun {v u} hs => by
          simp only [SR]
          obtain ⟨h1, h2⟩ := unbid_sr hs
          exact ⟨⟨htb, h2⟩, fun _ => h1, fun ⟨g, hg, hne⟩ => absurd (hb1 e g hg) hne⟩
        split at h
        · rename_i c a b' hop
          split at h
          · rename_i v hv
            obtain ⟨u, h1, h2⟩ := gpick_sound hG' hgs hv
            rw [hop]
            show obind (vact (.pick c a b') (evalO env) σ) _
            rw [h1]
            exact hK _ _ _ h ⟨B, F, pl, tb', hB, hG'.put o.dst (fin h2)⟩
          · exact h.elim
        · split at h
          · rename_i cs v hgq
            obtain ⟨h1, h2⟩ := gobl_holds h
            exact gqc_sound hcs.cs hG' hgs hgq (h2 (hb1 e)) fun u hu => hK _ _ _ h1 ⟨B, F, pl, tb', hB, hG'.put o.dst (fin hu)⟩
          · split at h
            · rename_i c v hgl
              obtain ⟨h1, h2⟩ := gobl_holds h
              refine glist_sound hcs.cs hG' hgs (d := C.off + o.dst.getD 0) hgl (h2 (hb1 e) c (by simp)) fun u σ' B' F' pl' k1 k2 k3 => hK _ _ _ h1 ⟨B', F', pl', tb', hB.trans k1, k2.put o.dst ?_⟩
              simp only [SR]
              refine ⟨⟨htb, ?_⟩, fun _ => k3, fun ⟨g, hg, hne⟩ => absurd (hb1 e g hg) hne⟩
              obtain ⟨_, k, xs, _, _, rfl, _⟩ := (show ∃ ty k xs nl, True ∧ v = .val (.list k) xs ∧ True by
                cases ho : o.op <;> (rw [ho] at hgl; first | (cases hgl; done) | (obtain ⟨ty, k, xs, nl, _, hv, _⟩ := glist1_inv hgl; exact ⟨ty, k, xs, nl, trivial, hv, trivial⟩)))
              trivial
            · exact h.elim
      · have fin : ∀ v, SR P B pl tb' (.grd gs (unbid v)) undef := fun v => by
          simp only [SR]
          obtain ⟨g, hg, hne⟩ := hb2 e
          exact ⟨⟨htb, unbid_tb v⟩, fun hall => absurd (hall g hg) hne, fun _ => trivial⟩
        split at h
        · split at h
          · exact hK _ _ _ h ⟨B, F, pl, tb', hB, hG'.put o.dst (fin _)⟩
          · exact h.elim
        · split at h
          · exact hK _ _ _ (gobl_holds h).1 ⟨B, F, pl, tb', hB, hG'.put o.dst (fin _)⟩
          · split at h
            · rename_i c v hgl
              refine hK _ _ _ (gobl_holds h).1 ⟨B, F, _, tb', hB, (hG'.make (C.off + o.dst.getD 0) .dead undef hG'.le (fun _ _ _ _ _ => rfl) trivial (fun i hl _ => by cases hl)).put o.dst ?_⟩
              simp only [SR]
              obtain ⟨g, hg, hne⟩ := hb2 e
              refine ⟨⟨htb, ?_⟩, fun hall => absurd (hall g hg) hne, fun _ => trivial⟩
              obtain ⟨_, k, xs, _, _, rfl, _⟩ := (show ∃ ty k xs nl, True ∧ v = .val (.list k) xs ∧ True by
                cases ho : o.op <;> (rw [ho] at hgl; first | (cases hgl; done) | (obtain ⟨ty, k, xs, nl, _, hv, _⟩ := glist1_inv hgl; exact ⟨ty, k, xs, nl, trivial, hv, trivial⟩)))
              trivial
            · exact h.elim
theorem gops_sound {C : Cx} (hcs : COk P C) {B0 F0 D0 : Heap} : ∀ (ops : List VOper) {s : St} {env : Env} {σ : Heap}, GRel P B0 F0 D0 s env σ → ∀ {K : St → Prop}, gops C ops s K → ∀ {R : Env → Heap → Prop}, (∀ s' env' σ', K s' → GRel P B0 F0 D0 s' env' σ' → R env' σ') → vops (semSpecs P) ops env σ R
  | [], s, env, σ, hR, _K, h, _R, hK => hK s env σ h hR
  | _o :: r, _s, _env, _σ, hR, _K, h, _R, hK => gop_sound hcs hR h fun _ _ _ h1 h2 => gops_sound hcs r h2 h1 hK
theorem seg_pureG {S : VSpecs} {l : List DOper} {rest : List DSeg} {env : Env} {σ : Heap} {K : Env → Heap → Prop} (h : l.all (fun o => !(o.kind == 2) && !(o.op.kind == 2)) = true) (hv : vops S (l.map dv) env σ fun env σ => vsegs S rest env σ K) : vsegs S (.alts [l] :: rest) env σ K := by
  intro ops ho
  obtain rfl := List.mem_singleton.1 ho
  have key : ∀ (l : List DOper) (env : Env) (pend : List (Nat × (Heap → Prop))) (K' : Env → Heap → Prop), l.all (fun o => !(o.kind == 2) && !(o.op.kind == 2)) = true → vops S (l.map dv) env σ K' → vopsD S l env [σ] σ pend K' := by
    intro l
    induction l with
    | nil => intro env pend K' _ h; exact h
    | cons o rest ih =>
      intro env pend K' hk h
      simp only [List.all_cons, Bool.and_eq_true, Bool.not_eq_true', beq_eq_false_iff_ne] at hk
      obtain ⟨⟨hk1, hk2⟩, hr⟩ := hk
      have hr : rest.all (fun o => !(o.kind == 2) && !(o.op.kind == 2)) = true := by simpa using hr
      simp only [List.map_cons, vops, dv] at h
      simp only [vopsD]
      cases hw : vwant env o.guard with
      | none => rw [hw] at h; exact h.elim
      | some b =>
        rw [hw] at h
        obtain ⟨ht, hf⟩ := h
        refine ⟨fun e => ?_, fun e => ?_⟩
        · have ht := ht e
          obtain ⟨p, hp, hr'⟩ : ∃ p, vact o.op (evalO env) σ = some p ∧ vops S (rest.map dv) (putE env o.dst p.1) p.2 K' := by
            have := ht
            unfold vop at this
            split at this
            · rename_i f axs heq; rw [heq] at hk2; exact absurd rfl hk2
            · rename_i f axs heq; rw [heq] at hk2; exact absurd rfl hk2
            · rename_i x heq; rw [heq] at hk2; exact absurd rfl hk2
            · cases hva : vact o.op (evalO env) σ with
              | none => rw [hva] at this; exact this.elim
              | some p => rw [hva] at this; exact ⟨p, rfl, this⟩
          have hq : p.2 = σ := act_quiet hk2 (v := p.1) (σ' := p.2) hp
          rw [hq] at hr'
          rw [if_neg hk1]
          split
          · rw [hp]
            refine ⟨fun τ hτ => ?_, ih _ _ _ hr hr'⟩
            have : τ = σ := by
              have := List.mem_of_mem_drop hτ
              simpa using this
            subst this
            show obind (vact o.op (evalO env) τ) _
            rw [hp]; rfl
          · rw [hp]; exact ih _ _ _ hr hr'
        · rw [if_neg hk1]
          exact ih _ _ _ hr (hf e)
  have := key ops env [] _ h hv
  have mono : ∀ (l : List DOper) (env : Env) (hs : List Heap) (τ : Heap) (pend : List (Nat × (Heap → Prop))) (A B : Env → Heap → Prop), l.all (fun o => !(o.kind == 2) && !(o.op.kind == 2)) = true → (∀ e s, A e s → B e s) → vopsD S l env hs τ pend A → vopsD S l env hs τ pend B := by
    intro l
    induction l with
    | nil => intro env hs τ pend A B _ hAB h; exact hAB _ _ h
    | cons o rest ih =>
      intro env hs τ pend A B hk hAB h
      simp only [List.all_cons, Bool.and_eq_true, Bool.not_eq_true', beq_eq_false_iff_ne] at hk
      obtain ⟨⟨hk1, hk2⟩, hr⟩ := hk
      have hr : rest.all (fun o => !(o.kind == 2) && !(o.op.kind == 2)) = true := by simpa using hr
      simp only [vopsD] at h ⊢
      cases hw : vwant env o.guard with
      | none => rw [hw] at h; exact h.elim
      | some b =>
        rw [hw] at h
        obtain ⟨ht, hf⟩ := h
        refine ⟨fun e => ?_, fun e => ?_⟩
        · have ht := ht e
          rw [if_neg hk1] at ht ⊢
          by_cases hk3 : o.kind = 1
          · rw [if_pos hk3] at ht ⊢
            cases hva : vact o.op (evalO env) τ with
            | none => rw [hva] at ht; exact ht.elim
            | some p => rw [hva] at ht; exact ⟨ht.1, ih _ _ _ _ _ _ hr hAB ht.2⟩
          · rw [if_neg hk3] at ht ⊢
            cases hva : vact o.op (evalO env) τ with
            | none => rw [hva] at ht; exact ht.elim
            | some p => rw [hva] at ht; exact ih _ _ _ _ _ _ hr hAB ht
        · have hf := hf e
          rw [if_neg hk1] at hf ⊢
          exact ih _ _ _ _ _ _ hr hAB hf
  exact mono ops env _ _ _ _ _ h (fun e s hs => ⟨e, s, .refl _ _ _, hs⟩) this
theorem vreads_of {op : VOp} {ev : Operand → Value} {u : Value} {τ τ' : Heap} (h : vact op ev τ = some (u, τ')) : vreads op ev u τ := by
  unfold vreads; rw [h]; rfl
theorem put_own (s : St) (d : Option Nat) (v : SV) : (s.put d v).own = s.own := by cases d <;> rfl
theorem gguard_own {s s' : St} {j : Nat} {want : Bool} {gs : List Gd} (h : gguard s j want = some (gs, s')) : s'.own = s.own := by
  unfold gguard at h
  split at h <;> first | (cases h; done) | (obtain ⟨_, rfl⟩ := pinj h; rfl)
theorem gd1_sound {C : Cx} {B F : Heap} {pl : Nat → Value} {tb : Nat → Option Bool} {s : St} {env : Env} {σ : Heap} (hG : Gam P B F pl tb s env σ) {o : DOper} {K : St → Prop} (h : gd1 C o s K) :
    ∃ b, vwant env o.guard = some b ∧ (b = true → ∃ u s' tb', vact o.op (evalO env) σ = some (u, σ) ∧ K s' ∧ s'.own = s.own ∧ Gam P B F pl tb' s' (putE env o.dst u) σ) ∧ (b = false → ∃ s' tb', K s' ∧ s'.own = s.own ∧ Gam P B F pl tb' s' (putE env o.dst undef) σ) := by
  unfold gd1 at h
  split at h
  · rename_i hg
    rw [hg]
    refine ⟨true, rfl, fun _ => ?_, fun e => by cases e⟩
    split at h
    · rename_i c a b hop
      split at h
      · rename_i v hv
        obtain ⟨u, h1, h2⟩ := gpick_sound hG Gds.nil hv
        exact ⟨u, _, tb, by rw [hop]; exact h1, h, put_own _ _ _, hG.put o.dst h2⟩
      · exact h.elim
    · split at h
      · rename_i cs v hgq
        obtain ⟨h1, h2⟩ := gobl_holds h
        obtain ⟨u, h3, h4⟩ := gq_sound (hG.evs (Gds.nil (tb := tb))) (fun _ => rfl) hG.leB hG.obj hgq (h2 fun g hg => by cases hg)
        exact ⟨u, _, tb, h3, h1, put_own _ _ _, hG.put o.dst h4⟩
      · exact h.elim
  · rename_i j want hg
    rw [hg]
    split at h
    · exact h.elim
    · rename_i gs s' hgd
      obtain ⟨tb', hG', htb, b, hw, hb1, hb2⟩ := gguard_sound hG hgd
      refine ⟨b, hw, fun e => ?_, fun e => ?_⟩
      · have hgs : Gds tb' gs := fun g hg => ⟨hb1 e g hg, htb g hg⟩
        have fin : ∀ {v u}, SR P B pl tb' v u → SR P B pl tb' (.grd gs (unbid v)) u := fun {v u} hs => by
          simp only [SR]
          obtain ⟨h1, h2⟩ := unbid_sr hs
          exact ⟨⟨htb, h2⟩, fun _ => h1, fun ⟨g, hg, hne⟩ => absurd (hb1 e g hg) hne⟩
        split at h
        · rename_i c a b' hop
          split at h
          · rename_i v hv
            obtain ⟨u, h1, h2⟩ := gpick_sound hG' hgs hv
            exact ⟨u, _, tb', by rw [hop]; exact h1, h, (put_own _ _ _).trans (gguard_own hgd), hG'.put o.dst (fin h2)⟩
          · exact h.elim
        · split at h
          · rename_i cs v hgq
            obtain ⟨h1, h2⟩ := gobl_holds h
            obtain ⟨u, h3, h4⟩ := gq_sound (hG'.evs hgs) (fun _ => rfl) hG'.leB hG'.obj hgq (h2 (hb1 e))
            exact ⟨u, _, tb', h3, h1, (put_own _ _ _).trans (gguard_own hgd), hG'.put o.dst (fin h4)⟩
          · exact h.elim
      · have fin : ∀ v, SR P B pl tb' (.grd gs (unbid v)) undef := fun v => by
          simp only [SR]
          obtain ⟨g, hg, hne⟩ := hb2 e
          exact ⟨⟨htb, unbid_tb v⟩, fun hall => absurd (hall g hg) hne, fun _ => trivial⟩
        split at h
        · split at h
          · exact ⟨_, tb', h, (put_own _ _ _).trans (gguard_own hgd), hG'.put o.dst (fin _)⟩
          · exact h.elim
        · split at h
          · exact ⟨_, tb', (gobl_holds h).1, (put_own _ _ _).trans (gguard_own hgd), hG'.put o.dst (fin _)⟩
          · exact h.elim
theorem allWf_holds {bs : List OB} {q : Prop} (h : allWf bs q) : (∀ b ∈ bs, b.wf) ∧ q := by
  induction bs with
  | nil => exact ⟨(fun b hb => by cases hb), h⟩
  | cons b r ih =>
    obtain ⟨h1, h2⟩ := h
    obtain ⟨h3, h4⟩ := ih h2
    exact ⟨fun b' hb' => by
      rcases List.mem_cons.1 hb' with rfl | hb'
      · exact h1
      · exact h3 b' hb', h4⟩
mutual
theorem ren_ret0 {d nt : Nat} : ∀ (v : SV), v.ret 0 = true → (v.ren d nt).ret 0 = true
  | .val k x, h => h
  | .nilS, _ | .nilP, _ | .nilM, _ | .nilF, _ => rfl
  | .lst j, h | .box j _, h | .map j, h => by simp [SV.ret, Nat.blt] at h
  | .agg l, h => by simp only [SV.ren, SV.ret] at h ⊢; exact rens_ret0 l h
  | .tup l, h => by simp only [SV.ren, SV.ret] at h ⊢; exact rens_ret0 l h
  | .any, h | .bid _ _, h | .grd _ _, h | .sub _ _ _ _, h | .elp _ _ _ _, h | .rop _ _ _ _, h | .cp _ _, h | .fn _ _ _, h | .pf _ _ _ _, h => by cases h
theorem rens_ret0 {d nt : Nat} : ∀ (v : List SV), SVs.ret 0 v = true → SVs.ret 0 (SVs.ren d nt v) = true
  | [], _ => rfl
  | s :: ss, h => by
    simp only [SVs.ret, SVs.ren, Bool.and_eq_true] at h ⊢
    exact ⟨ren_ret0 s h.1, rens_ret0 ss h.2⟩
end
theorem gdcall_sound {C : Cx} (hcs : COk P C) {B F : Heap} {pl : Nat → Value} {tb : Nat → Option Bool} {s : St} {env : Env} {σ : Heap} (hG : Gam P B F pl tb s env σ) {d : Nat} {f : SV} {args : List SV} {K : Bool → SV → St → Prop} (h : gdcall C d f args s K) {fV : Value} {vs : List Value}
    (hf : SR P σ noPl noTb f fV) (ha : SRs P σ noPl noTb args vs) : ∃ g a b u σ' e v s' pl', fV = .func (.func g) a b ∧ (VCalled P g (a.toList ++ vs ++ b.toList) σ fun u' σ'' => u' = u ∧ σ'' = σ') ∧ K e v s' ∧ Gam P B F pl' tb s' env σ' ∧ SR P B pl' tb v u ∧ (e = true → σ' = σ ∧ pl' = pl ∧ s' = s) ∧ σ.Le σ' ∧ Dead σ σ' := by
  unfold gdcall at h
  split at h
  · rename_i c v bs heq
    cases hb : (v.ret bs.length && (bs.all OB.ret && (Nat.blt 0 C.nt && (bs.all OB.isL && noBox v)))) with
    | false => rw [hb] at h; exact h.elim
    | true =>
      rw [hb] at h
      obtain ⟨h1, h2⟩ := h
      obtain ⟨h3, h4⟩ := allWf_holds h2
      simp only [Bool.and_eq_true] at hb
      obtain ⟨hv, hbr, hnt, hl, hnb⟩ := hb
      obtain ⟨g, a, b, e, _, hx⟩ := gcallee_sound hcs.cs hf ha heq hv hbr h1
      have hret := canon_ret (P := P) σ hv hnb hbr hl (fun b hb => by have := h3 b hb; cases b <;> exact this)
      by_cases hbs : bs = []
      · subst hbs
        obtain ⟨k1, k2⟩ := hret.flat hv
        refine ⟨g, a, b, _, _, _, _, _, pl, e, hx hl hnb, h4, ?_, ?_, fun _ => ⟨k1, rfl, rfl⟩, hret.1.1, hret.1.2⟩
        · rw [k1]; exact hG
        · exact SR.retd (B := hNil) (pl := pl) (tb := noTb) (n := 0) (fun j hj => by omega) _ _ (ren_ret0 v hv) (SR.ren (pl := noPl) (tb := noTb) (n := 0) (fun j hj => by omega) v _ hv k2)
      · obtain ⟨pl', h5, h6⟩ := hret.gam (nt := C.nt) (d := d) (by simpa [Nat.blt_eq] using hnt) hG hv hbr
        refine ⟨g, a, b, _, _, _, _, _, pl', e, hx hl hnb, h4, h5, h6, fun he => absurd (by simpa using he) hbs, hret.1.1, hret.1.2⟩
  · exact h.elim
def isCall : VOp → Bool
  | .callF .. | .callV .. => true
  | _ => false
theorem gn_nok {C : Cx} {B F : Heap} {pl : Nat → Value} {tb : Nat → Option Bool} {s : St} {env : Env} {σ : Heap} (hG : Gam P B F pl tb s env σ) {d : Nat} {o : VOp} {K : SV → St → Prop} (h : gn C d o (gev [] s.env) s K) (hc : isCall o = false) :
    NOk P B F tb o (evalO env) env σ K (gtouch d o (gev [] s.env)) s pl := by
  have hev := hG.evs (Gds.nil (tb := tb))
  cases o
  case alloc t z => exact n_alloc hev hG h
  case box t x => exact n_box hev hG h
  case buildSlice e z n ps => exact n_buildSlice hev hG h
  case makeSlice e b z l c => exact n_makeSlice hev hG h
  case append e b x y => exact n_append hev hG h
  case store size a x => exact n_store hev hG h
  case callF => cases hc
  case callV => cases hc
  case ext x =>
    cases x
    case mapUpdate mk m k v => exact n_mapUpdate hev hG h
    case copy size a b => exact n_copy hev hG h
    all_goals exact h.elim
  all_goals exact h.elim
theorem make_le {o : VOp} {ev : Operand → Value} {σ σ' : Heap} {u : Value} (hm : isMake o = true) (h : vact o ev σ = some (u, σ')) : σ.Le σ' := by
  have push : ∀ b : Blk, σ.Le (σ.push b) := fun b => (Heap.Le.refl σ).push b
  cases o <;> first | (cases hm; done) | skip
  case alloc t z => obtain ⟨rfl, rfl⟩ := pinj h; exact push _
  case box t x =>
    simp only [vact] at h
    split at h
    · obtain ⟨rfl, rfl⟩ := pinj h; exact push _
    · cases h
  case buildSlice e z n ps =>
    simp only [vact] at h
    split at h
    · obtain ⟨rfl, rfl⟩ := pinj h; exact push _
    · cases h
  case makeSlice e b z l c =>
    simp only [vact] at h
    split at h
    · split at h
      · obtain ⟨rfl, rfl⟩ := pinj h; exact push _
      · cases h
    · cases h
def RdOk (σ : Heap) (own : Own) (pl : Nat → Value) (Q : Heap → Prop) : Option Nat → Prop
  | none => ∀ τ, σ.Le τ → Q τ
  | some q => (oget own q).live = true ∧ ∃ i b, oid (pl q) = some i ∧ σ.get i = some b ∧ ∀ τ, τ.get i = some b → Q τ
structure DSt (hs : List Heap) (σ : Heap) (pend : List (Nat × (Heap → Prop))) (hl chg : Nat) (A R : List (Nat × Option Nat)) (own : Own) (pl : Nat → Value) : Prop where
  len : hs.length = hl
  same : ∀ j τ, chg ≤ j → hs[j]? = some τ → τ = σ
  pend : ∀ c ∈ pend, c.1 < hl ∨ ∃ r ∈ R, c.1 ≤ r.1 ∧ RdOk σ own pl c.2 r.2
  fr : ∀ j τ q i, hs[j]? = some τ → untouched A j q = true → (oget own q).live = true → oid (pl q) = some i → τ.get i = σ.get i
theorem vpend_of {r : Nat} {σ : Heap} : ∀ {l : List (Nat × (Heap → Prop))}, (∀ c ∈ l, r ≤ c.1 → c.2 σ) → vpend r σ l
  | [], _ => trivial
  | c :: l, h => ⟨h c (by simp), vpend_of fun c' hc' => h c' (by simp [hc'])⟩
theorem get_snoc {hs : List Heap} {σ' τ : Heap} {j : Nat} (h : (hs ++ [σ'])[j]? = some τ) : (j < hs.length ∧ hs[j]? = some τ) ∨ (j = hs.length ∧ τ = σ') := by
  rw [List.getElem?_append] at h
  split at h
  · rename_i hlt; exact .inl ⟨hlt, h⟩
  · have : j - hs.length = 0 := by
      cases hz : j - hs.length with
      | zero => rfl
      | succ n => rw [hz] at h; simp at h
    rw [this] at h
    exact .inr ⟨by omega, by simpa using h.symm⟩
theorem untouched_cons {a : Nat × Option Nat} {A : List (Nat × Option Nat)} {j q : Nat} (h : untouched (a :: A) j q = true) (hj : j ≤ a.1) : (∃ t, a.2 = some t ∧ t ≠ q) ∧ untouched A j q = true := by
  simp only [untouched, List.all_cons, Bool.and_eq_true, Bool.or_eq_true, Nat.blt_eq] at h
  refine ⟨?_, h.2⟩
  rcases h.1 with h | h
  · omega
  · split at h
    · rename_i t ht
      exact ⟨t, ht, fun e => by subst e; simp at h⟩
    · cases h
theorem DSt.stay {hs : List Heap} {σ : Heap} {pend : List (Nat × (Heap → Prop))} {hl chg : Nat} {A R : List (Nat × Option Nat)} {own : Own} {pl : Nat → Value} (h : DSt hs σ pend hl chg A R own pl) :
    vpend hs.length σ pend ∧ DSt (hs ++ [σ]) σ pend (hl + 1) chg A R own pl := by
  have hr : ∀ c ∈ pend, ∀ r ∈ R, RdOk σ own pl c.2 r.2 → c.2 σ := fun c _ r _ hok => by
    unfold RdOk at hok
    split at hok
    · exact hok σ (.refl _)
    · obtain ⟨_, i, b, _, h2, h3⟩ := hok; exact h3 σ h2
  refine ⟨vpend_of fun c hc hle => ?_, ⟨by simp [h.len], fun j τ hj ht => ?_, fun c hc => ?_, fun j τ q i ht hu hl hi => ?_⟩⟩
  · rcases h.pend c hc with h1 | ⟨r, h1, _, h2⟩
    · rw [h.len] at hle; omega
    · exact hr c hc r h1 h2
  · rcases get_snoc ht with ⟨_, h1⟩ | ⟨_, h1⟩
    · exact h.same j τ hj h1
    · exact h1
  · rcases h.pend c hc with h1 | h1
    · exact .inl (by omega)
    · exact .inr h1
  · rcases get_snoc ht with ⟨_, h1⟩ | ⟨_, rfl⟩
    · exact h.fr j τ q i h1 hu hl hi
    · rfl
theorem DSt.call {hs : List Heap} {σ σ' : Heap} {pend : List (Nat × (Heap → Prop))} {hl chg : Nat} {A R : List (Nat × Option Nat)} {own own' : Own} {pl pl' : Nat → Value} (h : DSt hs σ pend hl chg A R own pl) (hle : σ.Le σ') (hl0 : 0 < hl) :
    vpend hs.length σ' pend ∧ DSt (hs ++ [σ']) σ' pend (hl + 1) hl ((hl - 1, none) :: A) (R.map fun r => (r.1, none)) own' pl' := by
  have hr : ∀ Q r, RdOk σ own pl Q r → ∀ τ, σ'.Le τ → Q τ := fun Q r hok τ ht => by
    unfold RdOk at hok
    split at hok
    · exact hok τ (hle.trans ht)
    · obtain ⟨_, i, b, _, h2, h3⟩ := hok; exact h3 τ (ht.2 _ _ (hle.2 _ _ h2))
  refine ⟨vpend_of fun c hc hle => ?_, ⟨by simp [h.len], fun j τ hj ht => ?_, fun c hc => ?_, fun j τ q i ht hu hl' hi => ?_⟩⟩
  · rcases h.pend c hc with h1 | ⟨r, h1, _, h2⟩
    · rw [h.len] at hle; omega
    · exact hr _ _ h2 _ (.refl _)
  · rcases get_snoc ht with ⟨h1, _⟩ | ⟨_, h1⟩
    · rw [h.len] at h1; omega
    · exact h1
  · rcases h.pend c hc with h1 | ⟨r, h1, h2, h3⟩
    · exact .inl (by omega)
    · exact .inr ⟨(r.1, none), List.mem_map.2 ⟨r, h1, rfl⟩, h2, hr _ _ h3⟩
  · rcases get_snoc ht with ⟨h1, _⟩ | ⟨_, rfl⟩
    · rw [h.len] at h1
      obtain ⟨⟨t, ht, _⟩, _⟩ := untouched_cons hu (by simp only; omega)
      cases ht
    · rfl
theorem DSt.write {hs : List Heap} {σ σ' : Heap} {pend : List (Nat × (Heap → Prop))} {hl chg : Nat} {A R : List (Nat × Option Nat)} {s s' : St} {pl pl' : Nat → Value} (h : DSt hs σ pend hl chg A R s.own pl) {T : Nat} (hf : Fr T s s' pl pl' σ σ') {mk : Bool} (hm : mk = true → σ.Le σ')
    (hc : ((mk && rdKeep R hl T) || rdFree R hl T) = true) (hl0 : 0 < hl) : vpend hs.length σ' pend ∧ DSt (hs ++ [σ']) σ' pend (hl + 1) hl ((hl - 1, some T) :: A) R s'.own pl' := by
  have hr : ∀ Q : Heap → Prop, ∀ r ∈ R, hl ≤ r.1 → RdOk σ s.own pl Q r.2 → RdOk σ' s'.own pl' Q r.2 := fun Q r hrR hge hok => by
    have hq : ∀ q, r.2 = some q → q ≠ T := fun q hq e => by
      subst e
      simp only [Bool.or_eq_true, Bool.and_eq_true, rdKeep, rdFree] at hc
      rcases hc with ⟨_, hc⟩ | hc
      · have := List.all_eq_true.1 hc r hrR
        rw [hq] at this
        simp only [Bool.or_eq_true, Nat.blt_eq, Nat.beq_refl, Bool.not_true, Bool.false_eq_true, or_false] at this
        omega
      · have := List.all_eq_true.1 hc r hrR
        rw [hq] at this
        simp only [Bool.or_eq_true, Nat.blt_eq, Nat.beq_refl, Bool.not_true, Bool.false_eq_true, or_false] at this
        omega
    cases e : r.2 with
    | none =>
      rw [e] at hok
      have hmk : mk = true := by
        simp only [Bool.or_eq_true, Bool.and_eq_true, rdFree] at hc
        rcases hc with ⟨hc, _⟩ | hc
        · exact hc
        · have := List.all_eq_true.1 hc r hrR
          rw [e] at this
          simp only [Bool.or_eq_true, Nat.blt_eq, Bool.false_eq_true, or_false] at this
          omega
      exact fun τ ht => hok τ ((hm hmk).trans ht)
    | some q =>
      rw [e] at hok
      obtain ⟨k1, i, b, k2, k3, k4⟩ := hok
      obtain ⟨f1, f2, f3⟩ := hf q (hq q e)
      exact ⟨by rw [f1]; exact k1, i, b, by rw [f2]; exact k2, by rw [f3 k1 i k2]; exact k3, k4⟩
  have now : ∀ Q : Heap → Prop, ∀ r, RdOk σ' s'.own pl' Q r → Q σ' := fun Q r hok => by
    unfold RdOk at hok
    split at hok
    · exact hok σ' (.refl _)
    · obtain ⟨_, i, b, _, h2, h3⟩ := hok; exact h3 σ' h2
  refine ⟨vpend_of fun c hc hle => ?_, ⟨by simp [h.len], fun j τ hj ht => ?_, fun c hc => ?_, fun j τ q i ht hu hl' hi => ?_⟩⟩
  · rw [h.len] at hle
    rcases h.pend c hc with h1 | ⟨r, h1, h2, h3⟩
    · omega
    · exact now _ _ (hr _ r h1 (by omega) h3)
  · rcases get_snoc ht with ⟨h1, _⟩ | ⟨_, h1⟩
    · rw [h.len] at h1; omega
    · exact h1
  · rcases h.pend c hc with h1 | ⟨r, h1, h2, h3⟩
    · exact .inl (by omega)
    · by_cases hge : hl ≤ r.1
      · exact .inr ⟨r, h1, h2, hr _ r h1 hge h3⟩
      · exact .inl (by omega)
  · rcases get_snoc ht with ⟨h1, h2⟩ | ⟨_, rfl⟩
    · rw [h.len] at h1
      obtain ⟨⟨t, ht, htq⟩, hu'⟩ := untouched_cons hu (by simp only; omega)
      obtain rfl := Option.some.inj ht
      obtain ⟨f1, f2, f3⟩ := hf q (Ne.symm htq)
      rw [f1] at hl'
      rw [f2] at hi
      rw [f3 hl' i hi]
      exact h.fr j τ q i h2 hu' hl' hi
    · rfl
theorem here_live {b : OB} (h : b.here = true) : b.live = true := by cases b <;> first | rfl | cases h
theorem rdThing_sound {B F : Heap} {pl : Nat → Value} {tb : Nat → Option Bool} {s : St} {env : Env} {σ : Heap} (hG : Gam P B F pl tb s env σ) {o : VOp} {q : Nat} (h : rdThing o (gev [] s.env) s.own = some q) {u : Value} {σ2 : Heap} (hv : vact o (evalO env) σ = some (u, σ2)) :
    (oget s.own q).live = true ∧ ∃ i b, oid (pl q) = some i ∧ σ.get i = some b ∧ ∀ τ, τ.get i = some b → vact o (evalO env) τ = some (u, τ) := by
  unfold rdThing at h
  split at h
  · rename_i agg size a
    have ha := hG.evs (Gds.nil (tb := tb)) a
    have key : ∀ q i off, (oget s.own q).live = true → oid (pl q) = some i → evalO env a = .pointer (some ⟨i, off, none⟩) → (oget s.own q).live = true ∧ ∃ i b, oid (pl q) = some i ∧ σ.get i = some b ∧ ∀ τ, τ.get i = some b → vact (.load agg size a) (evalO env) τ = some (u, τ) := fun q i off hl hi he => by
      simp only [vact, he] at hv
      cases hb : σ.get i with
      | none => rw [hb] at hv; cases hv
      | some b =>
        refine ⟨hl, i, b, hi, hb, fun τ ht => ?_⟩
        rw [hb] at hv
        simp only [vact, he, ht]
        cases b with
        | obj o wr => cases hv
        | cells c e wr t =>
          simp only at hv ⊢
          split at hv
          · obtain ⟨rfl, rfl⟩ := pinj hv; rfl
          · cases hv
    split at h
    · rename_i q' off hx
      rw [hx] at ha
      simp only [SR] at ha
      obtain ⟨b, h1, h2⟩ := ha
      cases hh : (oget s.own q').here with
      | false => rw [hh] at h; cases h
      | true =>
        rw [hh] at h
        obtain rfl := Option.some.inj h
        exact key q' b off (here_live hh) (by rw [h1]; rfl) h2
    · rename_i q' i off sz hx
      rw [hx] at ha
      simp only [SR] at ha
      obtain ⟨b, len, cap, h1, h2, h3, h4⟩ := ha
      cases hh : (oget s.own q').here with
      | false => rw [hh] at h; cases h
      | true =>
        rw [hh] at h
        obtain rfl := Option.some.inj h
        exact key q' b _ (here_live hh) (by rw [h1]; rfl) h4
    · cases h
  · cases h
theorem gopsD_sound {C : Cx} (hcs : COk P C) {B0 F0 D0 : Heap} : ∀ (ops : List DOper), (∀ o ∈ ops, o.kind = o.op.kind) → ∀ {s : St} {env : Env} {σ : Heap} {B F : Heap} {pl : Nat → Value} {tb : Nat → Option Bool}, GBase B0 F0 D0 B F σ → Gam P B F pl tb s env σ → ∀ {hl chg : Nat} {A Rd : List (Nat × Option Nat)} {hs : List Heap} {pend : List (Nat × (Heap → Prop))}, DSt hs σ pend hl chg A Rd s.own pl → chg ≤ hl → 0 < hl →
    ∀ {K : St → Prop}, gopsD C ops s hl chg A Rd K → ∀ {R : Env → Heap → Prop}, (∀ s' env' σ', K s' → GRel P B0 F0 D0 s' env' σ' → R env' σ') → vopsD (semSpecs P) ops env hs σ pend R
  | [], _, s, env, σ, B, F, pl, tb, hB, hG, _, _, _, _, _, _, _, _, _, K, h, R, hK => hK s env σ h ⟨B, F, pl, tb, hB, hG⟩
  | o :: r, hkind, s, env, σ, B, F, pl, tb, hB, hG, hl, chg, A, Rd, hs, pend, hD, hch, hl0, K, h, R, hK => by
    have hkr : ∀ o ∈ r, o.kind = o.op.kind := fun o' ho' => hkind o' (List.mem_cons_of_mem _ ho')
    have hko := hkind o List.mem_cons_self
    simp only [gopsD] at h
    simp only [vopsD]
    by_cases hk2 : o.kind = 2
    · rw [if_pos hk2] at h
      have fin : ∀ {u : Value} {σ' : Heap} {e : Bool} {v : SV} {s' : St} {pl' : Nat → Value}, (∀ R', R' u σ' → vop (semSpecs P) o.op env σ R') → gopsD C r (s'.put o.dst v) (hl + 1) (bif e then chg else hl) (bif e then A else (hl - 1, none) :: A) (bif e then Rd else Rd.map fun r => (r.1, none)) K → Gam P B F pl' tb s' env σ' → SR P B pl' tb v u → (e = true → σ' = σ ∧ pl' = pl ∧ s' = s) → σ.Le σ' → Dead σ σ' →
          vexact (fun R => vop (semSpecs P) o.op env σ R) fun v σ' => vpend hs.length σ' pend ∧ vopsD (semSpecs P) r (putE env o.dst v) (hs ++ [σ']) σ' pend R := fun {u σ' e v s' pl'} hop hgo hG' hsr he hle hd => by
        cases e with
        | true =>
          obtain ⟨rfl, rfl, rfl⟩ := he rfl
          obtain ⟨k1, k2⟩ := hD.stay
          exact ⟨u, σ', hop _ ⟨rfl, rfl⟩, k1, gopsD_sound hcs r hkr (dead_n hB hd) (hG'.put o.dst hsr) (by rw [put_own]; exact k2) (by simp only [_root_.cond_true] at *; omega) (by omega) hgo hK⟩
        | false =>
          obtain ⟨k1, k2⟩ := hD.call (own' := s'.own) (pl' := pl') hle hl0
          exact ⟨u, σ', hop _ ⟨rfl, rfl⟩, k1, gopsD_sound hcs r hkr (dead_n hB hd) (hG'.put o.dst hsr) (by rw [put_own]; exact k2) (by simp only [_root_.cond_false] at *; omega) (by omega) hgo hK⟩
      split at h
      · rename_i f args hop
        split at h
        · rename_i hg
          rw [hg]
          refine ⟨fun _ => ?_, fun e => by cases e⟩
          rw [if_pos hk2]
          obtain ⟨g, a, b, u, σ', e, v, s', pl', h1, h2, h3, h4, h5, h6, h7, h8⟩ := gdcall_sound hcs hG h (show SR P σ noPl noTb (.fn f [] []) (.func (.func f) #[] #[]) by simp only [SR, SRs]; exact ⟨[], [], rfl, rfl, rfl⟩) (hG.gcall Gds.nil args)
          obtain ⟨rfl, rfl, rfl⟩ := (by simpa using h1 : f = g ∧ #[] = a ∧ #[] = b)
          refine fin (u := u) (σ' := σ') (fun R' hr => ?_) h3 h4 h5 h6 h7 h8
          rw [hop]
          show VCalled P f (args.map (evalO env)) σ R'
          have := h2.mono (R' := R') fun u' σ'' ⟨e1, e2⟩ => by subst e1; subst e2; exact hr
          simpa using this
        · rename_i j want hg
          rw [hg]
          split at h
          · exact h.elim
          · rename_i gs s1 hgd
            obtain ⟨tb', hG', htb, b, hw, hb1, hb2⟩ := gguard_sound hG hgd
            have hown := gguard_own hgd
            rw [hw]
            split at h
            · rename_i cs v hgq
              cases hnb : noBox v with
              | false => rw [hnb] at h; exact h.elim
              | true =>
              rw [hnb] at h
              simp only [_root_.cond_true] at h
              obtain ⟨h1, h2⟩ := gobl_holds h
              obtain ⟨k1, k2⟩ := hD.stay
              have k2' : ∀ x, DSt (hs ++ [σ]) σ pend (hl + 1) chg A Rd (s1.put o.dst x).own pl := fun x => by rw [put_own, hown]; exact k2
              refine ⟨fun e => ?_, fun e => ?_⟩
              · rw [if_pos hk2]
                have hgs : Gds tb' gs := fun g hg => ⟨hb1 e g hg, htb g hg⟩
                have finv : ∀ {v u}, SR P B pl tb' v u → SR P B pl tb' (.grd gs (unbid v)) u := fun {v u} hs => by
                  simp only [SR]
                  obtain ⟨h1, h2⟩ := unbid_sr hs
                  exact ⟨⟨htb, h2⟩, fun _ => h1, fun ⟨g, hg, hne⟩ => absurd (hb1 e g hg) hne⟩
                simp only [gqc] at hgq
                split at hgq
                · rename_i c v' heq
                  cases hvr : v'.ret 0 with
                  | false => rw [hvr] at hgq; cases hgq
                  | true =>
                    rw [hvr] at hgq
                    obtain ⟨rfl, rfl⟩ := pinj hgq
                    obtain ⟨g, a, b', h3, h4, _⟩ := gcallee_sound hcs.cs (show SR P σ noPl noTb (.fn f [] []) (.func (.func f) #[] #[]) by simp only [SR, SRs]; exact ⟨[], [], rfl, rfl, rfl⟩) (hG'.gcall hgs args) heq hvr rfl (h2 (hb1 e) _ (by simp))
                    obtain ⟨rfl, rfl, rfl⟩ := (by simpa using h3 : f = g ∧ #[] = a ∧ #[] = b')
                    refine ⟨cval noPl v', σ, ?_, k1, gopsD_sound hcs r hkr hB (hG'.put o.dst (finv ?_)) (k2' _) (by omega) (by omega) h1 hK⟩
                    · rw [hop]
                      show VCalled P f (args.map (evalO env)) σ _
                      have := h4.mono (R' := fun u σ' => u = cval noPl v' ∧ σ' = σ) fun u σ' hr => by
                        obtain ⟨rfl, hu⟩ := hr.flat hvr
                        exact ⟨cval_sound v' u hvr hnb hu, rfl⟩
                      simpa using this
                    · exact SR.retd (fun j hj => by omega) _ _ hvr (cval_sr (P := P) (pl := noPl) (m := 0) (fun j hj => by omega) v' hvr hnb)
                · cases hgq
              · rw [if_pos hk2]
                obtain ⟨g, hg', hne⟩ := hb2 e
                exact ⟨k1, gopsD_sound hcs r hkr hB (hG'.put o.dst (by simp only [SR]; exact ⟨⟨htb, unbid_tb v⟩, fun hall => absurd (hall g hg') hne, fun _ => trivial⟩)) (k2' _) (by omega) (by omega) h1 hK⟩
            · exact h.elim
      · rename_i f args hop
        split at h
        · rename_i hg
          rw [hg]
          refine ⟨fun _ => ?_, fun e => by cases e⟩
          rw [if_pos hk2]
          obtain ⟨g, a, b, u, σ', e, v, s', pl', h1, h2, h3, h4, h5, h6, h7, h8⟩ := gdcall_sound hcs hG h (hG.gfun Gds.nil f) (hG.gcall Gds.nil args)
          refine fin (u := u) (σ' := σ') (fun R' hr => ?_) h3 h4 h5 h6 h7 h8
          rw [hop]
          exact vcallV_of h1 (h2.mono (R' := R') fun u' σ'' ⟨e1, e2⟩ => by subst e1; subst e2; exact hr)
        · exact h.elim
      · rename_i hnf hnv
        split at h
        · rename_i hg
          rw [hg]
          refine ⟨fun _ => ?_, fun e => by cases e⟩
          rw [if_pos hk2]
          have hcall : isCall o.op = false := by
            cases ho : o.op <;> first | rfl | (exact absurd ho (hnf _ _)) | (exact absurd ho (hnv _ _))
          cases hm : ((isMake o.op && rdKeep Rd hl (gtouch (C.off + o.dst.getD 0) o.op (gev [] s.env))) || rdFree Rd hl (gtouch (C.off + o.dst.getD 0) o.op (gev [] s.env))) with
          | false => rw [hm] at h; exact h.elim
          | true =>
            rw [hm] at h
            simp only [_root_.cond_true] at h
            obtain ⟨u, σ', pl', v, s', h1, h2, ⟨h3, h3'⟩, h4⟩ := gn_nok hG h hcall
            have hopv : ∀ R', R' u σ' → vop (semSpecs P) o.op env σ R' := fun R' hr => by
              have : vop (semSpecs P) o.op env σ R' = obind (vact o.op (evalO env) σ) fun p => R' p.1 p.2 := by
                cases ho : o.op with
                | callF f a => rw [ho] at hcall; cases hcall
                | callV f a => rw [ho] at hcall; cases hcall
                | ext x =>
                  cases x with
                  | nextMap y => rw [ho] at h1; cases h1
                  | _ => rfl
                | _ => rfl
              rw [this, h1]; exact hr
            obtain ⟨k1, k2⟩ := hD.write h3' (fun hmk => make_le hmk h1) hm hl0
            exact ⟨u, σ', hopv _ ⟨rfl, rfl⟩, k1, gopsD_sound hcs r hkr (dead_n hB (vact_dead h1)) (h3.put o.dst h4) (by rw [put_own]; exact k2) (by omega) (by omega) h2 hK⟩
        · exact h.elim
    · rw [if_neg hk2] at h
      have hop2 : o.op.kind ≠ 2 := by rw [← hko]; exact hk2
      by_cases hk1 : o.kind = 1
      · rw [if_pos hk1] at h
        have rd : ∀ (rq : Option Nat), (∀ q, rq = some q → rdThing o.op (gev [] s.env) s.own = some q) → (Nat.ble chg o.kmin || rdStay A o.kmin rq) = true → gd1 C o s (fun s' => gopsD C r s' hl chg A ((o.kmax, rq) :: Rd) K) →
            obind (vwant env o.guard) fun b => vif b (if o.kind = 2 then vexact (fun R => vop (semSpecs P) o.op env σ R) fun v σ' => vpend hs.length σ' pend ∧ vopsD (semSpecs P) r (putE env o.dst v) (hs ++ [σ']) σ' pend R
              else if o.kind = 1 then obind (vact o.op (evalO env) σ) fun p => (∀ τ ∈ hs.drop o.kmin, vreads o.op (evalO env) p.1 τ) ∧
                vopsD (semSpecs P) r (putE env o.dst p.1) hs σ (if hs.length ≤ o.kmax then (o.kmax, vreads o.op (evalO env) p.1) :: pend else pend) R
              else obind (vact o.op (evalO env) σ) fun p => vopsD (semSpecs P) r (putE env o.dst p.1) hs σ pend R)
            (if o.kind = 2 then vpend hs.length σ pend ∧ vopsD (semSpecs P) r (putE env o.dst undef) (hs ++ [σ]) σ pend R else vopsD (semSpecs P) r (putE env o.dst undef) hs σ pend R) := fun rq hrq hc h => by
          obtain ⟨b, hw, h1, h2⟩ := gd1_sound hG h
          rw [hw]
          have hdk : DSt hs σ pend hl chg A ((o.kmax, rq) :: Rd) s.own pl := ⟨hD.len, hD.same, fun c hc => (hD.pend c hc).imp id fun ⟨r, k1, k2⟩ => ⟨r, List.mem_cons_of_mem _ k1, k2⟩, hD.fr⟩
          refine ⟨fun e => ?_, fun e => ?_⟩
          · obtain ⟨u, s', tb', h3, h4, hown, h5⟩ := h1 e
            rw [if_neg hk2, if_pos hk1, h3]
            refine ⟨fun τ hτ => ?_, ?_⟩
            · obtain ⟨j, hj⟩ := List.mem_iff_getElem?.1 hτ
              rw [List.getElem?_drop] at hj
              rw [Bool.or_eq_true] at hc
              rcases hc with hc | hc
              · have := hD.same (o.kmin + j) τ (by have := Nat.le_of_ble_eq_true hc; omega) hj
                subst this; exact vreads_of h3
              · unfold rdStay at hc
                split at hc
                · rename_i q
                  obtain ⟨k1, i, bl, k2, k3, k4⟩ := rdThing_sound hG (hrq q rfl) h3
                  have hu : untouched A (o.kmin + j) q = true := by
                    simp only [untouched, List.all_eq_true, Bool.or_eq_true, Nat.blt_eq] at hc ⊢
                    exact fun a ha => (hc a ha).imp (fun h => by omega) id
                  have := hD.fr (o.kmin + j) τ q i hj hu k1 k2
                  exact vreads_of (k4 τ (by rw [this]; exact k3))
                · cases hc
            · refine gopsD_sound hcs r hkr hB h5 (A := A) (Rd := (o.kmax, rq) :: Rd) (hl := hl) (chg := chg) ?_ hch hl0 h4 hK
              rw [hown]
              split
              · refine ⟨hD.len, hD.same, fun c hc => ?_, hD.fr⟩
                rcases List.mem_cons.1 hc with rfl | hc
                · refine .inr ⟨_, List.mem_cons_self, Nat.le_refl _, ?_⟩
                  cases rq with
                  | none => exact fun τ hτ => vreads_of (vact_mono hop2 h3 hτ)
                  | some q =>
                    obtain ⟨k1, i, bl, k2, k3, k4⟩ := rdThing_sound hG (hrq q rfl) h3
                    exact ⟨k1, i, bl, k2, k3, fun τ ht => vreads_of (k4 τ ht)⟩
                · exact hdk.pend c hc
              · exact hdk
          · obtain ⟨s', tb', h4, hown, h5⟩ := h2 e
            rw [if_neg hk2]
            exact gopsD_sound hcs r hkr hB h5 (by rw [hown]; exact hdk) hch hl0 h4 hK
        split at h
        · rename_i hg
          cases hb : (Nat.ble chg o.kmin || rdStay A o.kmin (rdThing o.op (gev [] s.env) s.own)) with
          | false => rw [hb] at h; exact h.elim
          | true =>
            rw [hb] at h
            exact rd _ (fun q hq => hq) hb h
        · cases hb : Nat.ble chg o.kmin with
          | false => rw [hb] at h; exact h.elim
          | true =>
            rw [hb] at h
            exact rd none (fun q hq => by cases hq) (by rw [hb]; rfl) h
      · rw [if_neg hk1] at h
        obtain ⟨b, hw, h1, h2⟩ := gd1_sound hG h
        rw [hw]
        refine ⟨fun e => ?_, fun e => ?_⟩
        · obtain ⟨u, s', tb', h3, h4, hown, h5⟩ := h1 e
          rw [if_neg hk2, if_neg hk1, h3]
          exact gopsD_sound hcs r hkr hB h5 (by rw [hown]; exact hD) hch hl0 h4 hK
        · obtain ⟨s', tb', h4, hown, h5⟩ := h2 e
          rw [if_neg hk2]
          exact gopsD_sound hcs r hkr hB h5 (by rw [hown]; exact hD) hch hl0 h4 hK
theorem gsegs_sound {C : Cx} (hcs : COk P C) {B0 F0 D0 : Heap} : ∀ (segs : List DSeg) {s : St} {env : Env} {σ : Heap}, GRel P B0 F0 D0 s env σ → ∀ {K : St → Prop}, gsegs C segs s K → ∀ {R : Env → Heap → Prop}, (∀ s' env' σ', K s' → GRel P B0 F0 D0 s' env' σ' → R env' σ') → vsegs (semSpecs P) segs env σ R
  | [], s, env, σ, hR, K, h, R, hK => hK s env σ h hR
  | .one o :: r, s, env, σ, hR, K, h, R, hK => by
    refine gops_sound hcs [o] hR (K := fun s' => gsegs C r s' K) h fun s' env' σ' h1 h2 => ?_
    exact gsegs_sound hcs r h2 h1 hK
  | .alts [l] :: r, s, env, σ, hR, K, h, R, hK => by
    simp only [gsegs] at h
    cases hd : dquiet l with
    | false =>
      rw [hd] at h
      simp only [_root_.cond_false] at h
      cases hk : l.all (fun o => o.kind == o.op.kind) with
      | false => rw [hk] at h; exact h.elim
      | true =>
        rw [hk] at h
        simp only [_root_.cond_true] at h
        intro ops ho
        obtain rfl := List.mem_singleton.1 ho
        obtain ⟨B, F, pl, tb, hB, hG⟩ := hR
        have one : ∀ (j : Nat) (τ : Heap), ([σ] : List Heap)[j]? = some τ → τ = σ := fun j τ ht => by
          cases j with
          | zero => simpa using ht.symm
          | succ j => simp at ht
        exact gopsD_sound hcs ops (fun o ho => by simpa using List.all_eq_true.1 hk o ho) hB hG (hl := 1) (chg := 0) (A := []) (Rd := []) ⟨rfl, fun j τ _ ht => one j τ ht, (fun c hc => absurd hc (by simp)), fun j τ q i ht _ _ _ => by rw [one j τ ht]⟩ (Nat.zero_le _) (Nat.succ_pos _) h fun s' env' σ' h1 h2 => ⟨env', σ', .refl _ _ _, gsegs_sound hcs r h2 h1 hK⟩
    | true =>
      rw [hd] at h
      refine seg_pureG (l := l) hd ?_
      exact gops_sound hcs _ hR h fun s' env' σ' h1 h2 => gsegs_sound hcs r h2 h1 hK
  | .alts [] :: r, s, env, σ, hR, K, h, R, hK => h.elim
  | .alts (_ :: _ :: _) :: r, s, env, σ, hR, K, h, R, hK => h.elim
def mapP (pl : Nat → Value) (mp : List (Nat × Option Nat)) : Nat → Value := fun t => match alook mp t with
  | some (some a) => pl a
  | _ => .slice none 0 0
theorem castEq_kc {h : Heap} {k k' : Kind} {x : k.T} {y : k'.T} (e : castEq x y) {cs : List Value} (hk : KC h k' y cs) : KC h k x cs := by
  unfold castEq at e
  split at e
  · rename_i z hz
    obtain rfl := castK_kind hz
    obtain rfl := castK_same hz
    subst e; exact hk
  · exact e.elim
mutual
theorem svEq_sound {B : Heap} {pl : Nat → Value} {tb : Nat → Option Bool} {mp : List (Nat × Option Nat)} : ∀ (p a : SV) (v : Value), svEq mp p a → SR P B pl tb a v → SR P B (mapP pl mp) noTb p v
  | .any, a, v, _, _ => trivial
  | .val k x, a, v, h, hs => by
    simp only [svEq] at h
    split at h
    · simp only [SR] at hs ⊢; exact castEq_kc h hs
    · simp only [SR] at hs ⊢; exact castEq_kc h (by simp [KC, hs.1])
    · split at h
      · subst h; simp only [SR] at hs ⊢; subst hs; exact ⟨_, rfl, .inl ⟨rfl, rfl⟩⟩
      · exact h.elim
    · exact h.elim
  | .lst t, a, v, h, hs => by
    simp only [svEq] at h
    split at h
    · split at h
      · rename_i e; simp only [SR, mapP, e] at hs ⊢; exact hs
      · exact h.elim
    · split at h
      · rename_i e; simp only [SR, mapP, e] at hs ⊢; exact ⟨hs, _, _, _, hs⟩
      · exact h.elim
    · exact h.elim
  | .box t off, a, v, h, hs => by
    simp only [svEq] at h
    split at h
    · split at h
      · rename_i e; obtain ⟨e, rfl⟩ := e; simp only [SR, mapP, e] at hs ⊢; exact hs
      · exact h.elim
    · exact h.elim
  | .map t, a, v, h, hs => by
    simp only [svEq] at h
    split at h
    · split at h
      · rename_i e; simp only [SR, mapP, e] at hs ⊢; exact hs
      · exact h.elim
    · exact h.elim
  | .agg l, a, v, h, hs => by
    simp only [svEq] at h
    split at h
    · rename_i l'
      simp only [SR] at hs ⊢
      obtain ⟨cs, h1, h2⟩ := hs
      exact ⟨cs, h1, svEqs_sound l l' cs h h2⟩
    · exact h.elim
  | .tup l, a, v, h, hs => by
    simp only [svEq] at h
    split at h
    · rename_i l'
      simp only [SR] at hs ⊢
      obtain ⟨cs, h1, h2⟩ := hs
      exact ⟨cs, h1, svEqs_sound l l' cs h h2⟩
    · exact h.elim
  | .fn f x y, a, v, h, hs => by
    simp only [svEq] at h
    split at h
    · split at h
      · rename_i e
        subst e
        simp only [SR] at hs ⊢
        obtain ⟨cs, ds, h1, h2, h3⟩ := hs
        exact ⟨cs, ds, h1, svEqs_sound x _ cs h.1 h2, svEqs_sound y _ ds h.2 h3⟩
      · exact h.elim
    · exact h.elim
  | .nilS, a, v, h, hs => by
    simp only [svEq] at h
    split at h
    · simp only [SR] at hs ⊢; exact hs
    · exact h.elim
  | .nilP, a, v, h, hs => by
    simp only [svEq] at h
    split at h
    · simp only [SR] at hs ⊢; exact hs
    · exact h.elim
  | .nilM, a, v, h, hs => by
    simp only [svEq] at h
    split at h
    · simp only [SR] at hs ⊢; exact hs
    · exact h.elim
  | .nilF, a, v, h, hs => by
    simp only [svEq] at h
    split at h
    · simp only [SR] at hs ⊢; exact hs
    · exact h.elim
  | .cp l off, a, v, h, hs => by
    simp only [svEq] at h
    obtain ⟨rfl, hp⟩ := h
    simp only [SR] at hs ⊢
    obtain ⟨b, c, e, wr, t, h1, h2, h3⟩ := hs
    exact ⟨b, c, e, wr, t, h1, h2, pures_sound l c hp h3⟩
  | .pf ks r dom p, a, v, h, hs => by
    simp only [svEq] at h
    subst h
    simp only [SR] at hs ⊢; exact hs
  | .sub t lo n sz, a, v, h, hs => by
    simp only [svEq] at h
    split at h
    · split at h
      · rename_i e; obtain ⟨rfl, rfl, rfl⟩ := h; simp only [SR, mapP, e] at hs ⊢; exact hs
      · exact h.elim
    · exact h.elim
  | .elp _ _ _ _, _, _, h, _ | .grd _ _, _, _, h, _ | .bid _ _, _, _, h, _ | .rop _ _ _ _, _, _, h, _ => by simp only [svEq] at h
theorem svEqs_sound {B : Heap} {pl : Nat → Value} {tb : Nat → Option Bool} {mp : List (Nat × Option Nat)} : ∀ (p a : List SV) (v : List Value), svEqs mp p a → SRs P B pl tb a v → SRs P B (mapP pl mp) noTb p v
  | [], a, v, h, hs => by simp only [svEqs] at h; subst h; exact hs
  | s :: ss, [], v, h, hs => by simp only [svEqs] at h
  | s :: ss, a :: axs, v, h, hs => by
    simp only [svEqs] at h
    simp only [SRs] at hs ⊢
    obtain ⟨x, y, h1, h2, h3⟩ := hs
    exact ⟨x, y, h1, svEq_sound s a x h.1 h2, svEqs_sound ss axs y h.2 h3⟩
theorem pure_sound {B : Heap} {pl pl' : Nat → Value} {tb tb' : Nat → Option Bool} : ∀ (s : SV) (v : Value), s.pure = true → SR P B pl tb s v → SR P B pl' tb' s v
  | .any, v, _, _ => trivial
  | .val k x, v, _, h => by simp only [SR] at h ⊢; exact h
  | .nilS, v, _, h | .nilP, v, _, h | .nilM, v, _, h | .nilF, v, _, h => by simp only [SR] at h ⊢; exact h
  | .rop k l i off, v, _, h => by simp only [SR] at h ⊢; exact h
  | .pf ks r dom p, v, _, h => by simp only [SR] at h ⊢; exact h
  | .agg l, v, hp, h => by
    simp only [SR] at h ⊢
    obtain ⟨cs, h1, h2⟩ := h
    exact ⟨cs, h1, pures_sound l cs hp h2⟩
  | .tup l, v, hp, h => by
    simp only [SR] at h ⊢
    obtain ⟨cs, h1, h2⟩ := h
    exact ⟨cs, h1, pures_sound l cs hp h2⟩
  | .cp l off, v, hp, h => by
    simp only [SR] at h ⊢
    obtain ⟨b, c, e, wr, t, h1, h2, h3⟩ := h
    exact ⟨b, c, e, wr, t, h1, h2, pures_sound l c hp h3⟩
  | .fn f a b, v, hp, h => by
    simp only [SV.pure, Bool.and_eq_true] at hp
    simp only [SR] at h ⊢
    obtain ⟨x, y, h1, h2, h3⟩ := h
    exact ⟨x, y, h1, pures_sound a x hp.1 h2, pures_sound b y hp.2 h3⟩
  | .lst _, _, h, _ | .sub _ _ _ _, _, h, _ | .elp _ _ _ _, _, h, _ | .box _ _, _, h, _ | .map _, _, h, _ | .grd _ _, _, h, _ | .bid _ _, _, h, _ => by cases h
theorem pures_sound {B : Heap} {pl pl' : Nat → Value} {tb tb' : Nat → Option Bool} : ∀ (s : List SV) (v : List Value), SVs.pure s = true → SRs P B pl tb s v → SRs P B pl' tb' s v
  | [], v, _, h => by simp only [SRs] at h ⊢; exact h
  | s :: ss, v, hp, h => by
    simp only [SVs.pure, Bool.and_eq_true] at hp
    simp only [SRs] at h ⊢
    obtain ⟨x, y, h1, h2, h3⟩ := h
    exact ⟨x, y, h1, pure_sound s x hp.1 h2, pures_sound ss y hp.2 h3⟩
end
end
end Go.V

namespace Go.V
open Go
section
variable {P : Program} {B F : Heap} {pl : Nat → Value} {tb : Nat → Option Bool} {s : St} {env : Env} {σ : Heap}
theorem castEq_list {k k' : Kind} {xs : List k.T} {ys : List k'.T} (h : castEq (k := .list k) xs (k' := .list k') ys) : ∃ e : k' = k, e ▸ ys = xs := by
  unfold castEq at h
  split at h
  · rename_i z hz
    have e := castK_kind hz
    obtain rfl := Kind.list.inj e
    obtain rfl := castK_same hz
    exact ⟨rfl, h⟩
  · exact h.elim
theorem obEq_sound (hG : Gam P B F pl tb s env σ) {mp : List (Nat × Option Nat)} {t : Nat} {b : OB} (h : obEq s mp t b) :
    OR P B (mapP pl mp) noTb σ (mapP pl mp t) b ∧ (b.live = true → ∀ i, oid (mapP pl mp t) = some i → ∃ a, alook mp t = some (some a) ∧ (oget s.own a).live = true ∧ oid (pl a) = some i) := by
  unfold obEq at h
  split at h
  · rename_i a ha
    have hpl : mapP pl mp t = pl a := by simp [mapP, ha]
    rw [hpl]
    have hob := hG.obj a
    split at h
    · exact ⟨trivial, fun h => by cases h⟩
    · rename_i ty k xs nl ty' k' xs' nl' ho
      split at h
      · rename_i e
        subst e
        obtain ⟨h1, rfl⟩ := h
        obtain ⟨rfl, rfl⟩ := castEq_list h1
        rw [ho] at hob
        exact ⟨hob, fun _ i hi => ⟨a, ha, by rw [ho]; rfl, hi⟩⟩
      · exact h.elim
    · rename_i l l' ho
      rw [ho] at hob
      obtain ⟨i, c, e, t', h1, h2, h3⟩ := hob
      exact ⟨⟨i, c, e, t', h1, h2, svEqs_sound l l' c h h3⟩, fun _ i hi => ⟨a, ha, by rw [ho]; rfl, hi⟩⟩
    · rename_i kk vk m kk' vk' m' ho
      split at h
      · obtain ⟨e, h1⟩ := castEq_list h
        obtain ⟨rfl, rfl⟩ := Kind.pair.inj e
        subst h1
        rw [ho] at hob
        exact ⟨hob, fun _ i hi => ⟨a, ha, by rw [ho]; rfl, hi⟩⟩
      · exact h.elim
    · rename_i l vals l' vals' ho
      rw [ho] at hob
      obtain ⟨rfl, h⟩ := h
      exact ⟨svEqs_sound l l' vals h hob, fun h => by cases h⟩
    · exact h.elim
  · rename_i ha
    have hpl : mapP pl mp t = .slice none 0 0 := by simp [mapP, ha]
    rw [hpl]
    split at h
    · exact ⟨.inl ⟨h.2, h.1, rfl⟩, fun _ i hi => by cases hi⟩
    · exact h.elim
  · exact h.elim
theorem alook_append {α : Type _} (l : List (Nat × α)) (t : Nat) (x : α) (d : Nat) : alook (l ++ [(t, x)]) d = match alook l d with | some y => some y | none => if t = d then some x else none := by
  induction l with
  | nil =>
    simp only [List.nil_append, alook]
    by_cases h : t = d
    · subst h; simp
    · rw [beq_ne h]; simp [h]
  | cons p l ih =>
    obtain ⟨k, y⟩ := p
    simp only [List.cons_append, alook, ih]
    cases Nat.beq k d <;> rfl
theorem alook_mem {α : Type _} {l : List (Nat × α)} {d : Nat} {x : α} (h : alook l d = some x) : ∃ p ∈ l, p.1 = d ∧ p.2 = x := by
  induction l with
  | nil => cases h
  | cons p l ih =>
    obtain ⟨k, y⟩ := p
    simp only [alook] at h
    cases hb : Nat.beq k d with
    | true => rw [hb] at h; obtain rfl := Option.some.inj h; exact ⟨_, List.mem_cons_self, Nat.eq_of_beq_eq_true hb, rfl⟩
    | false =>
      rw [hb] at h
      obtain ⟨p, h1, h2⟩ := ih h
      exact ⟨p, List.mem_cons_of_mem _ h1, h2⟩
def Inj (mp : List (Nat × Option Nat)) : Prop := ∀ t t' a, alook mp t = some (some a) → alook mp t' = some (some a) → t = t'
theorem gmap_inj : ∀ (l : List (Nat × Src)) (mp mp' : List (Nat × Option Nat)), gmap s l mp = some mp' → Inj mp → Inj mp'
  | [], mp, mp', h, hi => by obtain rfl := Option.some.inj h; exact hi
  | (t, src) :: r, mp, mp', h, hi => by
    simp only [gmap] at h
    split at h
    · rename_i a _
      split at h
      · cases h
      · rename_i hc
        refine gmap_inj r _ _ h ?_
        have hfr : ∀ d, alook mp d ≠ some (some a) := fun d hd => by
          obtain ⟨p, h1, h2, h3⟩ := alook_mem hd
          apply hc
          simp only [Bool.or_eq_true]
          exact .inl (List.any_eq_true.2 ⟨p, h1, by rw [h3]; simp⟩)
        intro t1 t2 a' h1 h2
        rw [alook_append] at h1 h2
        split at h1
        · rename_i y1 e1
          split at h2
          · rename_i y2 e2
            obtain rfl := Option.some.inj h1
            obtain rfl := Option.some.inj h2
            exact hi t1 t2 a' e1 e2
          · split at h2
            · obtain rfl := Option.some.inj (Option.some.inj h2)
              obtain rfl := Option.some.inj h1
              exact absurd e1 (hfr t1)
            · cases h2
        · split at h1
          · rename_i e1
            obtain rfl := Option.some.inj (Option.some.inj h1)
            split at h2
            · rename_i y2 e2
              obtain rfl := Option.some.inj h2
              exact absurd e2 (hfr t2)
            · split at h2
              · rename_i e2; omega
              · cases h2
          · cases h1
    · split at h
      · cases h
      · refine gmap_inj r _ _ h ?_
        intro t1 t2 a' h1 h2
        rw [alook_append] at h1 h2
        split at h1
        · rename_i y1 e1
          split at h2
          · rename_i y2 e2
            obtain rfl := Option.some.inj h1
            obtain rfl := Option.some.inj h2
            exact hi t1 t2 a' e1 e2
          · split at h2 <;> cases h2
        · split at h1 <;> cases h1
    · cases h
theorem gobs_mem {mp : List (Nat × Option Nat)} : ∀ {ow : List (Nat × Src × OB)}, gmatch.obs s mp ow → ∀ p ∈ ow, obEq s mp p.1 p.2.2
  | [], _, p, hp => by cases hp
  | (t, src, b) :: r, h, p, hp => by
    simp only [gmatch.obs] at h
    rcases List.mem_cons.1 hp with rfl | hp
    · exact h.1
    · exact gobs_mem h.2 p hp
theorem fold_oset {f : List (Nat × Src × OB)} : ∀ (own : Own) (t : Nat), (∃ p ∈ f, p.1 = t ∧ oget (f.foldl (fun o p => oset o p.1 p.2.2) own) t = p.2.2) ∨ oget (f.foldl (fun o p => oset o p.1 p.2.2) own) t = oget own t := by
  induction f with
  | nil => intro own t; exact .inr rfl
  | cons p f ih =>
    intro own t
    simp only [List.foldl_cons]
    rcases ih (oset own p.1 p.2.2) t with ⟨q, h1, h2⟩ | h
    · exact .inl ⟨q, List.mem_cons_of_mem _ h1, h2⟩
    · rw [h, oget_oset]
      by_cases e : t = p.1
      · rw [if_pos e]; exact .inl ⟨p, List.mem_cons_self, e.symm, rfl⟩
      · rw [if_neg e]; exact .inr rfl
theorem slots_sound (hG : Gam P B F pl tb s env σ) {mp : List (Nat × Option Nat)} : ∀ (st : List (Nat × SV)) {e : List SV} {eV : Env}, gmatch.slots s mp st → SRs P B (mapP pl mp) noTb e eV → SRs P B (mapP pl mp) noTb (st.foldl (fun e p => e.set p.1 p.2) e) (spreadE (st.map (·.1)) (pickE (st.map (·.1)) env) eV)
  | [], e, eV, _, h => h
  | (j, v) :: r, e, eV, hs, h => by
    simp only [gmatch.slots] at hs
    simp only [List.foldl_cons, List.map_cons, pickE, spreadE]
    exact slots_sound hG r hs.2 (h.set j (svEq_sound v _ _ hs.1 (hG.env.getD j poison)))
theorem any_rel {B : Heap} {pl : Nat → Value} {tb : Nat → Option Bool} : ∀ n, SRs P B pl tb (List.replicate n .any) (List.replicate n poison)
  | 0 => by simp [SRs]
  | n + 1 => by
    simp only [List.replicate_succ, SRs]
    exact ⟨_, _, rfl, by simp [SR], any_rel n⟩
theorem gmatch_sound {B0 F0 D0 : Heap} (hR : GRel P B0 F0 D0 s env σ) {st : List (Nat × SV)} {ow : List (Nat × Src × OB)} (h : gmatch s st ow) (len : Nat) : GRel P B0 F0 D0 (gstate len st ow) (spreadE (st.map (·.1)) (pickE (st.map (·.1)) env) (List.replicate len poison)) σ := by
  obtain ⟨B, F, pl, tb, hB, hG⟩ := hR
  unfold gmatch at h
  split at h
  · rename_i mp hmp
    obtain ⟨h1, h2⟩ := h
    have hinj := gmap_inj _ _ _ hmp (fun t t' a h => by cases h)
    have hmem := gobs_mem h2
    have hob : ∀ t, (oget (gstate len st ow).own t).live = true → obEq s mp t (oget (gstate len st ow).own t) := fun t hl => by
      rcases fold_oset (f := ow) [] t with ⟨p, h3, h4, h5⟩ | h3
      · have := hmem p h3
        rw [h4, ← h5] at this; exact this
      · simp only [gstate] at hl
        rw [h3] at hl; cases hl
    refine ⟨B, F, mapP pl mp, noTb, hB, hG.bf, hG.le, slots_sound hG st h1 (any_rel len), fun t => ?_, fun t i hl hi => ?_, fun t t' i hne hl hl' hi hi' => ?_, fun _ _ => rfl⟩
    · cases hl : (oget (gstate len st ow).own t).live with
      | true => exact (obEq_sound hG (hob t hl)).1
      | false =>
        cases ho : oget (gstate len st ow).own t with
        | dead => trivial
        | stk l vals =>
          rcases fold_oset (f := ow) [] t with ⟨p, h3, h4, h5⟩ | h3
          · have := hmem p h3
            simp only [gstate] at ho
            rw [← h5, ho] at this
            have h6 := (obEq_sound hG this).1
            rw [h4] at h6; exact h6
          · simp only [gstate] at ho; rw [h3] at ho; cases ho
        | _ => rw [ho] at hl; cases hl
    · obtain ⟨a, _, h4, h5⟩ := (obEq_sound hG (hob t hl)).2 hl i hi
      exact hG.fresh a i h4 h5
    · obtain ⟨a, e1, h4, h5⟩ := (obEq_sound hG (hob t hl)).2 hl i hi
      obtain ⟨a', e2, h4', h5'⟩ := (obEq_sound hG (hob t' hl')).2 hl' i hi'
      by_cases e : a = a'
      · subst e; exact hne (hinj t t' a e1 e2)
      · exact hG.sep a a' i e h4 h4' h5 h5'
  · exact h.elim
theorem gfrz_sound : ∀ {caps caps' : List SV} {vs : List Value} {B F : Heap} {s s' : St}, Gam P B F pl tb s env σ → SRs P B pl tb caps vs → gfrz s caps = some (s', caps') →
    ∃ B' F', GBase B F σ B' F' σ ∧ Gam P B' F' pl tb s' env σ ∧ SRs P B' noPl noTb caps' vs ∧ s'.env = s.env
  | [], caps', vs, B, F, s, s', hG, hs, h => by
    simp only [gfrz, Option.some.injEq, Prod.mk.injEq] at h
    obtain ⟨rfl, rfl⟩ := h
    exact ⟨B, F, .of hG.bf (.refl _), hG, hs, rfl⟩
  | v :: caps, caps', vs, B, F, s, s', hG, hs, h => by
    simp only [SRs] at hs
    obtain ⟨u, us, rfl, h1, h2⟩ := hs
    have pureC : ∀ w : SV, SR P B pl tb w u → (bif w.pure then (match gfrz s caps with | some (s', r) => some (s', w :: r) | none => none) else none) = some (s', caps') →
        ∃ B' F', GBase B F σ B' F' σ ∧ Gam P B' F' pl tb s' env σ ∧ SRs P B' noPl noTb caps' (u :: us) ∧ s'.env = s.env := fun w hw h => by
      cases hp : w.pure with
      | false => rw [hp] at h; cases h
      | true =>
        rw [hp] at h
        simp only [_root_.cond_true] at h
        split at h
        · rename_i s1 r heq
          simp only [Option.some.injEq, Prod.mk.injEq] at h
          obtain ⟨rfl, rfl⟩ := h
          obtain ⟨B', F', k1, k2, k3, k4⟩ := gfrz_sound hG h2 heq
          exact ⟨B', F', k1, k2, by simp only [SRs]; exact ⟨u, us, rfl, SR.mono k1.b (fun _ _ h => h) _ _ (pure_sound w u hp hw), k3⟩, k4⟩
        · cases h
    simp only [gfrz] at h
    split at h
    · rename_i o
      split at h
      · rename_i l ho
        cases hp : SVs.pure l with
        | false => rw [hp] at h; cases h
        | true =>
          rw [hp] at h
          simp only [_root_.cond_true] at h
          split at h
          · rename_i s1 r heq
            simp only [Option.some.injEq, Prod.mk.injEq] at h
            obtain ⟨rfl, rfl⟩ := h
            have hob := hG.obj o
            rw [ho] at hob
            obtain ⟨i, c, e, t, e1, e2, e3⟩ := hob
            obtain ⟨k1, k2⟩ := hG.freeze (o := o) (i := i) (by rw [ho]; rfl) (by rw [e1]; rfl)
            obtain ⟨B', F', j1, j2, j3, j4⟩ := gfrz_sound k2 (SRs.mono k1.b (fun _ _ h => h) _ _ h2) heq
            refine ⟨B', F', k1.trans j1, j2, ?_, j4⟩
            simp only [SRs]
            refine ⟨u, us, rfl, ?_, j3⟩
            simp only [SR] at h1 ⊢
            obtain ⟨b, q1, q2⟩ := h1
            rw [e1] at q1
            obtain rfl : i = b := by simpa using q1
            refine ⟨i, c, e, true, t, j1.b.2 _ _ ?_, q2, SRs.mono (k1.trans j1).b (fun _ _ h => h) _ _ (pures_sound l c hp e3)⟩
            rw [Heap.ins_self]; exact e2
          · cases h
      · cases h
    · exact pureC _ h1 h
theorem Gam.lpUpd (hG : Gam P B F pl tb s env σ) {n : Nat} {b b0 : Blk} (hF : F.get n = some b0) (hB : B.get n = none) : Gam P B (F.upd n b) pl tb s env (σ.upd n b) := by
  have hne : ∀ {d i}, (oget s.own d).live = true → oid (pl d) = some i → i ≠ n := fun h1 h2 e => by
    have := hG.fresh _ _ h1 h2
    subst e; rw [hF] at this; cases this
  refine ⟨⟨hG.bf.1, fun i c hc => ?_⟩, ⟨hG.le.1, fun i c hc => ?_⟩, hG.env, fun d => (hG.obj d).mono (.refl _) (fun _ _ h => h) fun h1 i h2 => Heap.get_upd_ne _ _ (hne h1 h2), fun d i h1 h2 => ?_, hG.sep, hG.free⟩
  · have : i ≠ n := by rintro rfl; rw [hB] at hc; cases hc
    rw [Heap.get_upd_ne _ _ this]; exact hG.bf.2 _ _ hc
  · by_cases e : i = n
    · subst e
      rw [Heap.get_upd_self _ _ (F.lt hF)] at hc
      rw [Heap.get_upd_self _ _ (Nat.lt_of_lt_of_le (F.lt hF) hG.le.1)]; exact hc
    · rw [Heap.get_upd_ne _ _ e] at hc ⊢; exact hG.le.2 _ _ hc
  · rw [Heap.get_upd_ne _ _ (hne h1 h2)]; exact hG.fresh _ _ h1 h2
theorem Gam.lpKill (hG : Gam P B F pl tb s env σ) {n : Nat} {b0 : Blk} (hF : F.get n = some b0) (hB : B.get n = none) : Gam P B (F.kill n) pl tb s env (σ.kill n) := by
  have hne : ∀ {d i}, (oget s.own d).live = true → oid (pl d) = some i → i ≠ n := fun h1 h2 e => by
    have := hG.fresh _ _ h1 h2
    subst e; rw [hF] at this; cases this
  refine ⟨⟨hG.bf.1, fun i c hc => ?_⟩, ⟨hG.le.1, fun i c hc => ?_⟩, hG.env, fun d => (hG.obj d).mono (.refl _) (fun _ _ h => h) fun h1 i h2 => Heap.get_kill_ne _ (hne h1 h2), fun d i h1 h2 => ?_, hG.sep, hG.free⟩
  · have : i ≠ n := by rintro rfl; rw [hB] at hc; cases hc
    rw [Heap.get_kill_ne _ this]; exact hG.bf.2 _ _ hc
  · by_cases e : i = n
    · subst e; rw [Heap.get_kill_self] at hc; cases hc
    · rw [Heap.get_kill_ne _ e] at hc ⊢; exact hG.le.2 _ _ hc
  · rw [Heap.get_kill_ne _ (hne h1 h2)]; exact hG.fresh _ _ h1 h2
theorem GRel.lpUpd {B1 F1 D0 : Heap} (h : GRel P B1 F1 D0 s env σ) {n : Nat} {b b0 : Blk} (hF : F1.get n = some b0) (hB : B1.get n = none) : GRel P B1 (F1.upd n b) D0 s env (σ.upd n b) := by
  obtain ⟨B, F, pl, tb, hB', hG⟩ := h
  have hF2 := hB'.f.2 _ _ hF
  have hB2 := hB'.x _ _ hF hB
  refine ⟨B, F.upd n b, pl, tb, ⟨hB'.b, ⟨hB'.f.1, fun i c hc => ?_⟩, fun i c h1 h2 => ?_, ⟨hB'.d.1, fun i h1 h2 => ?_⟩⟩, hG.lpUpd hF2 hB2⟩
  · by_cases e : i = n
    · subst e
      rw [Heap.get_upd_self _ _ (F1.lt hF)] at hc
      rw [Heap.get_upd_self _ _ (F.lt hF2)]; exact hc
    · rw [Heap.get_upd_ne _ _ e] at hc ⊢; exact hB'.f.2 _ _ hc
  · by_cases e : i = n
    · subst e; exact hB2
    · rw [Heap.get_upd_ne _ _ e] at h1; exact hB'.x _ _ h1 h2
  · have hd := hB'.d.2 i h1 h2
    have : i ≠ n := by rintro rfl; rw [hG.le.2 _ _ hF2] at hd; cases hd
    rw [Heap.get_upd_ne _ _ this]; exact hd
theorem GRel.lpKill {B1 F1 D0 : Heap} (h : GRel P B1 F1 D0 s env σ) {n : Nat} {b0 : Blk} (hF : F1.get n = some b0) (hB : B1.get n = none) : GRel P B1 (F1.kill n) D0 s env (σ.kill n) := by
  obtain ⟨B, F, pl, tb, hB', hG⟩ := h
  have hF2 := hB'.f.2 _ _ hF
  have hB2 := hB'.x _ _ hF hB
  refine ⟨B, F.kill n, pl, tb, ⟨hB'.b, ⟨hB'.f.1, fun i c hc => ?_⟩, fun i c h1 h2 => ?_, ⟨hB'.d.1, fun i h1 h2 => ?_⟩⟩, hG.lpKill hF2 hB2⟩
  · by_cases e : i = n
    · subst e; rw [Heap.get_kill_self] at hc; cases hc
    · rw [Heap.get_kill_ne _ e] at hc ⊢; exact hB'.f.2 _ _ hc
  · by_cases e : i = n
    · subst e; exact hB2
    · rw [Heap.get_kill_ne _ e] at h1; exact hB'.x _ _ h1 h2
  · have hd := hB'.d.2 i h1 h2
    by_cases e : i = n
    · subst e; exact Heap.get_kill_self _ _
    · rw [Heap.get_kill_ne _ e]; exact hd
theorem GRel.base {B0 F0 B1 F1 D0 : Heap} (h : GRel P B1 F1 D0 s env σ) (hb : B0.Le B1) (hf : F0.Le F1) (hx : ∀ i b, F0.get i = some b → B0.get i = none → B1.get i = none) : GRel P B0 F0 D0 s env σ := by
  obtain ⟨B, F, pl, tb, hB', hG⟩ := h
  exact ⟨B, F, pl, tb, ⟨hb.trans hB'.b, hf.trans hB'.f, fun i b h1 h2 => hB'.x i b (hf.2 _ _ h1) (hx i b h1 h2), hB'.d⟩, hG⟩
theorem slots_soundE (hG : Gam P B F pl tb s env σ) {mp : List (Nat × Option Nat)} : ∀ (st : List (Nat × SV)) {e : List SV}, gmatch.slots s mp st → SRs P B (mapP pl mp) noTb e env → SRs P B (mapP pl mp) noTb (st.foldl (fun e p => e.set p.1 p.2) e) env
  | [], e, _, h => h
  | (j, v) :: r, e, hs, h => by
    simp only [gmatch.slots] at hs
    simp only [List.foldl_cons]
    refine slots_soundE hG r hs.2 ?_
    have := h.set j (svEq_sound v _ _ hs.1 (hG.env.getD j poison))
    by_cases hj : j < env.length
    · rwa [List.getD_eq_getElem?_getD, List.getElem?_eq_getElem hj, Option.getD_some, List.set_getElem_self] at this
    · rw [List.set_eq_of_length_le (by rw [h.length]; omega)]; exact h
theorem any_relE {B : Heap} {pl : Nat → Value} {tb : Nat → Option Bool} : ∀ (env : Env), SRs P B pl tb (List.replicate (List.length env) .any) env
  | [] => by simp [SRs]
  | v :: env => by
    simp only [List.length_cons, List.replicate_succ, SRs]
    exact ⟨_, _, rfl, by simp [SR], any_relE env⟩
theorem gmatch_soundE {B0 F0 D0 : Heap} (hR : GRel P B0 F0 D0 s env σ) {st : List (Nat × SV)} {ow : List (Nat × Src × OB)} (h : gmatch s st ow) : GRel P B0 F0 D0 (gstate (List.length env) st ow) env σ := by
  obtain ⟨B, F, pl, tb, hB, hG⟩ := hR
  unfold gmatch at h
  split at h
  · rename_i mp hmp
    obtain ⟨h1, h2⟩ := h
    have hinj := gmap_inj _ _ _ hmp (fun t t' a h => by cases h)
    have hmem := gobs_mem h2
    have hob : ∀ t, (oget (gstate (List.length env) st ow).own t).live = true → obEq s mp t (oget (gstate (List.length env) st ow).own t) := fun t hl => by
      rcases fold_oset (f := ow) [] t with ⟨p, h3, h4, h5⟩ | h3
      · have := hmem p h3
        rw [h4, ← h5] at this; exact this
      · simp only [gstate] at hl
        rw [h3] at hl; cases hl
    refine ⟨B, F, mapP pl mp, noTb, hB, hG.bf, hG.le, slots_soundE hG st h1 (any_relE env), fun t => ?_, fun t i hl hi => ?_, fun t t' i hne hl hl' hi hi' => ?_, fun _ _ => rfl⟩
    · cases hl : (oget (gstate (List.length env) st ow).own t).live with
      | true => exact (obEq_sound hG (hob t hl)).1
      | false =>
        cases ho : oget (gstate (List.length env) st ow).own t with
        | dead => trivial
        | stk l vals =>
          rcases fold_oset (f := ow) [] t with ⟨p, h3, h4, h5⟩ | h3
          · have := hmem p h3
            simp only [gstate] at ho
            rw [← h5, ho] at this
            have h6 := (obEq_sound hG this).1
            rw [h4] at h6; exact h6
          · simp only [gstate] at ho; rw [h3] at ho; cases ho
        | _ => rw [ho] at hl; cases hl
    · obtain ⟨a, _, h4, h5⟩ := (obEq_sound hG (hob t hl)).2 hl i hi
      exact hG.fresh a i h4 h5
    · obtain ⟨a, e1, h4, h5⟩ := (obEq_sound hG (hob t hl)).2 hl i hi
      obtain ⟨a', e2, h4', h5'⟩ := (obEq_sound hG (hob t' hl')).2 hl' i hi'
      by_cases e : a = a'
      · subst e; exact hne (hinj t t' a e1 e2)
      · exact hG.sep a a' i e h4 h4' h5 h5'
  · exact h.elim
theorem zipG_keys : ∀ (l : List Nat) (vs : List SV), (zipG l vs).map (·.1) = l
  | [], _ => rfl
  | j :: js, [] => by simp [zipG, zipG_keys js []]
  | j :: js, v :: vs => by simp [zipG, zipG_keys js vs]
theorem gsetPs_sound {B : Heap} {pl : Nat → Value} {tb : Nat → Option Bool} : ∀ {ps : List Nat} {xs : List SV} {us : List Value} {e : List SV} {env : Env}, SRs P B pl tb xs us → SRs P B pl tb e env → SRs P B pl tb (gsetPs e ps xs) (setPs env ps us)
  | [], xs, us, e, env, _, h => by simpa [gsetPs, setPs] using h
  | p :: ps, [], us, e, env, hx, h => by
    simp only [SRs] at hx; subst hx
    simpa [gsetPs, setPs] using h
  | p :: ps, x :: xs, us, e, env, hx, h => by
    simp only [SRs] at hx
    obtain ⟨u, us', rfl, h1, h2⟩ := hx
    simp only [gsetPs, setPs]
    exact gsetPs_sound h2 (h.set p h1)
def InLpF (F0 : Heap) : Option Nat → Prop
  | none => True
  | some i => ∃ env r st pend, F0.get i = some (.obj (.lp env r st pend) true)
theorem gwp_sound {C : Cx} (hcs : COk P C) {L : List (Nat × LoopAnn)} {D0 : Heap} (vc : VCode) : ∀ {B0 F0 : Heap} (n : Nat) (K : Exit → St → Prop) (s : St) (env : Env) (σ : Heap) (ro : Option Nat) (Q : Exit → Env → Heap → Prop), InLpF F0 ro → GRel P B0 F0 D0 s env σ → gwp C L vc n K s → (∀ e s' env' σ', K e s' → GRel P B0 F0 D0 s' env' σ' → Q e env' σ') → vwp (semSpecs P) vc ro Q env σ := by
  induction vc with
  | skip => intro B0 F0 n K s env σ ro Q hro hR h hK; exact hK _ _ _ _ h hR
  | region ops => intro B0 F0 n K s env σ ro Q hro hR h hK; exact gops_sound hcs ops hR h fun s' env' σ' h1 h2 => hK _ _ _ _ h1 h2
  | regionD segs => intro B0 F0 n K s env σ ro Q hro hR h hK; exact gsegs_sound hcs segs hR h fun s' env' σ' h1 h2 => hK _ _ _ _ h1 h2
  | rangeF g ps a b iha ihb =>
    intro B0 F0 n K s env σ ro Q hro hR h hK
    simp only [gwp] at h
    split at h
    · rename_i f caps hg
      split at h
      · rename_i it s1 caps' A hit hfrz hA
        split at h
        · rename_i c m ar xs hc
          cases hps : Nat.beq ps.length ar with
          | false => rw [hps] at h; exact h.elim
          | true =>
          rw [hps] at h
          simp only [_root_.cond_true] at h
          obtain ⟨hcc, p, d0, hm0, I, hI0, hIs, hIe⟩ := h
          have hps := Nat.eq_of_beq_eq_true hps
          have hlen : s.env.length = env.length := by obtain ⟨B, F, pl, tb, _, hG⟩ := hR; exact hG.env.length
          rw [hlen] at hIs hIe
          have hR0 := hR
          obtain ⟨B, F, pl, tb, hB, hG⟩ := hR
          have hgv := hG.evs Gds.nil g
          rw [hg] at hgv
          simp only [SR] at hgv
          obtain ⟨x, y, hge, hx, hy⟩ := hgv
          simp only [SRs] at hx
          subst hx
          obtain ⟨B1, F1, hB1, hG1, hcv, he1⟩ := gfrz_sound hG hy hfrz
          obtain ⟨hent, hitk⟩ := hcs.it f it hit
          obtain ⟨harl, hits⟩ := hitk B1 caps' y c m ar xs hcv hc hcc
          have hR1 : GRel P B1 F1 D0 (gstate (List.length env) (A.st p d0) (A.own p d0)) env σ := gmatch_soundE ⟨B1, F1, pl, tb, ⟨.refl _, .refl _, fun _ _ _ h => h, (hB.trans hB1).d⟩, hG1⟩ hm0
          have hBn : B1.get σ.n = none := B1.wf _ hG1.leB.1
          have hFn : F1.get σ.n = none := F1.wf _ hG1.le.1
          show vwp (semSpecs P) (.rangeF g ps a b) ro Q env σ
          simp only [vwp, vrange, hge]
          have hitS : (semSpecs P).it f = some fun i Y args σ K => OkYield P i Y → VCallsTo P f args σ K := by
            simp only [semSpecs]; rw [if_pos hent]
          rw [hitS]
          refine ⟨?_, fun r hY => ?_⟩
          · cases ro with
            | none => trivial
            | some i =>
              obtain ⟨e1, r1, st1, pe1, hi⟩ := hro
              exact ⟨e1, r1, st1, pe1, hG.le.2 _ _ (hB.f.2 _ _ hi)⟩
          · let rdy : Blk := .obj (.lp env r .ready none) true
            let bsy : Blk := .obj (.lp env r .busy none) true
            have hF1le : F1.Le (σ.push rdy) := hG1.le.push rdy
            let Fr := F1.ins (σ.push rdy) σ.n hF1le.1
            have hFr : Fr.get σ.n = some rdy := by
              show (F1.ins _ _ _).get σ.n = _
              rw [Heap.ins_self, Heap.get_push_self]
            have hFrn : Fr.n = σ.n + 1 := rfl
            have hF1r : F1.Le Fr := hF1le.ins σ.n
            let J : Nat → Heap → Prop := fun k τ => ∃ d, I k d ∧ GRel P B1 Fr D0 (gstate (List.length env) (A.st p d) (A.own p d)) env τ
            let E : Heap → Prop := fun τ => ∃ cd e, τ.get σ.n = some (.obj (.lp env r .done (some cd)) true) ∧ ((cd = .ret ∧ e = Exit.ret) ∨ ∃ id, cd = .exit id ∧ e = Exit.exit id) ∧ Q e env (τ.kill σ.n)
            have back : ∀ {s' : St} {τ : Heap}, GRel P B1 (Fr.upd σ.n bsy) D0 s' env τ → ∀ b, GRel P B1 ((Fr.upd σ.n bsy).upd σ.n b) D0 s' env (τ.upd σ.n b) := fun h b =>
              h.lpUpd (b0 := bsy) (Heap.get_upd_self _ _ (by rw [hFrn]; omega)) hBn
            have kill0 : ∀ {Fx : Heap} {b0 : Blk} {s' : St} {τ : Heap}, Fx.get σ.n = some b0 → (∀ i, i ≠ σ.n → Fx.get i = F1.get i) → Fx.n = σ.n + 1 → GRel P B1 Fx D0 s' env τ → GRel P B0 F0 D0 s' env (τ.kill σ.n) := fun {Fx b0 s' τ} h1 h2 h3 h4 => by
              refine (h4.lpKill h1 hBn).base (hB.b.trans hB1.b) ⟨?_, fun i b hb => ?_⟩ fun i b k1 k2 => (hB.trans hB1).x i b k1 k2
              · show F0.n ≤ Fx.n
                rw [h3]
                have := (hB.trans hB1).f.1
                have := hG1.le.1
                omega
              · have hb1 := (hB.trans hB1).f.2 _ _ hb
                have e : i ≠ σ.n := by rintro rfl; rw [hFn] at hb1; cases hb1
                rw [Heap.get_kill_ne _ e, h2 i e]; exact hb1
            have Frne : ∀ i, i ≠ σ.n → Fr.get i = F1.get i := fun i e => Heap.ins_ne _ _ _ e
            have hrun := hits σ.n _ J E (σ.push rdy) hY (fun k τ ⟨d, _, hd⟩ => ?_) (fun k us τ hk ⟨d, hId, hd⟩ hus => ?_) ⟨d0, hI0, ?_⟩
            · refine VCallsTo.mono (R := fun _ τ => J m τ ∨ E τ) (by simpa using hrun) fun v τ hjt => ?_
              unfold endR
              rcases hjt with ⟨d, hId, hd⟩ | ⟨cd, e, h1, h2, h3⟩
              · have hrd : τ.get σ.n = some rdy := by
                  obtain ⟨B', F', pl', tb', q1, q2⟩ := hd
                  exact q2.le.2 _ _ (q1.f.2 _ _ hFr)
                rw [hrd]
                exact ⟨(by intro h; cases h), hK _ _ _ _ (hIe d hId) (kill0 hFr Frne hFrn hd)⟩
              · rw [h1]
                refine ⟨(by intro h; cases h), ?_⟩
                rcases h2 with ⟨rfl, rfl⟩ | ⟨id, rfl, rfl⟩ <;> exact h3
            · obtain ⟨B', F', pl', tb', q1, q2⟩ := hd
              exact q1.b.trans q2.leB
            ·
              have hrd : τ.get σ.n = some rdy := by
                obtain ⟨B', F', pl', tb', q1, q2⟩ := hd
                exact q2.le.2 _ _ (q1.f.2 _ _ hFr)
              refine ⟨hrd, by rw [hps, ← (harl k).1, hus.length], ?_⟩
              have hF := hIs k d hk hId env
              have hst : GRel P B1 Fr D0 ⟨gsetPs (gstk (2000000 + n) env (gstate (List.length env) (A.st p d) (A.own p d))).env ps (xs k), (gstk (2000000 + n) env (gstate (List.length env) (A.st p d) (A.own p d))).own, 0⟩ (setPs env ps us) τ := by
                obtain ⟨B', F', pl', tb', q1, q2⟩ := hd
                have q3 : Gam P B' F' (updP pl' (2000000 + n) poison) tb' (gstk (2000000 + n) env (gstate (List.length env) (A.st p d) (A.own p d))) env τ := by
                  refine q2.make (2000000 + n) _ poison q2.le (fun _ _ _ _ _ => rfl) ?_ (fun i hl _ => by cases hl)
                  exact SRs.upd (.refl _) (fun _ _ h => h) (fun j hj => by simp [updP, hj]) _ _ q2.env
                refine ⟨B', F', updP pl' (2000000 + n) poison, tb', q1, ⟨q3.bf, q3.le, gsetPs_sound ?_ q3.env, q3.obj, q3.fresh, q3.sep, ?_⟩⟩
                · exact SRs.mono q1.b (fun _ _ h => h) _ _ (pures_sound _ _ (harl k).2 hus)
                · exact q3.free
              refine iha (B0 := B1) (F0 := Fr) n _ _ _ τ (some σ.n) _ ⟨env, r, _, _, hFr⟩ hst hF fun e s3 env3 σ3 h7 h8 => ?_
              cases e with
              | normal =>
                have hr3 : σ3.get σ.n = some rdy := by
                  obtain ⟨B', F', pl', tb', q1, q2⟩ := h8
                  exact q2.le.2 _ _ (q1.f.2 _ _ hFr)
                refine ⟨hr3, ?_⟩
                have h9 := h8.lpUpd (b := bsy) hFr hBn
                have hFb : (Fr.upd σ.n bsy).get σ.n = some bsy := Heap.get_upd_self _ _ (by rw [hFrn]; omega)
                refine ihb (B0 := B1) (F0 := Fr.upd σ.n bsy) n _ _ _ _ (some σ.n) _ ⟨env, r, _, _, hFb⟩ h9 h7 fun e s4 env4 σ4 h10 h11 => ?_
                have hb4 : σ4.get σ.n = some bsy := by
                  obtain ⟨B', F', pl', tb', q1, q2⟩ := h11
                  exact q2.le.2 _ _ (q1.f.2 _ _ hFb)
                have hn4 : σ.n < σ4.n := σ4.lt hb4
                unfold grangeK at h10
                split at h10
                · rename_i l vs hstk
                  obtain ⟨rfl, h10⟩ := h10
                  have hfr : GRel P B1 (Fr.upd σ.n bsy) D0 ⟨l, s4.own, s4.nx⟩ vs σ4 := by
                    obtain ⟨B', F', pl', tb', q1, q2⟩ := h11
                    have := q2.obj (2000000 + n)
                    rw [hstk] at this
                    exact ⟨B', F', pl', tb', q1, q2.bf, q2.le, this, q2.obj, q2.fresh, q2.sep, q2.free⟩
                  have fupd : ∀ b, ((Fr.upd σ.n bsy).upd σ.n b).get σ.n = some b := fun b => Heap.get_upd_self _ _ (by show σ.n < Fr.n; rw [hFrn]; omega)
                  have fne : ∀ b i, i ≠ σ.n → ((Fr.upd σ.n bsy).upd σ.n b).get i = F1.get i := fun b i e => by rw [Heap.get_upd_ne _ _ e, Heap.get_upd_ne _ _ e, Frne i e]
                  refine ⟨hb4, ?_⟩
                  cases e with
                  | normal =>
                    obtain ⟨d', h12, h13⟩ := h10
                    refine .inl ⟨rfl, d', h13, ?_⟩
                    have := (back (gmatch_soundE hfr h12) rdy).base (B0 := B1) (F0 := Fr) (.refl _) ⟨Nat.le_refl _, fun i b hb => ?_⟩ fun i b k1 k2 => k2
                    · exact this
                    · by_cases e : i = σ.n
                      · subst e; rw [hFr] at hb; rw [fupd]; exact hb
                      · rw [fne _ _ e, ← Frne i e]; exact hb
                  | ret =>
                    refine .inr ⟨rfl, _, _, Heap.get_upd_self _ _ hn4, .inl ⟨rfl, rfl⟩, hK _ _ _ _ h10 (kill0 (fupd _) (fne _) (by show Fr.n = _; exact hFrn) (back hfr _))⟩
                  | exit id =>
                    refine .inr ⟨rfl, _, _, Heap.get_upd_self _ _ hn4, .inr ⟨id, rfl, rfl⟩, hK _ _ _ _ h10 (kill0 (fupd _) (fne _) (by show Fr.n = _; exact hFrn) (back hfr _))⟩
                  | _ => exact h10.elim
                · exact h10.elim
              | _ => exact h7.elim
            ·
              obtain ⟨B', F', pl', tb', q1, q2⟩ := hR1
              have hle : F'.Le (σ.push rdy) := q2.le.push rdy
              have hFn' : F'.get σ.n = none := F'.wf _ q2.le.1
              have hob : ∀ d i, (oget (gstate (List.length env) (A.st p d0) (A.own p d0)).own d).live = true → oid (pl' d) = some i → i < σ.n := fun d i h1 h2 => (q2.obj d).id_lt h1 h2
              refine ⟨B', F'.ins (σ.push rdy) σ.n hle.1, pl', tb', ⟨q1.b, Heap.ins_ins q1.f _ _ _, fun i b k1 k2 => ?_, q1.d.trans (Dead.push _ _)⟩, ⟨q2.bf.trans (hle.ins _), hle.ins_le _, q2.env, fun d => (q2.obj d).mono (.refl _) (fun _ _ h => h) fun h1 i h2 => Heap.get_push_lt _ _ (hob d i h1 h2), fun d i h1 h2 => ?_, q2.sep, q2.free⟩⟩
              · by_cases e : i = σ.n
                · subst e; exact B'.wf _ q2.leB.1
                · rw [Frne i e] at k1; exact q1.x i b k1 k2
              · rw [Heap.ins_ne _ _ _ (Nat.ne_of_lt (hob d i h1 h2))]; exact q2.fresh d i h1 h2
        · exact h.elim
      · exact h.elim
    · exact h.elim
  | bad => intro B0 F0 n K s env σ ro Q hro hR h hK; exact h.elim
  | ret => intro B0 F0 n K s env σ ro Q hro hR h hK; exact hK _ _ _ _ h hR
  | exit id => intro B0 F0 n K s env σ ro Q hro hR h hK; exact hK _ _ _ _ h hR
  | seq a b iha ihb =>
    intro B0 F0 n K s env σ ro Q hro hR h hK
    refine iha n _ s env σ ro _ hro hR h fun e s' env' σ' h1 h2 => ?_
    cases e with
    | normal => exact ihb n K s' env' σ' ro Q hro h2 h1 hK
    | _ => exact hK _ _ _ _ h1 h2
  | cond c a b iha ihb =>
    intro B0 F0 n K s env σ ro Q hro hR h hK
    simp only [gwp] at h
    split at h
    · rename_i t ht
      obtain ⟨B, F, pl, tb, hB, hG⟩ := hR
      have := asB_inv ht (hG.evs Gds.nil c)
      simp only [vwp, this, vcond]
      exact ⟨fun e => iha n K s env σ ro Q hro ⟨B, F, pl, tb, hB, hG⟩ (h.1 e) hK, fun e => ihb n K s env σ ro Q hro ⟨B, F, pl, tb, hB, hG⟩ (h.2 e) hK⟩
    · exact h.elim
  | block id b ih =>
    intro B0 F0 n K s env σ ro Q hro hR h hK
    refine ih id _ s env σ ro _ hro hR h fun e s' env' σ' h1 h2 => ?_
    cases e with
    | exit id' =>
      simp only [gblockK] at h1
      simp only [blockK]
      split
      · rename_i e; rw [if_pos e] at h1; exact hK _ _ _ _ h1 h2
      · rename_i e; rw [if_neg e] at h1; exact hK _ _ _ _ h1 h2
    | _ => exact hK _ _ _ _ h1 h2
  | loop b ih =>
    intro B0 F0 n K s env σ ro Q hro hR h hK
    simp only [gwp] at h
    split at h
    · rename_i A hA
      obtain ⟨p, d0, h1, I, μ, h2, h3⟩ := h
      have hlen : s.env.length = env.length := by obtain ⟨B, F, pl, tb, _, hG⟩ := hR; exact hG.env.length
      have hk : ∀ d, (A.st p d).map (·.1) = A.sl := fun d => zipG_keys _ _
      refine ⟨A.sl, fun m vs σ' => ∃ d, I d ∧ μ d = m ∧ GRel P B0 F0 D0 (gstate s.env.length (A.st p d) (A.own p d)) (spreadE A.sl vs (List.replicate env.length poison)) σ', μ d0, ⟨d0, h2, rfl, ?_⟩, fun m vs σ' ⟨d, h4, h5, h6⟩ => ?_⟩
      · have := gmatch_sound hR h1 s.env.length
        rw [hk d0, hlen] at this
        rw [hlen]; exact this
      · refine ih n _ _ _ σ' ro _ hro h6 (h3 d h4) fun e s' env' σ'' h7 h8 => ?_
        cases e with
        | normal =>
          obtain ⟨d', h9, h10, h11⟩ := h7
          refine ⟨μ d', by omega, d', h10, rfl, ?_⟩
          have := gmatch_sound h8 h9 s.env.length
          rw [hk d', hlen] at this
          rw [hlen]; exact this
        | _ => exact hK _ _ _ _ h7 h8
    · exact h.elim
end
end Go.V
