/- A framework for walks, contracts of functions, and their proofs: part 5. -/
import Derived.Test.YtoagdbabgiekgaaGreatDoorProg
import Derived.ProofKit
import Derived.OpenShut
import Derived.LaidMore
import Derived.Carry
import Derived.Lib.SmallJoins
import Derived.Test.YtoagdbabgiekgaaGreatDoorR4
namespace Go.V
open Go
structure FRel (e : ET) (env : Env) : Prop where
 m : e.m = List.length env
 sm : e.m ≤ 1000000
 get : ∀ i, env.getD i undef = e.get i
theorem ET.get_lt {e : ET} {i : Nat} (hi : i < e.m) : e.get i = e.t.get undef i := by
 unfold ET.get
 rw [show Nat.blt i e.m = true from Nat.ble_eq_true_of_le hi]
theorem ET.get_ge {e : ET} {i : Nat} (hi : e.m ≤ i) : e.get i = undef := by
 unfold ET.get
 cases hb : Nat.blt i e.m with
 | false => rfl
 | true => have := Nat.le_of_ble_eq_true hb; omega
theorem ET.set_lt {e : ET} {i : Nat} {v : Value} (hi : i < e.m) : e.set i v = ⟨e.t.set undef 32 i v, e.m⟩ := by
 unfold ET.set
 rw [show Nat.blt i e.m = true from Nat.ble_eq_true_of_le hi]
theorem ET.set_ge {e : ET} {i : Nat} {v : Value} (hi : e.m ≤ i) : e.set i v = e := by
 unfold ET.set
 cases hb : Nat.blt i e.m with
 | false => rfl
 | true => have := Nat.le_of_ble_eq_true hb; omega
theorem ET.set_m (e : ET) (i : Nat) (v : Value) : (e.set i v).m = e.m := by
 rcases Nat.lt_or_ge i e.m with h | h
 ·rw [ET.set_lt h]
 ·rw [ET.set_ge h]
theorem ET.get_set {e : ET} (hs : e.m ≤ 1000000) (i : Nat) (v : Value) (j : Nat) : (e.set i v).get j = if j = i ∧ i < e.m then v else e.get j := by
 rcases Nat.lt_or_ge i e.m with hi | hi
 ·rw [ET.set_lt hi]
  rcases Nat.lt_or_ge j e.m with hj | hj
  ·rw [ET.get_lt (e := ⟨e.t.set undef 32 i v, e.m⟩) hj, ET.get_lt hj]
   show (e.t.set undef 32 i v).get undef j = _
   rw [GT.get_set undef 32 _ _ _ _ (by omega)]
   by_cases h : j = i
   ·rw [if_pos h, if_pos ⟨h, hi⟩]
   ·rw [if_neg h, if_neg (fun e => h e.1)]
  ·rw [ET.get_ge (e := ⟨e.t.set undef 32 i v, e.m⟩) hj, ET.get_ge hj, if_neg (by rintro ⟨rfl, _⟩; omega)]
 ·rw [ET.set_ge hi, if_neg (by rintro ⟨_, h⟩; omega)]
theorem FRel.set {e : ET} {env : Env} (h : FRel e env) (i : Nat) (v : Value) : FRel (e.set i v) (env.set i v) := by
 refine ⟨by rw [ET.set_m, List.length_set]; exact h.m, by rw [ET.set_m]; exact h.sm, fun j => ?_⟩
 rw [ET.get_set h.sm, ← h.get, List.getD_eq_getElem?_getD, List.getD_eq_getElem?_getD, List.getElem?_set, h.m]
 by_cases hij : i = j
 ·subst hij
  rcases Nat.lt_or_ge i (List.length env) with hi | hi
  ·rw [if_pos rfl, if_pos hi, if_pos ⟨rfl, hi⟩]; rfl
  ·rw [if_pos rfl, if_neg (by omega), if_neg (by rintro ⟨_, h⟩; omega), List.getElem?_eq_none hi]
 ·rw [if_neg hij, if_neg (fun e => hij e.1.symm)]
theorem FRel.put {e : ET} {env : Env} (h : FRel e env) (d : Option Nat) (v : Value) : FRel (e.put d v) (putE env d v) := by
 cases d with
 | none => exact h
 | some d => exact h.set d v
theorem evalE_eq {e : ET} {env : Env} (h : FRel e env) : evalE e = evalO env := by
 funext x
 cases x with
 | tmp t => exact (h.get t).symm
 | _ => rfl
theorem ewant_eq {e : ET} {env : Env} (h : FRel e env) (g : Option (Nat × Bool)) : ewant e g = vwant env g := by
 cases g with
 | none => rfl
 | some p =>
  obtain ⟨d, w⟩ := p
  simp only [ewant, vwant, h.get]
  cases e.get d <;> rfl
theorem esetPs_rel : ∀ (ps : List Nat) (vs : List Value) {e : ET} {env : Env}, FRel e env → FRel (esetPs e ps vs) (setPs env ps vs)
 | [], vs, e, env, h => by cases vs <;> exact h
 | p :: ps, [], e, env, h => h
 | p :: ps, v :: vs, e, env, h => esetPs_rel ps vs (h.set p v)
theorem etL_get : ∀ (l : List Value) (i : Nat) (t : GT Value) (j : Nat), i + l.length ≤ 1000000 → (etL l i t).get undef j = if i ≤ j ∧ j < i + l.length then l.getD (j - i) undef else t.get undef j
 | [], i, t, j, _ => by rw [if_neg (by simp only [List.length_nil]; omega)]; rfl
 | v :: l, i, t, j, h => by
  have h : i + (l.length + 1) ≤ 1000000 := h
  show (etL l (i + 1) (t.set undef 32 i v)).get undef j = _
  rw [etL_get l (i + 1) _ j (by omega), GT.get_set undef 32 _ _ _ _ (by omega)]
  by_cases hji : j = i
  ·subst hji
   rw [if_neg (by omega), if_pos rfl, if_pos (by simp)]; simp
  ·by_cases hc : i + 1 ≤ j ∧ j < i + 1 + l.length
   ·rw [if_pos hc, if_pos (by simp; omega), show j - i = j - (i + 1) + 1 by omega]; rfl
   ·rw [if_neg hc, if_neg hji, if_neg (by simp; omega)]
theorem ET.of_rel {args : List Value} {nt : Nat} (h : (ET.of args nt).m ≤ 1000000) : FRel (ET.of args nt) (args ++ List.replicate (nt - args.length) undef) := by
 refine ⟨by simp [ET.of], h, fun i => ?_⟩
 have hm : (ET.of args nt).m = args.length + (nt - args.length) := rfl
 rw [hm] at h
 rcases Nat.lt_or_ge i (ET.of args nt).m with hi | hi
 ·rw [ET.get_lt hi]
  show _ = (etL args 0 .nil).get undef i
  rw [etL_get _ _ _ _ (by omega), List.getD_eq_getElem?_getD, List.getElem?_append]
  rw [hm] at hi
  by_cases hl : i < args.length
  ·rw [if_pos hl, if_pos (by omega)]
   simp [List.getD_eq_getElem?_getD]
  ·rw [if_neg hl, if_neg (by omega), List.getElem?_replicate, if_pos (by omega)]; rfl
 ·rw [ET.get_ge hi]
  rw [hm] at hi
  rw [List.getD_eq_getElem?_getD, List.getElem?_eq_none (by simp; omega)]; rfl
structure TabOk (P : Program) (T : Tab) : Prop where
 code : ∀ f vc rs nt, T f = some (.code vc rs nt) → Fun P f vc rs nt
 codeJ : ∀ f vc rs nt, T f = some (.codeJ vc rs nt) → Fun P f vc rs nt
 same : ∀ f, T f = some .same → ∀ (v : Value) (σ : Heap) (K : Value → Heap → Prop), K v σ → VCalled P f [v] σ K
section
variable {P : Program} {T : Tab} {ev : EvFn}
abbrev Recs := Nat → Env × Loop
def YOk (P : Program) (ys : Ys) (rs : Recs) (n : Nat) : Prop :=
 ∀ i c, ys.find i = some c → i < n ∧ FRel c.env (rs i).1 ∧ OkYield P i (roundY (vwp (semSpecs P) c.a (some i)) (vwp (semSpecs P) c.b (some i)) c.ps (rs i).1 (rs i).2 i)
theorem YOk.mono {ys : Ys} {rs rs' : Recs} {n n' : Nat} (h : YOk P ys rs n) (hn : n ≤ n') (hr : ∀ i, i < n → rs' i = rs i) : YOk P ys rs' n' := fun i c hc => by
 obtain ⟨h1, h2, h3⟩ := h i c hc
 rw [hr i h1]
 exact ⟨by omega, h2, h3⟩
def Cont {A : Type} (G : A → Prop) (rs : Recs) (h : CH) (k : Value → CH → A) (K : Value → Heap → Prop) : Prop :=
 ∀ v h' rs' σ', h.n ≤ h'.n → (∀ i, i < h.n → rs' i = rs i) → CSim rs' h' σ' → G (k v h') → K v σ'
def ContE {A : Type} (G : A → Prop) (rs : Recs) (h : CH) (m : Nat) (k : Exit → ET → CH → A) (Q : Exit → Env → Heap → Prop) : Prop :=
 ∀ e et' h' rs' σ' env', h.n ≤ h'.n → (∀ i, i < h.n → rs' i = rs i) → CSim rs' h' σ' → FRel et' env' → List.length env' = m → G (k e et' h') → Q e env' σ'
def ContN {A : Type} (G : A → Prop) (rs : Recs) (h : CH) (m : Nat) (k : ET → CH → A) (K : Env → Heap → Prop) : Prop :=
 ∀ et' h' rs' σ' env', h.n ≤ h'.n → (∀ i, i < h.n → rs' i = rs i) → CSim rs' h' σ' → FRel et' env' → List.length env' = m → G (k et' h') → K env' σ'
def Sd (P : Program) (ev : EvFn) : Prop := ∀ {A : Type} (R : AnsOps A) (G : A → Prop), Good R G → ∀ (ys : Ys) (c : VCode) (ro : Option Nat) (et : ET) (env : Env) (h : CH) (k : Exit → ET → CH → A) (rs : Recs) (σ : Heap) (Q : Exit → Env → Heap → Prop),
 YOk P ys rs h.n → CSim rs h σ → FRel et env → G (ev R ys c ro et h k) → ContE G rs h (List.length env) k Q → vwp (semSpecs P) c ro Q env σ
theorem eresult_sound {rs : Recs} {h : CH} {σ : Heap} (hs : CSim rs h σ) {et : ET} {env : Env} (hE : FRel et env) {r : VResult} {v : Value} (hr : eresult et h r = some v) : vresult env σ r = some v := by
 cases r with
 | tmp t => simp only [eresult] at hr; simp only [vresult, hE.get]; exact hr
 | cell a agg size =>
  simp only [eresult] at hr
  split at hr
  ·rename_i p hp
   rw [← hE.get] at hp
   obtain ⟨_, σ', h1, _⟩ := eactF_sound (o := .load agg size (.tmp a)) (ev := evalO env) hs hp
   simp only [vresult, h1, Option.map_some]
   exact hr
  ·cases hr
theorem eresultL_sound {rs : Recs} {h : CH} {σ : Heap} (hs : CSim rs h σ) {et : ET} {env : Env} (hE : FRel et env) : ∀ (l : List VResult) (vs : List Value), eresultL et h l = some vs → l.mapM (vresult env σ) = some vs
 | [], vs, hr => by simp [eresultL] at hr; subst hr; rfl
 | r :: l, vs, hr => by
  simp only [eresultL] at hr
  split at hr
  ·cases hr
  ·rename_i v hv
   split at hr
   ·cases hr
   ·rename_i ws hw
    obtain rfl := Option.some.inj hr
    rw [List.mapM_cons, eresult_sound hs hE hv]
    simp [eresultL_sound hs hE l ws hw]
theorem eresults_sound {rs : Recs} {h : CH} {σ : Heap} (hs : CSim rs h σ) {et : ET} {env : Env} (hE : FRel et env) {l : List VResult} {v : Value} (hr : eresults et h l = some v) : vresults env σ l = some v := by
 unfold eresults at hr
 split at hr
 ·exact eresult_sound hs hE hr
 ·rename_i hne
  split at hr
  ·rename_i vs hvs
   unfold vresults
   split
   ·rename_i r; exact absurd rfl (hne r)
   ·rw [eresultL_sound hs hE _ _ hvs]; exact hr
  ·cases hr
variable {A : Type} {R : AnsOps A} {G : A → Prop}
theorem eend_sound (hG : Good R G) {rl : List VResult} {k : Value → CH → A} {rs : Recs} {h : CH} {σ : Heap} {K : Value → Heap → Prop} {m : Nat} (hk : Cont G rs h k K) : ContE G rs h m (eend R.fail rl k) (EndK σ rl K) := by
 intro e et' h' rs' σ' env' hn hr hs' hE' _ hg
 have fin : G (match eresults et' h' rl with | some v => k v h' | none => R.fail) → obind (vresults env' σ' rl) fun v => ∃ v' σ'', DropTo σ v σ' v' σ'' ∧ K v' σ'' := by
  intro hg
  split at hg
  ·rename_i v hv
   rw [eresults_sound hs' hE' hv]
   exact ⟨v, σ', .refl _ _ _, hk v h' rs' σ' hn hr hs' hg⟩
  ·exact (hG.fail hg).elim
 cases e with
 | normal => exact fin hg
 | ret => exact fin hg
 | _ => exact (hG.fail hg).elim
noncomputable def CH.toHeap (rs : Recs) (h : CH) : Heap := ⟨fun i => (h.get i).map (EB.to (rs i)), h.n, fun i hi => by rw [CH.get_ge hi]; rfl⟩
theorem toHeap_sim {rs : Recs} {h : CH} (hr : h.n ≤ 1000000001) : CSim rs h (h.toHeap rs) := ⟨rfl, hr, fun _ => rfl⟩
theorem CSim.eq {rs : Recs} {h : CH} {σ : Heap} (hs : CSim rs h σ) : σ = h.toHeap rs := Heap.ext' (fun j => hs.get j) hs.n.symm
def JGood (x : Value × CH) (a : Option (Value × CH)) : Prop := ∃ y, a = some y ∧ y.1 = x.1 ∧ y.2.n = x.2.n ∧ ∀ i, y.2.get i = x.2.get i
theorem same_get {h h' : CH} (hs : h.same h' = true) : h.n = h'.n ∧ ∀ i, h.get i = h'.get i := by
 simp only [CH.same, Bool.and_eq_true, List.all_eq_true, List.mem_range, Nat.beq_eq] at hs
 refine ⟨hs.1, fun i => ?_⟩
 rcases Nat.lt_or_ge i h.n with hi | hi
 ·have := hs.2 i hi
  split at this
  ·rename_i h1 h2; rw [h1, h2]
  ·rename_i a b h1 h2; rw [h1, h2, EB.beq_eq this]
  ·cases this
 ·rw [CH.get_ge hi, CH.get_ge (by rw [← hs.1]; exact hi)]
theorem joinGood (x : Value × CH) : Good joinOps (JGood x) := by
 refine ⟨fun ⟨y, h, _⟩ => (by cases h), fun a b h => ?_⟩
 obtain ⟨y, h1, h2, h3, h4⟩ := h
 cases a with
 | none => cases h1
 | some xa =>
  cases b with
  | none => cases h1
  | some xb =>
   simp only [joinOps] at h1
   split at h1
   ·rename_i hc
    obtain rfl := Option.some.inj h1
    have e1 := vbeq_eq _ _ _ hc.1
    obtain ⟨e2, e3⟩ := same_get hc.2
    exact ⟨⟨xa, rfl, h2, h3, h4⟩, xb, rfl, by rw [← e1]; exact h2, by rw [← e2]; exact h3, fun i => by rw [← e3 i]; exact h4 i⟩
   ·cases h1
theorem plainE_to {b : EB} {q : Env × Loop} (h : b.plainE = true) : (b.to q).plain = true ∧ ∀ q', b.to q' = b.to q := by
 cases b <;> first | exact ⟨h, fun _ => rfl⟩ | cases h
def gcP (n0 : Nat) (refs : List Nat) (i : Nat) : Nat := if i < n0 then i else refs.getD (i - n0) 0
def RExt (n0 : Nat) (a b : List Nat) : Prop := (∃ t, b = a ++ t ∧ ∀ x ∈ t, n0 ≤ x) ∧ (a.Nodup → b.Nodup)
theorem RExt.refl (n0 : Nat) (a : List Nat) : RExt n0 a a := ⟨⟨[], by simp, fun x hx => by cases hx⟩, id⟩
theorem RExt.trans {n0 : Nat} {a b c : List Nat} (h : RExt n0 a b) (k : RExt n0 b c) : RExt n0 a c := by
 obtain ⟨⟨t, rfl, ht⟩, h2⟩ := h
 obtain ⟨⟨u, rfl, hu⟩, k2⟩ := k
 exact ⟨⟨t ++ u, by simp, fun x hx => (List.mem_append.1 hx).elim (ht x) (hu x)⟩, fun h => k2 (h2 h)⟩
def Sub (a b : List Nat) : Prop := ∃ t, b = a ++ t
theorem Sub.trans {a b c : List Nat} (h : Sub a b) (k : Sub b c) : Sub a c := by
 obtain ⟨t, rfl⟩ := h; obtain ⟨u, rfl⟩ := k; exact ⟨t ++ u, by simp⟩
theorem RExt.sub {n0 : Nat} {a b : List Nat} (h : RExt n0 a b) : Sub a b := by obtain ⟨⟨t, h, _⟩, _⟩ := h; exact ⟨t, h⟩
theorem gcI_spec (n0 : Nat) (refs : List Nat) (i : Nat) : RExt n0 refs (gcI n0 refs i).2 ∧ ∀ (all : List Nat), Sub (gcI n0 refs i).2 all → (gcI n0 refs i).1 < n0 + all.length ∧ gcP n0 all (gcI n0 refs i).1 = i := by
 unfold gcI
 split
 ·rename_i hi
  exact ⟨RExt.refl _ _, fun all _ => ⟨by simp only; omega, by simp [gcP, hi]⟩⟩
 ·rename_i hi
  split
  ·rename_i hc
   have hm : i ∈ refs := by simpa using hc
   have hlt := List.idxOf_lt_length_of_mem hm
   refine ⟨RExt.refl _ _, fun all ⟨t, ht⟩ => ?_⟩
   simp only at ht
   have hlt' : refs.idxOf i < all.length := by rw [ht, List.length_append]; omega
   refine ⟨by simp only; omega, ?_⟩
   simp only [gcP, if_neg (show ¬ n0 + refs.idxOf i < n0 by omega), show n0 + refs.idxOf i - n0 = refs.idxOf i by omega, List.getD_eq_getElem?_getD]
   rw [ht, List.getElem?_append_left hlt, List.getElem?_eq_getElem hlt]
   simp
  ·rename_i hc
   have hm : i ∉ refs := by simpa using hc
   refine ⟨⟨⟨[i], rfl, fun x hx => by simp at hx; omega⟩, fun h1 => List.nodup_append.2 ⟨h1, by simp, fun a ha b hb => by simp at hb; subst hb; rintro rfl; exact hm ha⟩⟩, fun all ⟨t, ht⟩ => ?_⟩
   simp only at ht
   have hlt : refs.length < all.length := by rw [ht]; simp
   refine ⟨by simp only; omega, ?_⟩
   simp only [gcP, if_neg (show ¬ n0 + refs.length < n0 by omega), show n0 + refs.length - n0 = refs.length by omega]
   simp [ht, List.getD_eq_getElem?_getD]
def XSpec (n0 : Nat) (refs refs' : List Nat) (v' v : Value) : Prop := RExt n0 refs refs' ∧ ∀ (all : List Nat), Sub refs' all → Ren (n0 + all.length) (gcP n0 all) v' v
def LSpec (n0 : Nat) (refs refs' : List Nat) (v' v : List Value) : Prop := RExt n0 refs refs' ∧ ∀ (all : List Nat), Sub refs' all → LRen (n0 + all.length) (gcP n0 all) v' v
theorem gcLs_spec {n0 : Nat} {g : List Nat → Value → Option (Value × List Nat)} (hg : ∀ refs v p, g refs v = some p → XSpec n0 refs p.2 p.1 v) : ∀ (vs : List Value) (refs : List Nat) (p : List Value × List Nat), gcLs g vs refs = some p → LSpec n0 refs p.2 p.1 vs
 | [], refs, p, h => by
  obtain rfl := Option.some.inj h
  exact ⟨RExt.refl _ _, fun all _ => ⟨rfl, fun i a b ha => by simp at ha⟩⟩
 | v :: vs, refs, p, h => by
  simp only [gcLs] at h
  split at h
  ·cases h
  ·rename_i p1 h1
   split at h
   ·cases h
   ·rename_i p2 h2
    obtain rfl := Option.some.inj h
    obtain ⟨a1, a2⟩ := hg _ _ _ h1
    obtain ⟨b1, b2⟩ := gcLs_spec hg vs _ _ h2
    refine ⟨a1.trans b1, fun all hall => ?_⟩
    have c1 := a2 all (b1.sub.trans hall)
    have c2 := b2 all hall
    refine ⟨by simp [c2.1], fun i a b ha hb => ?_⟩
    cases i with
    | zero => simp at ha hb; subst ha; subst hb; exact c1
    | succ i => exact c2.2 i a b (by simpa using ha) (by simpa using hb)
theorem LRen.agg {n : Nat} {π : Nat → Nat} {vs' : List Value} {cs : Array Value} (h : LRen n π vs' cs.toList) : Ren n π (.agg vs'.toArray) (.agg cs) :=
 .agg _ _ (by simpa using h.1) fun i h1 h2 => h.2 i _ _ (by simp) (by simp)
theorem LRen.tuple {n : Nat} {π : Nat → Nat} {vs' : List Value} {cs : Array Value} (h : LRen n π vs' cs.toList) : Ren n π (.tuple vs'.toArray) (.tuple cs) :=
 .tuple _ _ (by simpa using h.1) fun i h1 h2 => h.2 i _ _ (by simp) (by simp)
theorem gcX_spec (n0 : Nat) : ∀ (f : Nat) (refs : List Nat) (v : Value) (p : Value × List Nat), gcX n0 f refs v = some p → XSpec n0 refs p.2 p.1 v := by
 intro f
 induction f with
 | zero => intro refs v p h; cases h
 | succ f ih =>
  intro refs v p h
  unfold gcX at h
  split at h
  ·rename_i i o
   obtain rfl := Option.some.inj h
   obtain ⟨h1, h2⟩ := gcI_spec n0 refs i
   refine ⟨h1, fun all hall => ?_⟩
   obtain ⟨k1, k2⟩ := h2 all hall
   have := Ren.ptr (n := n0 + all.length) (π := gcP n0 all) (gcI n0 refs i).1 o k1
   rwa [k2] at this
  ·rename_i i o l c
   obtain rfl := Option.some.inj h
   obtain ⟨h1, h2⟩ := gcI_spec n0 refs i
   refine ⟨h1, fun all hall => ?_⟩
   obtain ⟨k1, k2⟩ := h2 all hall
   have := Ren.sl (n := n0 + all.length) (π := gcP n0 all) (gcI n0 refs i).1 o l c k1
   rwa [k2] at this
  ·rename_i i
   obtain rfl := Option.some.inj h
   obtain ⟨h1, h2⟩ := gcI_spec n0 refs i
   refine ⟨h1, fun all hall => ?_⟩
   obtain ⟨k1, k2⟩ := h2 all hall
   have := Ren.map (n := n0 + all.length) (π := gcP n0 all) (gcI n0 refs i).1 k1
   rwa [k2] at this
  ·obtain rfl := Option.some.inj h
   exact ⟨RExt.refl _ _, fun all _ => .poison _⟩
  ·split at h
   ·rename_i q hq
    obtain rfl := Option.some.inj h
    obtain ⟨h1, h2⟩ := ih _ _ _ hq
    exact ⟨h1, fun all hall => .iface _ _ _ (h2 all hall)⟩
   ·cases h
  ·split at h
   ·rename_i q hq
    obtain rfl := Option.some.inj h
    obtain ⟨h1, h2⟩ := gcLs_spec ih _ _ _ hq
    exact ⟨h1, fun all hall => (h2 all hall).agg⟩
   ·cases h
  ·split at h
   ·rename_i q hq
    obtain rfl := Option.some.inj h
    obtain ⟨h1, h2⟩ := gcLs_spec ih _ _ _ hq
    exact ⟨h1, fun all hall => (h2 all hall).tuple⟩
   ·cases h
  ·split at h
   ·rename_i q hq
    split at h
    ·rename_i q2 hq2
     obtain rfl := Option.some.inj h
     obtain ⟨h1, h2⟩ := gcLs_spec ih _ _ _ hq
     obtain ⟨h3, h4⟩ := gcLs_spec ih _ _ _ hq2
     refine ⟨h1.trans h3, fun all hall => ?_⟩
     have c1 := h2 all (h3.sub.trans hall)
     have c2 := h4 all hall
     exact .func _ _ _ _ _ (by simpa using c1.1) (by simpa using c2.1) (fun i h1 h2 => c1.2 i _ _ (by simp) (by simp)) (fun i h1 h2 => c2.2 i _ _ (by simp) (by simp))
    ·cases h
   ·cases h
  ·split at h
   ·rename_i hp
    obtain rfl := Option.some.inj h
    exact ⟨RExt.refl _ _, fun all _ => .plain _ hp⟩
   ·cases h
theorem gcEs_spec (n0 : Nat) : ∀ (es : List MEnt) (refs : List Nat) (p : List MEnt × List Nat), gcEs n0 es refs = some p → RExt n0 refs p.2 ∧ ∀ (all : List Nat), Sub p.2 all →
  p.1.length = es.length ∧ ∀ (k : Nat) (a b : MEnt), p.1[k]? = some a → es[k]? = some b → a.1 = b.1 ∧ a.2.2 = b.2.2 ∧ Ren (n0 + all.length) (gcP n0 all) a.2.1 b.2.1
 | [], refs, p, h => by
  obtain rfl := Option.some.inj h
  exact ⟨RExt.refl _ _, fun all _ => ⟨rfl, fun i a b ha => by simp at ha⟩⟩
 | e :: es, refs, p, h => by
  simp only [gcEs] at h
  split at h
  ·cases h
  ·rename_i p1 h1
   split at h
   ·cases h
   ·rename_i p2 h2
    obtain rfl := Option.some.inj h
    obtain ⟨a1, a2⟩ := gcX_spec n0 _ _ _ _ h1
    obtain ⟨b1, b2⟩ := gcEs_spec n0 es _ _ h2
    refine ⟨a1.trans b1, fun all hall => ?_⟩
    have c1 := a2 all (b1.sub.trans hall)
    obtain ⟨c2, c3⟩ := b2 all hall
    refine ⟨by simp [c2], fun i a b ha hb => ?_⟩
    cases i with
    | zero => simp at ha hb; subst ha; subst hb; exact ⟨rfl, rfl, c1⟩
    | succ i => exact c3 i a b (by simpa using ha) (by simpa using hb)
theorem gcB_spec {n0 : Nat} {refs : List Nat} {b : EB} {p : EB × List Nat} (h : gcB n0 refs b = some p) : RExt n0 refs p.2 ∧ ∀ (all : List Nat), Sub p.2 all → ∀ q q', BRen (n0 + all.length) (gcP n0 all) (p.1.to q') (b.to q) := by
 unfold gcB at h
 split at h
 ·split at h
  ·rename_i q hq
   obtain rfl := Option.some.inj h
   obtain ⟨h1, h2⟩ := gcLs_spec (gcX_spec n0 8) _ _ _ hq
   exact ⟨h1, fun all hall _ _ => ⟨rfl, rfl, rfl, h2 all hall⟩⟩
  ·cases h
 ·split at h
  ·rename_i q hq
   obtain rfl := Option.some.inj h
   obtain ⟨h1, h2⟩ := gcEs_spec n0 _ _ _ hq
   exact ⟨h1, fun all hall _ _ => ⟨rfl, rfl, (h2 all hall).1, (h2 all hall).2⟩⟩
  ·cases h
 ·cases h
theorem gcRun_spec {h' : CH} {n0 : Nat} : ∀ (f k : Nat) (refs : List Nat) (acc : CH) (r : CH × List Nat), gcRun h' n0 f k refs acc = some r → acc.n = n0 + k → acc.n ≤ 1000000001 →
  RExt n0 refs r.2 ∧ r.1.n = n0 + r.2.length ∧ r.1.n ≤ 1000000001 ∧ (∀ i, i < acc.n → r.1.get i = acc.get i) ∧
  ∀ j, k ≤ j → j < r.2.length → ∃ b b', h'.get (r.2.getD j 0) = some b ∧ r.1.get (n0 + j) = some b' ∧ ∀ q q', BRen (n0 + r.2.length) (gcP n0 r.2) (b'.to q') (b.to q) := by
 intro f
 induction f with
 | zero => intro k refs acc r h; cases h
 | succ f ih =>
  intro k refs acc r h hn hs
  simp only [gcRun] at h
  split at h
  ·split at h
   ·rename_i hk
    obtain rfl := Option.some.inj h
    exact ⟨RExt.refl _ _, by rw [hn, hk], hs, fun _ _ => rfl, fun j h1 h2 => by simp only at h2; omega⟩
   ·cases h
  ·rename_i hk
   split at h
   ·cases h
   ·rename_i b hb
    split at h
    ·cases h
    ·rename_i p hp
     split at h
     ·rename_i hroom
      have hroom : acc.n ≤ 1000000000 := Nat.le_of_ble_eq_true hroom
      obtain ⟨a1, a2⟩ := gcB_spec hp
      have hpn : (acc.push p.1).n = acc.n + 1 := rfl
      obtain ⟨b1, b2, b3, b4, b5⟩ := ih (k + 1) p.2 (acc.push p.1) r h (by rw [hpn]; omega) (by rw [hpn]; omega)
      refine ⟨a1.trans b1, b2, b3, fun i hi => ?_, fun j hj1 hj2 => ?_⟩
      ·rw [b4 i (by rw [hpn]; omega), CH.get_push hs, if_neg (by omega)]
      ·by_cases hjk : j = k
       ·subst hjk
        have hkl : j < refs.length := by omega
        obtain ⟨t, ht⟩ := (a1.trans b1).sub
        have hg : r.2.getD j 0 = refs.getD j 0 := by
         rw [ht, List.getD_eq_getElem?_getD, List.getD_eq_getElem?_getD, List.getElem?_append_left hkl]
        refine ⟨b, p.1, by rw [hg]; exact hb, ?_, a2 r.2 b1.sub⟩
        rw [← hn, b4 _ (by rw [hpn]; omega), CH.get_push hs, if_pos rfl]
       ·exact b5 j (by omega) hj2
     ·cases h
theorem gcDone_sound {rs rs' : Recs} {h h' : CH} {σ σ' : Heap} (hs : CSim rs h σ) (hs' : CSim rs' h' σ') (hr : ∀ i, i < h.n → rs' i = rs i) {v : Value} {y x : Value × CH} (hg : gcDone h h' v = some y) (h1 : y.1 = x.1) (h2 : y.2.n = x.2.n) (h3 : ∀ i, y.2.get i = x.2.get i) :
  DropTo σ v σ' x.1 (x.2.toHeap rs) := by
 unfold gcDone at hg
 split at hg
 ·cases hg
 ·rename_i p hp
  split at hg
  ·cases hg
  ·rename_i q hq
   obtain rfl := Option.some.inj hg
   simp only at h1 h2 h3
   obtain ⟨f1, f2⟩ := gcX_spec h.n 8 [] v p hp
   unfold gcHeap at hq
   split at hq
   ·rename_i hkeep
    simp only [CH.keepOk, Bool.and_eq_true, List.all_eq_true, List.mem_range] at hkeep
    obtain ⟨hle, hkeep⟩ := hkeep
    have hle : h.n ≤ h'.n := Nat.le_of_ble_eq_true hle
    have hsm := hs.sm
    obtain ⟨g0, g1, g2, g3, g4⟩ := gcRun_spec _ 0 p.2 ⟨h'.t, h.n⟩ q hq rfl hsm
    have hall := f1.trans g0
    have hnd : q.2.Nodup := hall.2 List.nodup_nil
    have hge : ∀ x ∈ q.2, h.n ≤ x := by
     obtain ⟨⟨t, ht, hx⟩, _⟩ := hall
     simpa [ht] using hx
    have hold : ∀ i, i < h.n → q.1.get i = h'.get i := fun i hi => by
     rw [g3 i hi, CH.get_lt (h := ⟨h'.t, h.n⟩) hi, CH.get_lt (by omega)]
    have hxn : (x.2.toHeap rs).n = h.n + q.2.length := by show x.2.n = _; rw [← h2, g1]
    have hxg : ∀ i, (x.2.toHeap rs).get i = (q.1.get i).map (EB.to (rs i)) := fun i => by show (x.2.get i).map _ = _; rw [← h3 i]
    rw [← h1]
    refine DropTo.rename (gcP h.n q.2) (by rw [hxn, ← hs.n]; omega) (fun i hi => ?_) (fun i hi1 hi2 => ?_) (fun i j hi1 hi2 hj1 hj2 he => ?_) (by rw [hxn]; exact f2 q.2 g0.sub)
    ·rw [← hs.n] at hi
     refine ⟨by simp [gcP, hi], by rw [hxg, hold i hi, hs'.get, hr i hi], ?_⟩
     have := hkeep i hi
     rw [hs'.get, hs.get]
     split at this
     ·rename_i e1 e2; rw [e1, e2]; exact .inl rfl
     ·rename_i a b e1 e2
      rw [e1, e2]
      rw [Bool.or_eq_true] at this
      rcases this with hb | hb
      ·exact .inr ⟨_, rfl, (plainE_to hb).1⟩
      ·rw [EB.beq_eq hb, hr i hi]; exact .inl rfl
     ·cases this
    ·rw [← hs.n] at hi1
     rw [hxn] at hi2
     obtain ⟨b, b', e1, e2, e3⟩ := g4 (i - h.n) (by omega) (by omega)
     have hpi : gcP h.n q.2 i = q.2.getD (i - h.n) 0 := by simp [gcP, Nat.not_lt.2 hi1]
     have hin : q.2.getD (i - h.n) 0 ∈ q.2 := by
      have : i - h.n < q.2.length := by omega
      simp [List.getD_eq_getElem?_getD, this]
     rw [show h.n + (i - h.n) = i by omega] at e2
     rw [hpi]
     refine ⟨by rw [← hs.n]; exact hge _ hin, b'.to (rs i), b.to (rs' (q.2.getD (i - h.n) 0)), by rw [hxg, e2]; rfl, by rw [hs'.get, e1]; rfl, by rw [hxn]; exact e3 _ _⟩
    ·rw [← hs.n] at hi1 hj1
     rw [hxn] at hi2 hj2
     simp only [gcP, Nat.not_lt.2 hi1, Nat.not_lt.2 hj1, if_false] at he
     have h1' : i - h.n < q.2.length := by omega
     have h2' : j - h.n < q.2.length := by omega
     simp only [List.getD_eq_getElem?_getD, List.getElem?_eq_getElem h1', List.getElem?_eq_getElem h2', Option.getD_some] at he
     have := (List.getElem_inj (h₀ := h1') (h₁ := h2') hnd).1 he
     omega
   ·cases hq
theorem ecall_sound (hm : P.follows .mixedOrders = true) (hT : TabOk P T) (hSd : Sd P ev) (hG : Good R G) {ys : Ys} {f : FuncId} {args : List Value} {h : CH} {k : Value → CH → A} {rs : Recs} {σ : Heap} {K : Value → Heap → Prop}
  (hY : YOk P ys rs h.n) (hs : CSim rs h σ) (he : G (ecall T ev R ys f args h k)) (hk : Cont G rs h k K) : VCalled P f args σ K := by
 unfold ecall at he
 split at he
 ·rename_i vc rl nt hf
  have hF := hT.code f vc rl nt hf
  split at he
  ·rename_i hb
   exact hF.calls hm okSem (hSd R G hG ys vc none _ _ h _ rs σ _ hY hs (ET.of_rel (Nat.le_of_ble_eq_true hb)) he (eend_sound hG hk))
  ·exact (hG.fail he).elim
 ·rename_i vc rl nt hf
  have hF := hT.codeJ f vc rl nt hf
  split at he
  ·rename_i hb
   split at he
   ·rename_i x hx
    split at he
    ·rename_i hc
     have hroom : x.2.n ≤ 1000000000 := Nat.le_of_ble_eq_true hc.1
     have hK := hk x.1 x.2 rs _ (Nat.le_of_ble_eq_true hc.2) (fun _ _ => rfl) (toHeap_sim (by omega)) he
     refine hF.calls hm okSem (hSd joinOps (JGood x) (joinGood x) ys vc none _ _ h _ rs σ _ hY hs (ET.of_rel (Nat.le_of_ble_eq_true hb)) (show JGood x _ from ⟨x, hx, rfl, rfl, fun _ => rfl⟩) ?_)
     intro e et' h' rs' σ' env' hn hr hs' hE' _ hg
     have fin : JGood x (match eresults et' h' rl with | some v => gcDone h h' v | none => none) → obind (vresults env' σ' rl) fun v => ∃ v' σ'', DropTo σ v σ' v' σ'' ∧ K v' σ'' := by
      rintro ⟨y, hy, h1, h2, h3⟩
      split at hy
      ·rename_i v hv
       rw [eresults_sound hs' hE' hv]
       exact ⟨_, _, gcDone_sound hs hs' hr hy h1 h2 h3, hK⟩
      ·cases hy
     cases e with
     | normal => exact fin hg
     | ret => exact fin hg
     | _ => obtain ⟨y, hy, _⟩ := hg; cases hy
    ·exact (hG.fail he).elim
   ·exact (hG.fail he).elim
  ·exact (hG.fail he).elim
 ·rename_i hf
  split at he
  ·rename_i v
   exact hT.same f hf v σ K (hk v h rs σ (Nat.le_refl _) (fun _ _ => rfl) hs he)
  ·exact (hG.fail he).elim
 ·exact (hG.fail he).elim
theorem ecallTo_sound (hm : P.follows .mixedOrders = true) (hSd : Sd P ev) (hG : Good R G) {ys : Ys} {f : FuncId} {vc : VCode} {rl : List VResult} {nt : Nat} (hf : T f = some (.code vc rl nt)) (hF : Fun P f vc rl nt) {args : List Value} {h : CH} {k : Value → CH → A} {rs : Recs} {σ : Heap} {K : Value → Heap → Prop}
  (hY : YOk P ys rs h.n) (hs : CSim rs h σ) (he : G (ecall T ev R ys f args h k)) (hk : Cont G rs h k K) : VCallsTo P f args σ K := by
 unfold ecall at he
 rw [hf] at he
 simp only at he
 split at he
 ·rename_i hb
  exact hF.callsTo hm okSem (hSd R G hG ys vc none _ _ h _ rs σ _ hY hs (ET.of_rel (Nat.le_of_ble_eq_true hb)) he (eend_sound hG hk))
 ·exact (hG.fail he).elim
theorem eyield_sound (hSd : Sd P ev) (hG : Good R G) {ys : Ys} {i : Nat} {args : List Value} {h : CH} {k : Value → CH → A} {rs : Recs} {σ : Heap} {K : Value → Heap → Prop}
  (hY : YOk P ys rs h.n) (hs : CSim rs h σ) (he : G (eyield ev R ys i args h k)) (hk : Cont G rs h k K) : VYields P i args σ K := by
 unfold eyield at he
 split at he
 ·rename_i c hc
  obtain ⟨hin, henv, hok⟩ := hY i c hc
  split at he
  ·rename_i hg
   split at he
   ·rename_i hlen
    refine hok args σ K ⟨hs.lp hg, hlen, ?_⟩
    refine hSd R G hG ys c.a (some i) _ _ h _ rs σ _ hY hs (esetPs_rel c.ps args henv) he ?_
    intro e et1 h1 rs1 σ1 env1 hn1 hr1 hs1 hE1 _ hg1
    cases e with
    | normal =>
     simp only [eround] at hg1
     split at hg1
     ·rename_i hgi
      have e1 : rs1 i = rs i := hr1 i hin
      have hlp := hs1.lp hgi
      rw [e1] at hlp
      refine ⟨hlp, ?_⟩
      have hi1 := hs1.lt hgi
      refine hSd R G hG ys c.b (some i) et1 env1 _ _ rs1 _ _ (hY.mono (n' := (h1.upd i (.lp .busy none)).n) hn1 hr1) (hs1.upd hi1 (b := .lp .busy none) (by rw [EB.to, e1])) hE1 hg1 ?_
      intro e2 et2 h2 rs2 σ2 env2 hn2 hr2 hs2 hE2 _ hg2
      have hn2' : h1.n ≤ h2.n := hn2
      have e2' : rs2 i = rs i := (hr2 i hi1).trans e1
      unfold eroundK at hg2
      split at hg2
      ·rename_i hgi2
       have hi2 := hs2.lt hgi2
       have hlp2 := hs2.lp hgi2
       rw [e2'] at hlp2
       refine ⟨hlp2, ?_⟩
       have agree : ∀ j, j < h.n → rs2 j = rs j := fun j hj => (hr2 j (Nat.lt_of_lt_of_le hj hn1)).trans (hr1 j hj)
       cases e2 with
       | normal => exact hk _ (h2.upd i (.lp .ready none)) rs2 _ (Nat.le_trans hn1 hn2') agree (hs2.upd hi2 (b := .lp .ready none) (by simp only [EB.to, e2'])) hg2
       | ret => exact hk _ (h2.upd i (.lp .done (some .ret))) rs2 _ (Nat.le_trans hn1 hn2') agree (hs2.upd hi2 (b := .lp .done (some .ret)) (by simp only [EB.to, e2'])) hg2
       | exit id => exact hk _ (h2.upd i (.lp .done (some (.exit id)))) rs2 _ (Nat.le_trans hn1 hn2') agree (hs2.upd hi2 (b := .lp .done (some (.exit id))) (by simp only [EB.to, e2'])) hg2
       | _ => exact (hG.fail hg2).elim
      ·exact (hG.fail hg2).elim
     ·exact (hG.fail hg1).elim
    | _ => exact (hG.fail hg1).elim
   ·exact (hG.fail he).elim
  ·exact (hG.fail he).elim
 ·exact (hG.fail he).elim
theorem enextC_sound (hG : Good R G) {i m since clock : Nat} {seen : List Nat} {h : CH} {k : Value → CH → A} : ∀ (es : List MEnt),
  (∀ e ∈ es, seen.contains e.2.2 = true) ∧ enextC R i m since clock seen h k es = none ∨
  ∃ a, enextC R i m since clock seen h k es = some a ∧ (G a → ∀ e ∈ es, seen.contains e.2.2 = false → G (k (.tuple #[.bool true, e.1, e.2.1]) (h.upd i (.iter m since (seen ++ [e.2.2]) clock))))
 | [] => .inl ⟨fun _ h => (by cases h), rfl⟩
 | e :: es => by
  have ih := enextC_sound hG (i := i) (m := m) (since := since) (clock := clock) (seen := seen) (h := h) (k := k) es
  by_cases hc : seen.contains e.2.2 = true
  ·have he : enextC R i m since clock seen h k (e :: es) = enextC R i m since clock seen h k es := by rw [enextC, if_pos hc]
   rw [he]
   rcases ih with ⟨h1, h2⟩ | ⟨a, h1, h2⟩
   ·exact .inl ⟨fun x hx => by rcases List.mem_cons.1 hx with rfl | hx; exact hc; exact h1 x hx, h2⟩
   ·refine .inr ⟨a, h1, fun hga x hx hxs => ?_⟩
    rcases List.mem_cons.1 hx with rfl | hx
    ·rw [hc] at hxs; cases hxs
    ·exact h2 hga x hx hxs
  ·rcases ih with ⟨h1, h2⟩ | ⟨a, h1, h2⟩
   ·refine .inr ⟨k (.tuple #[.bool true, e.1, e.2.1]) (h.upd i (.iter m since (seen ++ [e.2.2]) clock)), by rw [enextC, if_neg hc, h2], fun hga x hx hxs => ?_⟩
    rcases List.mem_cons.1 hx with rfl | hx
    ·exact hga
    ·rw [h1 x hx] at hxs; cases hxs
   ·refine .inr ⟨R.both (k (.tuple #[.bool true, e.1, e.2.1]) (h.upd i (.iter m since (seen ++ [e.2.2]) clock))) a, by rw [enextC, if_neg hc, h1], fun hga x hx hxs => ?_⟩
    obtain ⟨g1, g2⟩ := hG.both _ _ hga
    rcases List.mem_cons.1 hx with rfl | hx
    ·exact g1
    ·exact h2 g2 x hx hxs
theorem enext_sound (hG : Good R G) {x : Value} {h : CH} {k : Value → CH → A} {rs : Recs} {σ : Heap} {K : Value → Heap → Prop} (hs : CSim rs h σ) (he : G (enext R x h k)) (hk : Cont G rs h k K) : vnext x σ K := by
 unfold enext at he
 unfold vnext
 split at he
 ·rename_i i
  split at he
  ·rename_i m since seen last hg
   have hi := hs.lt hg
   simp only [hs.iter hg]
   split at he
   ·rename_i es clock wr hma
    obtain ⟨k1, _⟩ := hs.mapAt hma
    simp only [k1]
    split at he
    ·rename_i hc
     refine ⟨hc.1, hc.2, ?_⟩
     rcases enextC_sound hG (i := i) (m := m) (since := since) (clock := clock) (seen := seen) (h := h) (k := k) es with ⟨h1, h2⟩ | ⟨a, h1, h2⟩
     ·rw [h2] at he
      simp only at he
      split at he
      ·exact ⟨fun _ => hk _ _ rs σ (Nat.le_refl _) (fun _ _ => rfl) hs he, fun e hee hes => by rw [h1 e hee] at hes; cases hes⟩
      ·exact (hG.fail he).elim
     ·rw [h1] at he
      simp only at he
      have key : G a → ∀ e ∈ es, seen.contains e.2.2 = false → K (.tuple #[.bool true, e.1, e.2.1]) (σ.upd i (.obj (.iter m since (seen ++ [e.2.2]) clock) true)) := fun hga e hee hes =>
       hk _ (h.upd i (.iter m since (seen ++ [e.2.2]) clock)) rs _ (Nat.le_refl _) (fun _ _ => rfl) (hs.upd hi rfl) (h2 hga e hee hes)
      split at he
      ·obtain ⟨g1, g2⟩ := hG.both _ _ he
       exact ⟨fun _ => hk _ _ rs σ (Nat.le_refl _) (fun _ _ => rfl) hs g1, key g2⟩
      ·rename_i hn
       exact ⟨fun hh => absurd hh hn, key he⟩
    ·exact (hG.fail he).elim
   ·exact (hG.fail he).elim
  ·exact (hG.fail he).elim
 ·exact (hG.fail he).elim
theorem evop_sound (hm : P.follows .mixedOrders = true) (hT : TabOk P T) (hSd : Sd P ev) (hG : Good R G) {ys : Ys} {o : VOp} {et : ET} {env : Env} (hE : FRel et env) {h : CH} {k : Value → CH → A} {rs : Recs} {σ : Heap} {K : Value → Heap → Prop}
  (hY : YOk P ys rs h.n) (hs : CSim rs h σ) (he : G (evop T ev R ys o et h k)) (hk : Cont G rs h k K) : vop (semSpecs P) o env σ K := by
 have hev := evalE_eq hE
 have other : ∀ o' : VOp, G (eother R (eactF o' (evalE et) h) k) → obind (vact o' (evalO env) σ) fun p => K p.1 p.2 := by
  intro o' hg
  rw [hev] at hg
  unfold eother at hg
  split at hg
  ·rename_i p hp
   obtain ⟨h1, σ', h2, h3⟩ := eactF_sound hs hp
   rw [h2]
   exact hk _ _ rs σ' h1 (fun _ _ => rfl) h3 hg
  ·exact (hG.fail hg).elim
 cases o
 case callF f args =>
  simp only [evop, hev] at he
  exact ecall_sound hm hT hSd hG hY hs he hk
 case callV f args =>
  simp only [evop, hev] at he
  simp only [vop]
  unfold ecallV at he
  split at he
  ·rename_i g first cap hg
   simp only [hg]
   exact ecall_sound hm hT hSd hG hY hs he hk
  ·rename_i i first cap hg
   simp only [hg]
   exact eyield_sound hSd hG hY hs he hk
  ·exact (hG.fail he).elim
 case ext x =>
  cases x
  case nextMap x =>
   simp only [evop, hev] at he
   exact enext_sound hG hs he hk
  case delete a b c => exact other (.ext (.delete a b c)) he
  all_goals exact other _ he
 case move a => exact other (.move a) he
 case makeFunc a b c => exact other (.makeFunc a b c) he
 case bad => exact other .bad he
 all_goals exact other _ he
theorem evops_sound (hm : P.follows .mixedOrders = true) (hT : TabOk P T) (hSd : Sd P ev) (hG : Good R G) {ys : Ys} {k : ET → CH → A} {K : Env → Heap → Prop} : ∀ (ops : List VOper) (et : ET) (env : Env) (h : CH) (rs : Recs) (σ : Heap),
  YOk P ys rs h.n → CSim rs h σ → FRel et env → G (evops T ev R ys ops et h k) → ContN G rs h (List.length env) k K → vops (semSpecs P) ops env σ K := by
 intro ops
 induction ops with
 | nil => intro et env h rs σ hY hs hE he hk; exact hk et h rs σ env (Nat.le_refl _) (fun _ _ => rfl) hs hE rfl he
 | cons o rest ih =>
  intro et env h rs σ hY hs hE he hk
  have he : G (match ewant et o.guard with
   | none => R.fail
   | some true => evop T ev R ys o.op et h fun v h' => evops T ev R ys rest (et.put o.dst v) h' k
   | some false => evops T ev R ys rest (et.put o.dst undef) h k) := he
  rw [ewant_eq hE] at he
  simp only [vops]
  split at he
  ·exact (hG.fail he).elim
  ·rename_i hw
   rw [hw]
   refine ⟨fun _ => ?_, fun hh => by cases hh⟩
   refine evop_sound hm hT hSd hG hE hY hs he ?_
   intro v h' rs' σ' hn hr hs' hg
   refine ih _ _ h' rs' σ' (hY.mono hn hr) hs' (hE.put _ _) hg ?_
   intro et2 h2 rs2 σ2 env2 hn2 hr2 hs2 hE2 hl hg2
   exact hk et2 h2 rs2 σ2 env2 (Nat.le_trans hn hn2) (fun i hi => (hr2 i (by omega)).trans (hr i hi)) hs2 hE2 (by rw [hl, putE_length]) hg2
  ·rename_i hw
   rw [hw]
   refine ⟨fun hh => (by cases hh), fun _ => ?_⟩
   refine ih _ _ h rs σ hY hs (hE.put _ _) he ?_
   intro et2 h2 rs2 σ2 env2 hn2 hr2 hs2 hE2 hl hg2
   exact hk et2 h2 rs2 σ2 env2 hn2 hr2 hs2 hE2 (by rw [hl, putE_length]) hg2
def CSims (rs : Recs) (n : Nat) : List CH → List Heap → Prop
 | [], [] => True
 | h :: hs, σ :: σs => (CSim rs h σ ∧ h.n ≤ n) ∧ CSims rs n hs σs
 | _, _ => False
theorem CSims.mono {rs rs' : Recs} {n n' : Nat} (hn : n ≤ n') (hr : ∀ i, i < n → rs' i = rs i) : ∀ {hs : List CH} {σs : List Heap}, CSims rs n hs σs → CSims rs' n' hs σs
 | [], [], _ => trivial
 | h :: hs, σ :: σs, ⟨⟨h1, h2⟩, h3⟩ => ⟨⟨h1.rs fun i hi => hr i (by omega), by omega⟩, CSims.mono hn hr h3⟩
 | [], _ :: _, h => h.elim
 | _ :: _, [], h => h.elim
theorem CSims.snoc {rs : Recs} {n : Nat} {h : CH} {σ : Heap} (hs : CSim rs h σ) (hn : h.n ≤ n) : ∀ {hl : List CH} {σl : List Heap}, CSims rs n hl σl → CSims rs n (hl ++ [h]) (σl ++ [σ])
 | [], [], _ => ⟨⟨hs, hn⟩, trivial⟩
 | _ :: _, _ :: _, ⟨h1, h2⟩ => ⟨h1, CSims.snoc hs hn h2⟩
 | [], _ :: _, h => h.elim
 | _ :: _, [], h => h.elim
theorem ereads_sound {rs : Recs} {h : CH} {σ : Heap} (hs : CSim rs h σ) {op : VOp} {ev : Operand → Value} {v : Value} (hr : ereads op ev v h = true) : vreads op ev v σ := by
 unfold ereads at hr
 split at hr
 ·rename_i q hq
  obtain ⟨_, σ', h2, _⟩ := eactF_sound hs hq
  unfold vreads
  rw [h2]
  exact vbeq_eq _ _ _ hr
 ·cases hr
def PSims : List (Nat × (CH → Bool)) → List (Nat × (Heap → Prop)) → Prop
 | [], [] => True
 | c :: l, d :: m => (c.1 = d.1 ∧ ∀ rs h σ, CSim rs h σ → c.2 h = true → d.2 σ) ∧ PSims l m
 | _, _ => False
theorem epend_sound {rs : Recs} {h : CH} {σ : Heap} (hs : CSim rs h σ) {r : Nat} : ∀ {l : List (Nat × (CH → Bool))} {m : List (Nat × (Heap → Prop))}, PSims l m → epend r h l = true → vpend r σ m
 | [], [], _, _ => trivial
 | c :: l, d :: m, ⟨⟨h1, h2⟩, h3⟩, he => by
  simp only [epend, Bool.and_eq_true, Bool.or_eq_true, Bool.not_eq_true'] at he
  refine ⟨fun hr => h2 rs h σ hs ?_, epend_sound hs h3 he.2⟩
  rcases he.1 with h | h
  ·rw [h1, Nat.ble_eq_true_of_le hr] at h; cases h
  ·exact h
 | [], _ :: _, h, _ => h.elim
 | _ :: _, [], h, _ => h.elim
theorem CSims.mem {rs : Recs} {n : Nat} : ∀ {hl : List CH} {σl : List Heap}, CSims rs n hl σl → ∀ (f : CH → Bool) (Q : Heap → Prop), (∀ rs h σ, CSim rs h σ → f h = true → Q σ) → ∀ j, (hl.drop j).all f = true → ∀ τ ∈ σl.drop j, Q τ
 | [], [], _, _, _, _, _, _, τ, hτ => by simp at hτ
 | h :: hl, σ :: σl, ⟨h1, h2⟩, f, Q, hQ, 0, ha, τ, hτ => by
  simp only [List.drop_zero, List.all_cons, Bool.and_eq_true, List.mem_cons] at ha hτ
  rcases hτ with rfl | hτ
  ·exact hQ rs h τ h1.1 ha.1
  ·exact CSims.mem h2 f Q hQ 0 (by simpa using ha.2) τ (by simpa using hτ)
 | h :: hl, σ :: σl, ⟨h1, h2⟩, f, Q, hQ, j + 1, ha, τ, hτ => CSims.mem h2 f Q hQ j (by simpa using ha) τ (by simpa using hτ)
 | [], _ :: _, h, _, _, _, _, _, _, _ => h.elim
 | _ :: _, [], h, _, _, _, _, _, _, _ => h.elim
theorem CSims.length {rs : Recs} {n : Nat} : ∀ {hl : List CH} {σl : List Heap}, CSims rs n hl σl → hl.length = σl.length
 | [], [], _ => rfl
 | _ :: _, _ :: _, ⟨_, h⟩ => by simp [CSims.length h]
 | [], _ :: _, h => h.elim
 | _ :: _, [], h => h.elim
theorem evopsD_sound (hm : P.follows .mixedOrders = true) (hT : TabOk P T) (hSd : Sd P ev) (hG : Good R G) {ys : Ys} {k : ET → CH → A} {K : Env → Heap → Prop} : ∀ (ops : List DOper) (et : ET) (env : Env) (hl : List CH) (h : CH) (pe : List (Nat × (CH → Bool))) (rs : Recs) (σl : List Heap) (σ : Heap) (pv : List (Nat × (Heap → Prop))),
  YOk P ys rs h.n → CSim rs h σ → FRel et env → CSims rs h.n hl σl → PSims pe pv → G (evopsD T ev R ys ops et hl h pe k) → ContN G rs h (List.length env) k K → vopsD (semSpecs P) ops env σl σ pv K := by
 intro ops
 induction ops with
 | nil => intro et env hl h pe rs σl σ pv hY hs hE hss hp he hk; exact hk et h rs σ env (Nat.le_refl _) (fun _ _ => rfl) hs hE rfl he
 | cons o rest ih =>
  intro et env hl h pe rs σl σ pv hY hs hE hss hps he hk
  have hev := evalE_eq hE
  simp only [evopsD, ewant_eq hE, hev] at he
  simp only [vopsD]
  have hlen := hss.length
  split at he
  ·exact (hG.fail he).elim
  ·rename_i hw
   rw [hw]
   refine ⟨fun _ => ?_, fun hh => by cases hh⟩
   split at he
   ·rename_i hk2
    rw [if_pos hk2]
    split at he
    ·rename_i p hp
     split at he
     ·rename_i hchk
      obtain ⟨hnew, hpe⟩ := hchk
      simp only [CH.newOk, Bool.and_eq_true, List.all_eq_true] at hnew
      obtain ⟨n1, n2, n3⟩ := hnew
      have n1 : h.n ≤ p.2.n := Nat.le_of_ble_eq_true n1
      have n2 : p.2.n ≤ 1000000000 := Nat.le_of_ble_eq_true n2
      have hsim : CSim rs p.2 (p.2.toHeap rs) := toHeap_sim (by omega)
      refine ⟨p.1, p.2.toHeap rs, ?_, ?_, ?_⟩
      ·refine evop_sound hm hT hSd (oneGood p) hE hY hs hp ?_
       intro v h' rs' σ' hn hr hs' hg
       have hg : (v, h') = p := Option.some.inj hg
       subst hg
       refine ⟨rfl, ?_⟩
       have : CSim rs h' σ' := by
        refine ⟨hs'.n, hs'.sm, fun i => ?_⟩
        rw [hs'.get]
        cases hgi : h'.get i with
        | none => rfl
        | some b =>
         rcases Nat.lt_or_ge i h.n with hi | hi
         ·rw [hr i hi]
         ·have hin := hs'.lt hgi
          have := n3 i (List.mem_range'_1.2 ⟨hi, by simp at n1 ⊢; omega⟩)
          simp only [hgi] at this
          cases b <;> first | rfl | cases this
       exact this.eq
      ·rw [← hlen]; exact epend_sound hsim hps hpe
      ·refine ih _ _ _ p.2 pe rs _ _ pv (hY.mono n1 (fun _ _ => rfl)) hsim (hE.put _ _) ((hss.mono n1 (fun _ _ => rfl)).snoc hsim (Nat.le_refl _)) hps he ?_
       intro et2 h2 rs2 σ2 env2 hn2 hr2 hs2 hE2 hl2 hg2
       exact hk et2 h2 rs2 σ2 env2 (Nat.le_trans n1 hn2) (fun i hi => hr2 i (by omega)) hs2 hE2 (by rw [hl2, putE_length]) hg2
     ·exact (hG.fail he).elim
    ·exact (hG.fail he).elim
   ·rename_i hk2
    rw [if_neg hk2]
    have done : ∀ (u : Value) (pe' : List (Nat × (CH → Bool))) (pv' : List (Nat × (Heap → Prop))), PSims pe' pv' → G (evopsD T ev R ys rest (et.put o.dst u) hl h pe' k) → vopsD (semSpecs P) rest (putE env o.dst u) σl σ pv' K := by
     intro u pe' pv' hp' hg
     refine ih _ _ hl h pe' rs σl σ pv' hY hs (hE.put _ _) hss hp' hg ?_
     intro et2 h2 rs2 σ2 env2 hn2 hr2 hs2 hE2 hl2 hg2
     exact hk et2 h2 rs2 σ2 env2 hn2 hr2 hs2 hE2 (by rw [hl2, putE_length]) hg2
    split at he
    ·rename_i hk1
     rw [if_pos hk1]
     split at he
     ·rename_i p hp
      split at he
      ·rename_i hall
       obtain ⟨_, σ', h2, _⟩ := eactF_sound hs hp
       rw [h2]
       refine ⟨hss.mem _ _ (fun rs h σ hc hf => ereads_sound hc hf) _ hall, ?_⟩
       refine done _ _ _ ?_ he
       rw [← hlen]
       split
       ·exact ⟨⟨rfl, fun rs h σ hc hf => ereads_sound hc hf⟩, hps⟩
       ·exact hps
      ·exact (hG.fail he).elim
     ·exact (hG.fail he).elim
    ·rename_i hk1
     rw [if_neg hk1]
     split at he
     ·rename_i p hp
      obtain ⟨_, σ', h2, _⟩ := eactF_sound hs hp
      rw [h2]
      exact done _ _ _ hps he
     ·exact (hG.fail he).elim
  ·rename_i hw
   rw [hw]
   refine ⟨fun hh => (by cases hh), fun _ => ?_⟩
   split at he
   ·rename_i hk2
    rw [if_pos hk2]
    split at he
    ·rename_i hpe
     refine ⟨by rw [← hlen]; exact epend_sound hs hps hpe, ?_⟩
     refine ih _ _ _ h pe rs _ σ pv hY hs (hE.put _ _) (hss.snoc hs (Nat.le_refl _)) hps he ?_
     intro et2 h2 rs2 σ2 env2 hn2 hr2 hs2 hE2 hl2 hg2
     exact hk et2 h2 rs2 σ2 env2 hn2 hr2 hs2 hE2 (by rw [hl2, putE_length]) hg2
    ·exact (hG.fail he).elim
   ·rename_i hk2
    rw [if_neg hk2]
    refine ih _ _ _ h pe rs _ σ pv hY hs (hE.put _ _) hss hps he ?_
    intro et2 h2 rs2 σ2 env2 hn2 hr2 hs2 hE2 hl2 hg2
    exact hk et2 h2 rs2 σ2 env2 hn2 hr2 hs2 hE2 (by rw [hl2, putE_length]) hg2
theorem ET.list_eq {e : ET} {env : Env} (h : FRel e env) : e.list = env := by
 apply List.ext_getElem?
 intro i
 unfold ET.list
 rw [List.getElem?_map]
 rcases Nat.lt_or_ge i e.m with hi | hi
 ·rw [List.getElem?_range hi]
  have := h.get i
  rw [h.m] at hi
  rw [List.getD_eq_getElem?_getD, List.getElem?_eq_getElem hi] at this
  rw [List.getElem?_eq_getElem hi, Option.map_some, ← this]; rfl
 ·rw [List.getElem?_eq_none (by simpa using hi), List.getElem?_eq_none (by rw [← h.m]; exact hi)]; rfl
theorem tuple_rel_inv {ρ : Plc} {n : Nat} {vs : Array Value} {cs : List Value} (h : VRel ρ n (.tuple vs) (.tuple cs.toArray)) : LRel ρ n vs.toList cs := by
 obtain ⟨ds, he, hl⟩ := h.tuple_inv
 have : cs.toArray = ds := by injection he
 subst this
 simpa using hl
theorem evalts_sound (hm : P.follows .mixedOrders = true) (hT : TabOk P T) (hSd : Sd P ev) {ys : Ys} {x : Value × CH} {vs : Array Value} (hxv : x.1 = .tuple vs) {K : Env → Heap → Prop} {et : ET} {env : Env} {h : CH} {rs : Recs} {σ : Heap} (hY : YOk P ys rs h.n) (hs : CSim rs h σ) (hE : FRel et env)
  (hk : K vs.toList (x.2.toHeap rs)) : ∀ (alts : List (List DOper)), JGood x (evalts T ev ys et h alts) → ∀ ops ∈ alts, vopsD (semSpecs P) ops env [σ] σ [] fun env1 σ1 => ∃ env2 σ2, DropE σ env1 σ1 env2 σ2 ∧ K env2 σ2 := by
 have one : ∀ a : List DOper, JGood x (evalt T ev ys et h a) → vopsD (semSpecs P) a env [σ] σ [] fun env1 σ1 => ∃ env2 σ2, DropE σ env1 σ1 env2 σ2 ∧ K env2 σ2 := by
  intro a ha
  refine evopsD_sound hm hT hSd (joinGood x) a et env [h] h [] rs [σ] σ [] hY hs hE ⟨⟨hs, Nat.le_refl _⟩, trivial⟩ trivial ha ?_
  intro et' h' rs' σ' env' hn hr hs' hE' hl hg
  obtain ⟨y, hy, h1, h2, h3⟩ := hg
  unfold gcEnv at hy
  have hd := gcDone_sound hs hs' hr hy h1 h2 h3
  rw [ET.list_eq hE', hxv] at hd
  refine ⟨vs.toList, x.2.toHeap rs, ?_, hk⟩
  intro ρ0 w0 ρ w cs hH0 hE0 hH hL
  obtain ⟨ρ', d1, d2, d3⟩ := hd ρ0 w0 ρ w (.tuple cs.toArray) hH0 hE0 hH (VRel.tuple_of hL)
  exact ⟨ρ', tuple_rel_inv d1, d2, d3⟩
 intro alts
 induction alts with
 | nil => rintro ⟨y, hy, _⟩; cases hy
 | cons a l ih =>
  intro he ops ho
  cases l with
  | nil =>
   obtain rfl := List.mem_singleton.1 ho
   exact one _ he
  | cons b r =>
   obtain ⟨g1, g2⟩ := (joinGood x).both _ _ he
   rcases List.mem_cons.1 ho with rfl | ho
   ·exact one _ g1
   ·exact ih g2 ops ho
theorem evsegs_sound (hm : P.follows .mixedOrders = true) (hT : TabOk P T) (hSd : Sd P ev) (hG : Good R G) {ys : Ys} {k : ET → CH → A} {K : Env → Heap → Prop} : ∀ (segs : List DSeg) (et : ET) (env : Env) (h : CH) (rs : Recs) (σ : Heap),
  YOk P ys rs h.n → CSim rs h σ → FRel et env → G (evsegs T ev R ys segs et h k) → ContN G rs h (List.length env) k K → vsegs (semSpecs P) segs env σ K := by
 intro segs
 induction segs with
 | nil => intro et env h rs σ hY hs hE he hk; exact hk et h rs σ env (Nat.le_refl _) (fun _ _ => rfl) hs hE rfl he
 | cons x rest ih =>
  intro et env h rs σ hY hs hE he hk
  have next : ContN G rs h (List.length env) (fun et h => evsegs T ev R ys rest et h k) (fun env σ => vsegs (semSpecs P) rest env σ K) := by
   intro et1 h1 rs1 σ1 env1 hn1 hr1 hs1 hE1 hl1 hg1
   refine ih et1 env1 h1 rs1 σ1 (hY.mono hn1 hr1) hs1 hE1 hg1 ?_
   intro et2 h2 rs2 σ2 env2 hn2 hr2 hs2 hE2 hl2 hg2
   exact hk et2 h2 rs2 σ2 env2 (Nat.le_trans hn1 hn2) (fun i hi => (hr2 i (by omega)).trans (hr1 i hi)) hs2 hE2 (hl2.trans hl1) hg2
  cases x with
  | one o => exact evops_sound hm hT hSd hG [o] et env h rs σ hY hs hE he next
  | alts l =>
   have many : G (match evalts T ev ys et h l with
     | some x => (match x.1 with
      | .tuple vs => if x.2.room = true ∧ Nat.ble h.n x.2.n = true ∧ vs.toList.length = et.m then evsegs T ev R ys rest (ET.of vs.toList 0) x.2 k else R.fail
      | _ => R.fail)
     | none => R.fail) → vsegs (semSpecs P) (.alts l :: rest) env σ K := by
    intro he
    split at he
    ·rename_i x hx
     split at he
     ·rename_i vs hxv
      split at he
      ·rename_i hc
       obtain ⟨c1, c2, c3⟩ := hc
       have hroom : x.2.n ≤ 1000000000 := Nat.le_of_ble_eq_true c1
       have hof : FRel (ET.of vs.toList 0) vs.toList := by
        have := ET.of_rel (args := vs.toList) (nt := 0) (by show vs.toList.length + (0 - vs.toList.length) ≤ _; have := hE.sm; omega)
        simpa using this
       exact evalts_sound hm hT hSd hxv hY hs hE (next _ x.2 rs _ _ (Nat.le_of_ble_eq_true c2) (fun _ _ => rfl) (toHeap_sim (by omega)) hof (by rw [c3, hE.m]) he) l ⟨x, hx, rfl, rfl, fun _ => rfl⟩
      ·exact (hG.fail he).elim
     ·exact (hG.fail he).elim
    ·exact (hG.fail he).elim
   match l, he with
   | [], he => exact many he
   | [a], he =>
    intro ops ho
    obtain rfl := List.mem_singleton.1 ho
    refine evopsD_sound hm hT hSd hG ops et env [h] h [] rs [σ] σ [] hY hs hE ⟨⟨hs, Nat.le_refl _⟩, trivial⟩ trivial he ?_
    intro et' h' rs' σ' env' hn hr hs' hE' hl hg
    exact ⟨env', σ', .refl _ _ _, next et' h' rs' σ' env' hn hr hs' hE' hl hg⟩
   | a :: b :: r, he => exact many he
def CodeSd (P : Program) (T : Tab) (ev : EvFn) (c : VCode) : Prop := ∀ {A : Type} (R : AnsOps A) (G : A → Prop), Good R G → ∀ (ys : Ys) (ro : Option Nat) (et : ET) (env : Env) (h : CH) (k : Exit → ET → CH → A) (rs : Recs) (σ : Heap) (Q : Exit → Env → Heap → Prop),
 YOk P ys rs h.n → CSim rs h σ → FRel et env → G (evCode T ev R ys c ro et h k) → ContE G rs h (List.length env) k Q → vwp (semSpecs P) c ro Q env σ
theorem erange_sound (hm : P.follows .mixedOrders = true) (hT : TabOk P T) (hSd : Sd P ev) (hG : Good R G) {ys : Ys} {g : Operand} {ps : List Nat} {a b : VCode} {ro : Option Nat} {et : ET} {env : Env} {h : CH} {k : Exit → ET → CH → A} {rs : Recs} {σ : Heap} {Q : Exit → Env → Heap → Prop}
  (hY : YOk P ys rs h.n) (hs : CSim rs h σ) (hE : FRel et env) (he : G (erange T ev R ys (evalE et g) ps a b ro et h k)) (hk : ContE G rs h (List.length env) k Q) : vwp (semSpecs P) (.rangeF g ps a b) ro Q env σ := by
 rw [evalE_eq hE] at he
 unfold erange at he
 simp only [vwp, vrange]
 split at he
 ·rename_i f first cap hg
  simp only [hg]
  split at he
  ·rename_i vc rl nt hf
   have hF := hT.code f vc rl nt hf
   split at he
   ·rename_i hchk
    obtain ⟨hin, hroom⟩ := hchk
    have hit : (semSpecs P).it f = some fun i Y args σ K => OkYield P i Y → VCallsTo P f args σ K := by
     simp only [semSpecs]; rw [if_pos hF.enterable]
    rw [hit]
    refine ⟨?_, fun r hYi => ?_⟩
    ·cases ro with
     | none => trivial
     | some i =>
      simp only [inLpOk] at hin
      split at hin
      ·rename_i st pend hgi; exact ⟨_, _, _, _, hs.lp hgi⟩
      ·cases hin
    ·let rs1 : Recs := fun i => if i = h.n then (env, r) else rs i
     have hag : ∀ i, i < h.n → rs1 i = rs i := fun i hi => by simp only [rs1]; rw [if_neg (by omega)]
     have hs1 : CSim rs1 (h.push (.lp .ready none)) (σ.push (.obj (.lp env r .ready none) true)) :=
      (hs.rs hag).push hroom (by simp [EB.to, rs1])
     have hY1 : YOk P ((h.n, ⟨ps, a, b, et⟩) :: ys) rs1 (h.push (.lp .ready none)).n := by
      intro i c hc
      simp only [Ys.find] at hc
      split at hc
      ·rename_i hbi
       have hbi := Nat.eq_of_beq_eq_true hbi
       subst hbi
       obtain rfl := Option.some.inj hc
       refine ⟨Nat.lt_succ_self _, by simp only [rs1, if_true]; exact hE, ?_⟩
       rw [hs.n] at *
       simpa [rs1, hs.n] using hYi
      ·obtain ⟨h1, h2, h3⟩ := hY i c hc
       rw [hag i h1]
       exact ⟨Nat.lt_succ_of_lt h1, h2, h3⟩
     rw [← hs.n]
     refine ecallTo_sound hm hSd hG hf hF hY1 hs1 he ?_
     intro v h' rs' σ' hn hr hs' hg'
     have hn' : h.n + 1 ≤ h'.n := hn
     unfold eendR at hg'
     unfold endR
     split at hg'
     ·rename_i st pend hgi
      have hi := hs'.lt hgi
      simp only [hs'.lp hgi]
      split at hg'
      ·rename_i hnb
       refine ⟨(by rintro rfl; cases hnb), ?_⟩
       have agree : ∀ j, j < h.n → rs' j = rs j := fun j hj => (hr j (Nat.lt_succ_of_lt hj)).trans (hag j hj)
       have hkl := hs'.kill hi
       split at hg'
       ·exact hk _ _ _ rs' _ _ (by show h.n ≤ h'.n; omega) agree hkl hE rfl hg'
       ·exact hk _ _ _ rs' _ _ (by show h.n ≤ h'.n; omega) agree hkl hE rfl hg'
       ·exact hk _ _ _ rs' _ _ (by show h.n ≤ h'.n; omega) agree hkl hE rfl hg'
       ·exact (hG.fail hg').elim
      ·exact (hG.fail hg').elim
     ·exact (hG.fail hg').elim
   ·exact (hG.fail he).elim
  ·exact (hG.fail he).elim
 ·exact (hG.fail he).elim
theorem evCode_sound (hm : P.follows .mixedOrders = true) (hT : TabOk P T) (hSd : Sd P ev)
  (hloop : ∀ b, CodeSd P T ev b → CodeSd P T ev (.loop b)) : ∀ (c : VCode), CodeSd P T ev c := by
 intro c
 induction c with
 | skip => intro A R G hG ys ro et env h k rs σ Q hY hs hE he hk; exact hk _ _ _ rs σ _ (Nat.le_refl _) (fun _ _ => rfl) hs hE rfl he
 | region ops =>
  intro A R G hG ys ro et env h k rs σ Q hY hs hE he hk
  exact evops_sound hm hT hSd hG ops et env h rs σ hY hs hE he fun et' h' rs' σ' env' h1 h2 h3 h4 h5 h6 => hk _ _ _ _ _ _ h1 h2 h3 h4 h5 h6
 | regionD segs =>
  intro A R G hG ys ro et env h k rs σ Q hY hs hE he hk
  exact evsegs_sound hm hT hSd hG segs et env h rs σ hY hs hE he fun et' h' rs' σ' env' h1 h2 h3 h4 h5 h6 => hk _ _ _ _ _ _ h1 h2 h3 h4 h5 h6
 | rangeF g ps a b iha ihb =>
  intro A R G hG ys ro et env h k rs σ Q hY hs hE he hk
  exact erange_sound hm hT hSd hG hY hs hE he hk
 | seq a b iha ihb =>
  intro A R G hG ys ro et env h k rs σ Q hY hs hE he hk
  simp only [vwp]
  refine iha R G hG ys ro et env h _ rs σ _ hY hs hE he ?_
  intro e et' h' rs' σ' env' hn hr hs' hE' hl hg
  cases e with
  | normal =>
   refine ihb R G hG ys ro et' env' h' k rs' σ' Q (hY.mono hn hr) hs' hE' hg ?_
   intro e2 et2 h2 rs2 σ2 env2 hn2 hr2 hs2 hE2 hl2 hg2
   exact hk e2 et2 h2 rs2 σ2 env2 (Nat.le_trans hn hn2) (fun i hi => (hr2 i (by omega)).trans (hr i hi)) hs2 hE2 (hl2.trans hl) hg2
  | _ => exact hk _ et' h' rs' σ' env' hn hr hs' hE' hl hg
 | cond c a b iha ihb =>
  intro A R G hG ys ro et env h k rs σ Q hY hs hE he hk
  have he : G (econd R (evalE et c) (evCode T ev R ys a ro et h k) (evCode T ev R ys b ro et h k)) := he
  rw [evalE_eq hE] at he
  unfold econd at he
  simp only [vwp]
  split at he
  ·rename_i hc
   rw [hc]
   exact ⟨fun _ => iha R G hG ys ro et env h k rs σ Q hY hs hE he hk, fun hh => by cases hh⟩
  ·rename_i hc
   rw [hc]
   exact ⟨fun hh => (by cases hh), fun _ => ihb R G hG ys ro et env h k rs σ Q hY hs hE he hk⟩
  ·exact (hG.fail he).elim
 | block id b ih =>
  intro A R G hG ys ro et env h k rs σ Q hY hs hE he hk
  simp only [vwp]
  refine ih R G hG ys ro et env h _ rs σ _ hY hs hE he ?_
  intro e et' h' rs' σ' env' hn hr hs' hE' hl hg
  cases e with
  | exit id' =>
   simp only [eblockK] at hg
   simp only [blockK]
   split at hg
   ·rename_i hid; rw [if_pos hid]; exact hk _ et' h' rs' σ' env' hn hr hs' hE' hl hg
   ·rename_i hid; rw [if_neg hid]; exact hk _ et' h' rs' σ' env' hn hr hs' hE' hl hg
  | _ => exact hk _ et' h' rs' σ' env' hn hr hs' hE' hl hg
 | loop b ih =>
  intro A R G hG ys ro et env h k rs σ Q hY hs hE he hk
  exact hloop b ih R G hG ys ro et env h k rs σ Q hY hs hE he hk
 | exit id => intro A R G hG ys ro et env h k rs σ Q hY hs hE he hk; exact hk _ _ _ rs σ _ (Nat.le_refl _) (fun _ _ => rfl) hs hE rfl he
 | ret => intro A R G hG ys ro et env h k rs σ Q hY hs hE he hk; exact hk _ _ _ rs σ _ (Nat.le_refl _) (fun _ _ => rfl) hs hE rfl he
 | bad => intro A R G hG ys ro et env h k rs σ Q hY hs hE he hk; exact (hG.fail he).elim
theorem flat_cases {v : Value} (h : flatV v = true) : plainV v = true ∨ ∃ vs, v = .tuple vs ∧ vs.toList.all plainV = true := by
 unfold flatV at h
 split at h <;> first | exact .inl rfl | exact .inr ⟨_, rfl, h⟩ | cases h
theorem flat_eq2 {ρ : Plc} {n : Nat} {v c : Value} (h : flatV v = true) (hv : VRel ρ n v c) : c = v := by
 rcases flat_cases h with hp | ⟨vs, rfl, hall⟩
 ·exact flat_eq' hp hv
 ·obtain ⟨ds, rfl, hl⟩ := hv.tuple_inv
  have hall : ∀ x ∈ vs.toList, plainV x = true := List.all_eq_true.1 hall
  have : ds.toList = vs.toList := by
   apply List.ext_getElem?
   intro i
   rcases Nat.lt_or_ge i vs.toList.length with hi | hi
   ·have hi' : i < ds.toList.length := by rw [← hl.1]; exact hi
    rw [List.getElem?_eq_getElem hi, List.getElem?_eq_getElem hi']
    rw [flat_eq' (hall _ (List.getElem_mem hi)) (hl.2 i _ _ (List.getElem?_eq_getElem hi) (List.getElem?_eq_getElem hi'))]
   ·rw [List.getElem?_eq_none hi, List.getElem?_eq_none (by rw [← hl.1]; exact hi)]
  rw [arr_eq this]
theorem flat_rel2 {ρ : Plc} {n : Nat} {v : Value} (h : flatV v = true) : VRel ρ n v v := by
 rcases flat_cases h with hp | ⟨vs, rfl, hall⟩
 ·exact plain_rel hp
 ·exact .tuple _ _ rfl fun i h1 _ => plain_rel (List.all_eq_true.1 hall _ (by simp))
theorem pick_range (m : Nat) (env : Env) (h : List.length env = m) : pickE (List.range m) env = env := by
 apply List.ext_getElem?
 intro i
 simp only [pickE, List.getElem?_map]
 rcases Nat.lt_or_ge i m with hi | hi
 ·rw [List.getElem?_range hi]
  simp [List.getD_eq_getElem?_getD, h, hi]
 ·rw [List.getElem?_eq_none (by simpa using hi), List.getElem?_eq_none (by omega)]; rfl
theorem spread_get : ∀ (l : List Nat) (vs base : List Value) (i : Nat), l.Nodup → vs.length = l.length → (∀ x ∈ l, x < base.length) → (spreadE l vs base)[i]? = if i ∈ l then vs[l.idxOf i]? else base[i]?
 | [], [], base, i, _, _, _ => by simp [spreadE]
 | [], _ :: _, _, _, _, h, _ => by simp at h
 | _ :: _, [], _, _, _, h, _ => by simp at h
 | x :: l, v :: vs, base, i, hn, h, hb => by
  obtain ⟨h1, h2⟩ := List.nodup_cons.1 hn
  simp only [spreadE]
  rw [spread_get l vs _ i h2 (by simpa using h) (fun y hy => by rw [List.length_set]; exact hb y (by simp [hy]))]
  by_cases hix : i = x
  ·subst hix
   rw [if_neg h1, if_pos (by simp), List.getElem?_set_self (hb i (by simp))]
   simp
  ·by_cases hil : i ∈ l
   ·have e : (x :: l).idxOf i = l.idxOf i + 1 := by rw [List.idxOf_cons, show (x == i) = false from by simpa using Ne.symm hix]; rfl
    rw [if_pos hil, if_pos (by simp [hil]), e]; rfl
   ·rw [if_neg hil, if_neg (by simp [hix, hil]), List.getElem?_set_ne (Ne.symm hix)]
theorem spread_range (m : Nat) (vs : List Value) (h : vs.length = m) : spreadE (List.range m) vs (List.replicate m poison) = vs := by
 apply List.ext_getElem?
 intro i
 rw [spread_get _ _ _ _ List.nodup_range (by simpa using h) (fun x hx => by simpa using hx)]
 split
 ·rename_i hi
  have hi := List.mem_range.1 hi
  have : (List.range m).idxOf i = i := by
   have h1 : (List.range m).idxOf i < (List.range m).length := List.idxOf_lt_length_of_mem (List.mem_range.2 hi)
   have h2 := List.getElem_idxOf h1
   rw [List.getElem_range] at h2
   exact h2
  rw [this]
 ·rename_i hi
  have hi : m ≤ i := by simpa using hi
  rw [List.getElem?_eq_none (by simpa using hi), List.getElem?_eq_none (by omega)]
theorem code_sound (hm : P.follows .mixedOrders = true) (hT : TabOk P T) : ∀ (n : Nat) (c : VCode), CodeSd P T (veval T n) c := by
 intro n
 induction n using Nat.strongRecOn with
 | ind n ihn =>
  have hSd : Sd P (veval T n) := by
   cases n with
   | zero => intro A R G hG ys c ro et env h k rs σ Q hY hs hE he hk; exact (hG.fail he).elim
   | succ n => intro A R G hG ys c ro et env h k rs σ Q hY hs hE he hk; exact ihn n (Nat.lt_succ_self _) c R G hG ys ro et env h k rs σ Q hY hs hE he hk
  refine evCode_sound hm hT hSd fun b ihb => ?_
  intro A R G hG ys ro et env h k rs σ Q hY hs hE he hk
  have hbody : ∀ j, j ≤ n → CodeSd P T (veval T j) b := fun j hj => by
   rcases Nat.lt_or_ge j n with h' | h'
   ·exact ihn j h' b
   ·obtain rfl : j = n := by omega
    exact ihb
  simp only [vwp]
  refine ⟨List.range (List.length env), fun j vs σ1 => j ≤ n ∧ ∃ et1 h1 rs1, h.n ≤ h1.n ∧ (∀ i, i < h.n → rs1 i = rs i) ∧ CSim rs1 h1 σ1 ∧ FRel et1 vs ∧ List.length vs = List.length env ∧ G (evCode T (veval T j) R ys (.loop b) ro et1 h1 k), n, ?_, ?_⟩
  ·rw [pick_range _ _ rfl]
   exact ⟨Nat.le_refl _, et, h, rs, Nat.le_refl _, fun _ _ => rfl, hs, hE, rfl, he⟩
  ·rintro j vs σ1 ⟨hj, et1, h1, rs1, g1, g2, g3, gE, g4, g5⟩
   rw [spread_range _ _ g4]
   refine hbody j hj R G hG ys ro et1 vs h1 _ rs1 σ1 _ (hY.mono g1 g2) g3 gE g5 ?_
   intro e et' h' rs' σ' env' hn hr hs' hE' hl hg
   cases e with
   | normal =>
    cases j with
    | zero => exact (hG.fail hg).elim
    | succ j =>
     refine ⟨j, Nat.lt_succ_self _, by omega, et', h', rs', Nat.le_trans g1 hn, fun i hi => (hr i (by omega)).trans (g2 i hi), hs', ?_, ?_, ?_⟩
     ·rw [pick_range _ _ (hl.trans g4)]; exact hE'
     ·rw [pick_range _ _ (hl.trans g4)]; exact hl.trans g4
     ·exact hg
   | _ => exact hk _ et' h' rs' σ' env' (Nat.le_trans g1 hn) (fun i hi => (hr i (by omega)).trans (g2 i hi)) hs' hE' (hl.trans g4) hg
theorem veval_sound (hm : P.follows .mixedOrders = true) (hT : TabOk P T) (n : Nat) : Sd P (veval T n) := by
 cases n with
 | zero => intro A R G hG ys c ro et env h k rs σ Q hY hs hE he hk; exact (hG.fail he).elim
 | succ n => intro A R G hG ys c ro et env h k rs σ Q hY hs hE he hk; exact code_sound hm hT n c R G hG ys ro et env h k rs σ Q hY hs hE he hk
theorem HRel.forget {ρ : Plc} {σ : Heap} {w : World} (_ : HRel ρ σ w) : HRel (fun _ => none) Heap.empty w :=
 ⟨fun i b h => (by cases h), fun _ _ => rfl, fun i p h => (by cases h), fun i j p q b _ h => (by cases h)⟩
theorem called_empty {f : FuncId} {args : List Value} (ha : args.all plainV = true) {v : Value} (hv : flatV v = true) (he : Enterable P f) (h0 : VCallsTo P f args Heap.empty (fun u _ => u = v)) {σ : Heap} {K : Value → Heap → Prop} (hK : K v σ) : VCalled P f args σ K := by
 refine VCallsTo.called he ?_
 intro ρ w cargs hH hL
 refine (h0 (fun _ => none) w cargs hH.forget ?_).mono ?_
 ·refine ⟨hL.1, fun i a c ha' hc => ?_⟩
  have hp := List.all_eq_true.1 ha a (List.mem_of_getElem? ha')
  have := flat_eq' hp (hL.2 i a c ha' hc)
  subst this
  exact plain_rel hp
 ·rintro e w' ⟨c, rfl, u, ρ', σ', rfl, hvc, hH', hE⟩
  refine ⟨c, rfl, u, ρ, σ, hK, ?_, ?_, ?_⟩
  ·have : c = u := flat_eq2 hv hvc
   subst this
   exact flat_rel2 hv
  ·exact hH.world hE.size fun i p hp => hE.keep _ (hH.lt i p hp) (fun ⟨_, _, _, h, _⟩ => by cases h)
  ·exact ⟨hE.os, hE.tape, hE.output, hE.size, fun B hB _ => hE.keep B hB (fun ⟨_, _, _, h, _⟩ => by cases h), fun _ _ h => h, Nat.le_refl _, fun _ _ _ h => h⟩
theorem run_call (hm : P.follows .mixedOrders = true) (hT : TabOk P T) (n : Nat) {f : FuncId} {vc : VCode} {rl : List VResult} {nt : Nat} (hF : Fun P f vc rl nt) (args : List Value) (ha : args.all plainV = true) (v : Value) (hv : flatV v = true) (p : Value → Bool) (hp : ∀ u, p u = true → u = v)
  (hnt : Nat.ble (ET.of args nt).m 1000000 = true) (he : veval T n boolOps [] vc none (ET.of args nt) CH.empty (eend false rl fun v _ => p v) = true) {σ : Heap} {K : Value → Heap → Prop} (hK : K v σ) : VCalled P f args σ K := by
 refine called_empty ha hv hF.enterable ?_ hK
 refine hF.callsTo hm okSem ?_
 exact veval_sound hm hT n boolOps (· = true) boolGood [] vc none _ _ CH.empty _ (fun _ => ([], default)) Heap.empty _ (fun i c h => by cases h) ⟨rfl, by decide, fun i => rfl⟩ (ET.of_rel (Nat.le_of_ble_eq_true hnt)) he
  (eend_sound (R := boolOps) boolGood fun v' h' rs' σ' _ _ _ hg => hp v' hg)
end
end Go.V
namespace Go.V
open Go
def EntOk (P : Program) (f : FuncId) : Option FEnt → Prop
 | none => True
 | some (.code vc rs nt) => Fun P f vc rs nt
 | some (.codeJ vc rs nt) => Fun P f vc rs nt
 | some .same => ∀ (v : Value) (σ : Heap) (K : Value → Heap → Prop), K v σ → VCalled P f [v] σ K
def EntsOk (P : Program) : Nat → List (Option FEnt) → Prop
 | _, [] => True
 | i, e :: l => EntOk P i e ∧ EntsOk P (i + 1) l
theorem EntsOk.get {P : Program} : ∀ {l : List (Option FEnt)} {i j : Nat} {e : FEnt}, EntsOk P i l → l[j]? = some (some e) → EntOk P (i + j) (some e)
 | [], _, _, _, _, h => by simp at h
 | x :: l, i, 0, e, h, hj => by simp at hj; subst hj; exact h.1
 | x :: l, i, j + 1, e, h, hj => by
  have := EntsOk.get (l := l) (i := i + 1) (j := j) h.2 (by simpa using hj)
  rw [Nat.add_assoc, Nat.add_comm 1 j] at this
  exact this
theorem tabOk_of {P : Program} {l : List (Option FEnt)} (h : EntsOk P 0 l) : TabOk P (fun f => (l[f]?).join) := by
 have key : ∀ f e, (l[f]?).join = some e → EntOk P f (some e) := fun f e he => by
  have := EntsOk.get (j := f) (e := e) h (by
   cases hl : l[f]? with
   | none => rw [hl] at he; cases he
   | some x => rw [hl] at he; simp at he; rw [he])
  simpa using this
 exact ⟨fun f vc rs nt he => key f _ he, fun f vc rs nt he => key f _ he, fun f he => key f _ he⟩
theorem ext_same {P : Program} {f : FuncId} {fn : Func} {e : Array Value → Sem Value} (hf : P.funcs[f]? = some fn) (h1 : (fn.name == "runtime.NumGoroutine") = false) (h2 : fn.body.isNone = true) (h3 : Extern.findNext fn = none) (h4 : Extern.find fn = some e) (h5 : ∀ (c : Value) w, (e #[c]).run P w = .ok c w)
  (v : Value) (σ : Heap) (K : Value → Heap → Prop) (hK : K v σ) : VCalled P f [v] σ K := by
 intro ρ w cargs hH hL
 obtain ⟨c, hc⟩ : ∃ c, cargs = #[c] := by
  have hl := hL.1
  match cargs, hl with
  | ⟨[c]⟩, _ => exact ⟨c, rfl⟩
 subst hc
 refine .inr ⟨c, ⟨v, ρ, σ, hK, hL.2 0 v c rfl rfl, hH, Ext.refl _ _ _⟩, fun w' _ => ?_⟩
 have h2' : fn.body = none := by simpa using h2
 have h1' : ¬ fn.name = "runtime.NumGoroutine" := by simpa using h1
 simp [callFunc, hf, h1', h2', h3, h4, h5]
def isTrue : Value → Bool
 | .bool true => true
 | _ => false
theorem isTrue_eq {v : Value} (h : isTrue v = true) : v = .bool true := by
 unfold isTrue at h
 split at h
 ·rfl
 ·cases h
theorem run_true {P : Program} (hm : P.follows .mixedOrders = true) {T : Tab} (hT : TabOk P T) (n : Nat) {f : FuncId} {vc : VCode} {rl : List VResult} {nt : Nat} (hF : Fun P f vc rl nt) (hnt : Nat.ble (ET.of [] nt).m 1000000 = true)
  (he : veval T n boolOps [] vc none (ET.of [] nt) CH.empty (eend false rl fun v _ => isTrue v) = true) {σ : Heap} {K : Value → Heap → Prop} (hK : K (.bool true) σ) : VCalled P f [] σ K :=
 run_call hm hT n hF [] rfl (.bool true) rfl isTrue (fun _ h => isTrue_eq h) hnt he hK
end Go.V
namespace Go.Proofs.Tryz
open Go Go.V Go.Proofs
theorem mixed : Tryz.prog.follows .mixedOrders = true := by kernel_rfl
noncomputable def cof (fn : Func) : VCode := match fn.body.bind (comp Tryz.prog) with | some c => c | none => .bad
theorem cof_ok {fn : Func} (h : (fn.body.bind (comp Tryz.prog)).isSome = true) : fn.body.bind (comp Tryz.prog) = some (cof fn) := by
 unfold cof
 cases h2 : fn.body.bind (comp Tryz.prog) with
 | none => rw [h2] at h; cases h
 | some c => rfl
noncomputable def c2 : VCode := cof Tryz.f2
theorem fun2 : Fun Tryz.prog 2 c2 [] 1 := ⟨Tryz.f2, Tryz.func2, cof_ok (by kernel_rfl), by kernel_rfl, rfl, rfl⟩
noncomputable def c3 : VCode := cof Tryz.f3
theorem fun3 : Fun Tryz.prog 3 c3 [.tmp 6] 126 := ⟨Tryz.f3, Tryz.func3, cof_ok (by kernel_rfl), by kernel_rfl, rfl, rfl⟩
noncomputable def c4 : VCode := cof Tryz.f4
theorem fun4 : Fun Tryz.prog 4 c4 [.tmp 6] 190 := ⟨Tryz.f4, Tryz.func4, cof_ok (by kernel_rfl), by kernel_rfl, rfl, rfl⟩
noncomputable def c5 : VCode := cof Tryz.f5
theorem fun5 : Fun Tryz.prog 5 c5 [.tmp 6] 186 := ⟨Tryz.f5, Tryz.func5, cof_ok (by kernel_rfl), by kernel_rfl, rfl, rfl⟩
noncomputable def c6 : VCode := cof Tryz.f6
theorem fun6 : Fun Tryz.prog 6 c6 [.tmp 6] 22 := ⟨Tryz.f6, Tryz.func6, cof_ok (by kernel_rfl), by kernel_rfl, rfl, rfl⟩
noncomputable def c7 : VCode := cof Tryz.f7
theorem fun7 : Fun Tryz.prog 7 c7 [.tmp 0] 240 := ⟨Tryz.f7, Tryz.func7, cof_ok (by kernel_rfl), by kernel_rfl, rfl, rfl⟩
noncomputable def c8 : VCode := cof Tryz.f8
theorem fun8 : Fun Tryz.prog 8 c8 [.cell 2 true 2] 9 := ⟨Tryz.f8, Tryz.func8, cof_ok (by kernel_rfl), by kernel_rfl, rfl, rfl⟩
noncomputable def c9 : VCode := cof Tryz.f9
theorem fun9 : Fun Tryz.prog 9 c9 [.tmp 2] 6 := ⟨Tryz.f9, Tryz.func9, cof_ok (by kernel_rfl), by kernel_rfl, rfl, rfl⟩
noncomputable def c10 : VCode := cof Tryz.f10
theorem fun10 : Fun Tryz.prog 10 c10 [.cell 2 true 2] 9 := ⟨Tryz.f10, Tryz.func10, cof_ok (by kernel_rfl), by kernel_rfl, rfl, rfl⟩
noncomputable def c11 : VCode := cof Tryz.f11
theorem fun11 : Fun Tryz.prog 11 c11 [.tmp 4] 26 := ⟨Tryz.f11, Tryz.func11, cof_ok (by kernel_rfl), by kernel_rfl, rfl, rfl⟩
noncomputable def c12 : VCode := cof Tryz.f12
theorem fun12 : Fun Tryz.prog 12 c12 [.tmp 6, .tmp 7] 61 := ⟨Tryz.f12, Tryz.func12, cof_ok (by kernel_rfl), by kernel_rfl, rfl, rfl⟩
noncomputable def c13 : VCode := cof Tryz.f13
theorem fun13 : Fun Tryz.prog 13 c13 [.tmp 4, .tmp 5] 31 := ⟨Tryz.f13, Tryz.func13, cof_ok (by kernel_rfl), by kernel_rfl, rfl, rfl⟩
noncomputable def c14 : VCode := cof Tryz.f14
theorem fun14 : Fun Tryz.prog 14 c14 [.tmp 4] 38 := ⟨Tryz.f14, Tryz.func14, cof_ok (by kernel_rfl), by kernel_rfl, rfl, rfl⟩
noncomputable def c15 : VCode := cof Tryz.f15
theorem fun15 : Fun Tryz.prog 15 c15 [.tmp 4] 26 := ⟨Tryz.f15, Tryz.func15, cof_ok (by kernel_rfl), by kernel_rfl, rfl, rfl⟩
noncomputable def c16 : VCode := cof Tryz.f16
theorem fun16 : Fun Tryz.prog 16 c16 [.tmp 4] 28 := ⟨Tryz.f16, Tryz.func16, cof_ok (by kernel_rfl), by kernel_rfl, rfl, rfl⟩
noncomputable def c17 : VCode := cof Tryz.f17
theorem fun17 : Fun Tryz.prog 17 c17 [.tmp 4] 34 := ⟨Tryz.f17, Tryz.func17, cof_ok (by kernel_rfl), by kernel_rfl, rfl, rfl⟩
noncomputable def c18 : VCode := cof Tryz.f18
theorem fun18 : Fun Tryz.prog 18 c18 [.tmp 4] 23 := ⟨Tryz.f18, Tryz.func18, cof_ok (by kernel_rfl), by kernel_rfl, rfl, rfl⟩
noncomputable def c19 : VCode := cof Tryz.f19
theorem fun19 : Fun Tryz.prog 19 c19 [.tmp 4] 22 := ⟨Tryz.f19, Tryz.func19, cof_ok (by kernel_rfl), by kernel_rfl, rfl, rfl⟩
noncomputable def c20 : VCode := cof Tryz.f20
theorem fun20 : Fun Tryz.prog 20 c20 [.tmp 4] 26 := ⟨Tryz.f20, Tryz.func20, cof_ok (by kernel_rfl), by kernel_rfl, rfl, rfl⟩
noncomputable def c21 : VCode := cof Tryz.f21
theorem fun21 : Fun Tryz.prog 21 c21 [.tmp 6] 58 := ⟨Tryz.f21, Tryz.func21, cof_ok (by kernel_rfl), by kernel_rfl, rfl, rfl⟩
noncomputable def c22 : VCode := cof Tryz.f22
theorem fun22 : Fun Tryz.prog 22 c22 [.tmp 2] 6 := ⟨Tryz.f22, Tryz.func22, cof_ok (by kernel_rfl), by kernel_rfl, rfl, rfl⟩
noncomputable def c23 : VCode := cof Tryz.f23
theorem fun23 : Fun Tryz.prog 23 c23 [.tmp 6, .tmp 7, .tmp 8] 97 := ⟨Tryz.f23, Tryz.func23, cof_ok (by kernel_rfl), by kernel_rfl, rfl, rfl⟩
noncomputable def c24 : VCode := cof Tryz.f24
theorem fun24 : Fun Tryz.prog 24 c24 [.tmp 6] 15 := ⟨Tryz.f24, Tryz.func24, cof_ok (by kernel_rfl), by kernel_rfl, rfl, rfl⟩
noncomputable def c25 : VCode := cof Tryz.f25
theorem fun25 : Fun Tryz.prog 25 c25 [.tmp 4] 21 := ⟨Tryz.f25, Tryz.func25, cof_ok (by kernel_rfl), by kernel_rfl, rfl, rfl⟩
noncomputable def c26 : VCode := cof Tryz.f26
theorem fun26 : Fun Tryz.prog 26 c26 [.tmp 8] 51 := ⟨Tryz.f26, Tryz.func26, cof_ok (by kernel_rfl), by kernel_rfl, rfl, rfl⟩
noncomputable def c27 : VCode := cof Tryz.f27
theorem fun27 : Fun Tryz.prog 27 c27 [.tmp 4] 52 := ⟨Tryz.f27, Tryz.func27, cof_ok (by kernel_rfl), by kernel_rfl, rfl, rfl⟩
noncomputable def c28 : VCode := cof Tryz.f28
theorem fun28 : Fun Tryz.prog 28 c28 [.tmp 6, .tmp 7, .tmp 8] 106 := ⟨Tryz.f28, Tryz.func28, cof_ok (by kernel_rfl), by kernel_rfl, rfl, rfl⟩
noncomputable def c29 : VCode := cof Tryz.f29
theorem fun29 : Fun Tryz.prog 29 c29 [.tmp 6, .tmp 7] 50 := ⟨Tryz.f29, Tryz.func29, cof_ok (by kernel_rfl), by kernel_rfl, rfl, rfl⟩
noncomputable def c30 : VCode := cof Tryz.f30
theorem fun30 : Fun Tryz.prog 30 c30 [.tmp 4] 46 := ⟨Tryz.f30, Tryz.func30, cof_ok (by kernel_rfl), by kernel_rfl, rfl, rfl⟩
noncomputable def c31 : VCode := cof Tryz.f31
theorem fun31 : Fun Tryz.prog 31 c31 [] 107 := ⟨Tryz.f31, Tryz.func31, cof_ok (by kernel_rfl), by kernel_rfl, rfl, rfl⟩
noncomputable def c32 : VCode := cof Tryz.f32
theorem fun32 : Fun Tryz.prog 32 c32 [.cell 0 true 2] 3 := ⟨Tryz.f32, Tryz.func32, cof_ok (by kernel_rfl), by kernel_rfl, rfl, rfl⟩
noncomputable def c33 : VCode := cof Tryz.f33
theorem fun33 : Fun Tryz.prog 33 c33 [.tmp 2, .tmp 3] 40 := ⟨Tryz.f33, Tryz.func33, cof_ok (by kernel_rfl), by kernel_rfl, rfl, rfl⟩
noncomputable def c34 : VCode := cof Tryz.f34
theorem fun34 : Fun Tryz.prog 34 c34 [.tmp 2, .tmp 3] 75 := ⟨Tryz.f34, Tryz.func34, cof_ok (by kernel_rfl), by kernel_rfl, rfl, rfl⟩
noncomputable def c35 : VCode := cof Tryz.f35
theorem fun35 : Fun Tryz.prog 35 c35 [.tmp 2, .tmp 3] 52 := ⟨Tryz.f35, Tryz.func35, cof_ok (by kernel_rfl), by kernel_rfl, rfl, rfl⟩
noncomputable def c36 : VCode := cof Tryz.f36
theorem fun36 : Fun Tryz.prog 36 c36 [.tmp 2, .tmp 3] 55 := ⟨Tryz.f36, Tryz.func36, cof_ok (by kernel_rfl), by kernel_rfl, rfl, rfl⟩
noncomputable def c37 : VCode := cof Tryz.f37
theorem fun37 : Fun Tryz.prog 37 c37 [.cell 4 false 1, .tmp 5, .tmp 6] 86 := ⟨Tryz.f37, Tryz.func37, cof_ok (by kernel_rfl), by kernel_rfl, rfl, rfl⟩
noncomputable def c38 : VCode := cof Tryz.f38
theorem fun38 : Fun Tryz.prog 38 c38 [.tmp 2] 27 := ⟨Tryz.f38, Tryz.func38, cof_ok (by kernel_rfl), by kernel_rfl, rfl, rfl⟩
noncomputable def c39 : VCode := cof Tryz.f39
theorem fun39 : Fun Tryz.prog 39 c39 [.tmp 6] 11 := ⟨Tryz.f39, Tryz.func39, cof_ok (by kernel_rfl), by kernel_rfl, rfl, rfl⟩
noncomputable def c40 : VCode := cof Tryz.f40
theorem fun40 : Fun Tryz.prog 40 c40 [.tmp 4, .tmp 5] 43 := ⟨Tryz.f40, Tryz.func40, cof_ok (by kernel_rfl), by kernel_rfl, rfl, rfl⟩
noncomputable def c41 : VCode := cof Tryz.f41
theorem fun41 : Fun Tryz.prog 41 c41 [.tmp 4] 28 := ⟨Tryz.f41, Tryz.func41, cof_ok (by kernel_rfl), by kernel_rfl, rfl, rfl⟩
noncomputable def c42 : VCode := cof Tryz.f42
theorem fun42 : Fun Tryz.prog 42 c42 [.tmp 4] 19 := ⟨Tryz.f42, Tryz.func42, cof_ok (by kernel_rfl), by kernel_rfl, rfl, rfl⟩
noncomputable def c43 : VCode := cof Tryz.f43
theorem fun43 : Fun Tryz.prog 43 c43 [.tmp 2] 33 := ⟨Tryz.f43, Tryz.func43, cof_ok (by kernel_rfl), by kernel_rfl, rfl, rfl⟩
noncomputable def c44 : VCode := cof Tryz.f44
theorem fun44 : Fun Tryz.prog 44 c44 [.tmp 6] 28 := ⟨Tryz.f44, Tryz.func44, cof_ok (by kernel_rfl), by kernel_rfl, rfl, rfl⟩
noncomputable def c45 : VCode := cof Tryz.f45
theorem fun45 : Fun Tryz.prog 45 c45 [.tmp 2] 35 := ⟨Tryz.f45, Tryz.func45, cof_ok (by kernel_rfl), by kernel_rfl, rfl, rfl⟩
noncomputable def c46 : VCode := cof Tryz.f46
theorem fun46 : Fun Tryz.prog 46 c46 [.tmp 2] 25 := ⟨Tryz.f46, Tryz.func46, cof_ok (by kernel_rfl), by kernel_rfl, rfl, rfl⟩
noncomputable def c47 : VCode := cof Tryz.f47
theorem fun47 : Fun Tryz.prog 47 c47 [.tmp 3] 20 := ⟨Tryz.f47, Tryz.func47, cof_ok (by kernel_rfl), by kernel_rfl, rfl, rfl⟩
noncomputable def c48 : VCode := cof Tryz.f48
theorem fun48 : Fun Tryz.prog 48 c48 [.tmp 4] 22 := ⟨Tryz.f48, Tryz.func48, cof_ok (by kernel_rfl), by kernel_rfl, rfl, rfl⟩
noncomputable def c49 : VCode := cof Tryz.f49
theorem fun49 : Fun Tryz.prog 49 c49 [.tmp 4] 9 := ⟨Tryz.f49, Tryz.func49, cof_ok (by kernel_rfl), by kernel_rfl, rfl, rfl⟩
noncomputable def c50 : VCode := cof Tryz.f50
theorem fun50 : Fun Tryz.prog 50 c50 [.tmp 4] 48 := ⟨Tryz.f50, Tryz.func50, cof_ok (by kernel_rfl), by kernel_rfl, rfl, rfl⟩
noncomputable def c51 : VCode := cof Tryz.f51
theorem fun51 : Fun Tryz.prog 51 c51 [.tmp 4] 48 := ⟨Tryz.f51, Tryz.func51, cof_ok (by kernel_rfl), by kernel_rfl, rfl, rfl⟩
noncomputable def c52 : VCode := cof Tryz.f52
theorem fun52 : Fun Tryz.prog 52 c52 [.tmp 4] 22 := ⟨Tryz.f52, Tryz.func52, cof_ok (by kernel_rfl), by kernel_rfl, rfl, rfl⟩
noncomputable def c53 : VCode := cof Tryz.f53
theorem fun53 : Fun Tryz.prog 53 c53 [.tmp 6] 15 := ⟨Tryz.f53, Tryz.func53, cof_ok (by kernel_rfl), by kernel_rfl, rfl, rfl⟩
noncomputable def c54 : VCode := cof Tryz.f54
theorem fun54 : Fun Tryz.prog 54 c54 [.cell 6 true 4, .tmp 7] 50 := ⟨Tryz.f54, Tryz.func54, cof_ok (by kernel_rfl), by kernel_rfl, rfl, rfl⟩
noncomputable def c55 : VCode := cof Tryz.f55
theorem fun55 : Fun Tryz.prog 55 c55 [.tmp 2, .tmp 3] 46 := ⟨Tryz.f55, Tryz.func55, cof_ok (by kernel_rfl), by kernel_rfl, rfl, rfl⟩
noncomputable def c56 : VCode := cof Tryz.f56
theorem fun56 : Fun Tryz.prog 56 c56 [.tmp 4] 16 := ⟨Tryz.f56, Tryz.func56, cof_ok (by kernel_rfl), by kernel_rfl, rfl, rfl⟩
noncomputable def c57 : VCode := cof Tryz.f57
theorem fun57 : Fun Tryz.prog 57 c57 [.tmp 9] 45 := ⟨Tryz.f57, Tryz.func57, cof_ok (by kernel_rfl), by kernel_rfl, rfl, rfl⟩
noncomputable def c58 : VCode := cof Tryz.f58
theorem fun58 : Fun Tryz.prog 58 c58 [.tmp 6] 36 := ⟨Tryz.f58, Tryz.func58, cof_ok (by kernel_rfl), by kernel_rfl, rfl, rfl⟩
noncomputable def c59 : VCode := cof Tryz.f59
theorem fun59 : Fun Tryz.prog 59 c59 [.tmp 2] 11 := ⟨Tryz.f59, Tryz.func59, cof_ok (by kernel_rfl), by kernel_rfl, rfl, rfl⟩
noncomputable def c60 : VCode := cof Tryz.f60
theorem fun60 : Fun Tryz.prog 60 c60 [.tmp 2] 22 := ⟨Tryz.f60, Tryz.func60, cof_ok (by kernel_rfl), by kernel_rfl, rfl, rfl⟩
noncomputable def c61 : VCode := cof Tryz.f61
theorem fun61 : Fun Tryz.prog 61 c61 [.tmp 4] 10 := ⟨Tryz.f61, Tryz.func61, cof_ok (by kernel_rfl), by kernel_rfl, rfl, rfl⟩
noncomputable def c62 : VCode := cof Tryz.f62
theorem fun62 : Fun Tryz.prog 62 c62 [.tmp 4] 9 := ⟨Tryz.f62, Tryz.func62, cof_ok (by kernel_rfl), by kernel_rfl, rfl, rfl⟩
noncomputable def c63 : VCode := cof Tryz.f63
theorem fun63 : Fun Tryz.prog 63 c63 [.tmp 4] 48 := ⟨Tryz.f63, Tryz.func63, cof_ok (by kernel_rfl), by kernel_rfl, rfl, rfl⟩
noncomputable def c64 : VCode := cof Tryz.f64
theorem fun64 : Fun Tryz.prog 64 c64 [.tmp 2] 7 := ⟨Tryz.f64, Tryz.func64, cof_ok (by kernel_rfl), by kernel_rfl, rfl, rfl⟩
noncomputable def c65 : VCode := cof Tryz.f65
theorem fun65 : Fun Tryz.prog 65 c65 [.tmp 4] 19 := ⟨Tryz.f65, Tryz.func65, cof_ok (by kernel_rfl), by kernel_rfl, rfl, rfl⟩
noncomputable def c66 : VCode := cof Tryz.f66
theorem fun66 : Fun Tryz.prog 66 c66 [.tmp 3] 8 := ⟨Tryz.f66, Tryz.func66, cof_ok (by kernel_rfl), by kernel_rfl, rfl, rfl⟩
noncomputable def c67 : VCode := cof Tryz.f67
theorem fun67 : Fun Tryz.prog 67 c67 [.tmp 2] 8 := ⟨Tryz.f67, Tryz.func67, cof_ok (by kernel_rfl), by kernel_rfl, rfl, rfl⟩
noncomputable def c68 : VCode := cof Tryz.f68
theorem fun68 : Fun Tryz.prog 68 c68 [.tmp 2] 4 := ⟨Tryz.f68, Tryz.func68, cof_ok (by kernel_rfl), by kernel_rfl, rfl, rfl⟩
noncomputable def c69 : VCode := cof Tryz.f69
theorem fun69 : Fun Tryz.prog 69 c69 [] 28 := ⟨Tryz.f69, Tryz.func69, cof_ok (by kernel_rfl), by kernel_rfl, rfl, rfl⟩
noncomputable def c70 : VCode := cof Tryz.f70
theorem fun70 : Fun Tryz.prog 70 c70 [.tmp 6] 11 := ⟨Tryz.f70, Tryz.func70, cof_ok (by kernel_rfl), by kernel_rfl, rfl, rfl⟩
noncomputable def c71 : VCode := cof Tryz.f71
theorem fun71 : Fun Tryz.prog 71 c71 [.tmp 4] 9 := ⟨Tryz.f71, Tryz.func71, cof_ok (by kernel_rfl), by kernel_rfl, rfl, rfl⟩
noncomputable def c72 : VCode := cof Tryz.f72
theorem fun72 : Fun Tryz.prog 72 c72 [.tmp 4] 13 := ⟨Tryz.f72, Tryz.func72, cof_ok (by kernel_rfl), by kernel_rfl, rfl, rfl⟩
noncomputable def c73 : VCode := cof Tryz.f73
theorem fun73 : Fun Tryz.prog 73 c73 [.tmp 2] 28 := ⟨Tryz.f73, Tryz.func73, cof_ok (by kernel_rfl), by kernel_rfl, rfl, rfl⟩
noncomputable def c74 : VCode := cof Tryz.f74
theorem fun74 : Fun Tryz.prog 74 c74 [.tmp 4] 22 := ⟨Tryz.f74, Tryz.func74, cof_ok (by kernel_rfl), by kernel_rfl, rfl, rfl⟩
noncomputable def c75 : VCode := cof Tryz.f75
theorem fun75 : Fun Tryz.prog 75 c75 [.tmp 6] 15 := ⟨Tryz.f75, Tryz.func75, cof_ok (by kernel_rfl), by kernel_rfl, rfl, rfl⟩
noncomputable def c76 : VCode := cof Tryz.f76
theorem fun76 : Fun Tryz.prog 76 c76 [.tmp 4] 19 := ⟨Tryz.f76, Tryz.func76, cof_ok (by kernel_rfl), by kernel_rfl, rfl, rfl⟩
noncomputable def c77 : VCode := cof Tryz.f77
theorem fun77 : Fun Tryz.prog 77 c77 [.tmp 4, .tmp 5] 30 := ⟨Tryz.f77, Tryz.func77, cof_ok (by kernel_rfl), by kernel_rfl, rfl, rfl⟩
noncomputable def c78 : VCode := cof Tryz.f78
theorem fun78 : Fun Tryz.prog 78 c78 [.tmp 3] 15 := ⟨Tryz.f78, Tryz.func78, cof_ok (by kernel_rfl), by kernel_rfl, rfl, rfl⟩
noncomputable def c79 : VCode := cof Tryz.f79
theorem fun79 : Fun Tryz.prog 79 c79 [.tmp 4] 43 := ⟨Tryz.f79, Tryz.func79, cof_ok (by kernel_rfl), by kernel_rfl, rfl, rfl⟩
noncomputable def c80 : VCode := cof Tryz.f80
theorem fun80 : Fun Tryz.prog 80 c80 [.tmp 4] 9 := ⟨Tryz.f80, Tryz.func80, cof_ok (by kernel_rfl), by kernel_rfl, rfl, rfl⟩
noncomputable def c81 : VCode := cof Tryz.f81
theorem fun81 : Fun Tryz.prog 81 c81 [.tmp 4] 30 := ⟨Tryz.f81, Tryz.func81, cof_ok (by kernel_rfl), by kernel_rfl, rfl, rfl⟩
noncomputable def c82 : VCode := cof Tryz.f82
theorem fun82 : Fun Tryz.prog 82 c82 [.tmp 2] 4 := ⟨Tryz.f82, Tryz.func82, cof_ok (by kernel_rfl), by kernel_rfl, rfl, rfl⟩
noncomputable def c83 : VCode := cof Tryz.f83
theorem fun83 : Fun Tryz.prog 83 c83 [.tmp 2] 25 := ⟨Tryz.f83, Tryz.func83, cof_ok (by kernel_rfl), by kernel_rfl, rfl, rfl⟩
noncomputable def c84 : VCode := cof Tryz.f84
theorem fun84 : Fun Tryz.prog 84 c84 [] 19 := ⟨Tryz.f84, Tryz.func84, cof_ok (by kernel_rfl), by kernel_rfl, rfl, rfl⟩
noncomputable def c85 : VCode := cof Tryz.f85
theorem fun85 : Fun Tryz.prog 85 c85 [.tmp 4] 13 := ⟨Tryz.f85, Tryz.func85, cof_ok (by kernel_rfl), by kernel_rfl, rfl, rfl⟩
noncomputable def c86 : VCode := cof Tryz.f86
theorem fun86 : Fun Tryz.prog 86 c86 [.tmp 4] 19 := ⟨Tryz.f86, Tryz.func86, cof_ok (by kernel_rfl), by kernel_rfl, rfl, rfl⟩
noncomputable def c87 : VCode := cof Tryz.f87
theorem fun87 : Fun Tryz.prog 87 c87 [.tmp 6] 11 := ⟨Tryz.f87, Tryz.func87, cof_ok (by kernel_rfl), by kernel_rfl, rfl, rfl⟩
noncomputable def c88 : VCode := cof Tryz.f88
theorem fun88 : Fun Tryz.prog 88 c88 [.tmp 4] 17 := ⟨Tryz.f88, Tryz.func88, cof_ok (by kernel_rfl), by kernel_rfl, rfl, rfl⟩
noncomputable def c89 : VCode := cof Tryz.f89
theorem fun89 : Fun Tryz.prog 89 c89 [.tmp 2] 4 := ⟨Tryz.f89, Tryz.func89, cof_ok (by kernel_rfl), by kernel_rfl, rfl, rfl⟩
noncomputable def c90 : VCode := cof Tryz.f90
theorem fun90 : Fun Tryz.prog 90 c90 [.tmp 6] 17 := ⟨Tryz.f90, Tryz.func90, cof_ok (by kernel_rfl), by kernel_rfl, rfl, rfl⟩
noncomputable def c91 : VCode := cof Tryz.f91
theorem fun91 : Fun Tryz.prog 91 c91 [.tmp 2] 14 := ⟨Tryz.f91, Tryz.func91, cof_ok (by kernel_rfl), by kernel_rfl, rfl, rfl⟩
noncomputable def c92 : VCode := cof Tryz.f92
theorem fun92 : Fun Tryz.prog 92 c92 [.tmp 4, .tmp 5] 17 := ⟨Tryz.f92, Tryz.func92, cof_ok (by kernel_rfl), by kernel_rfl, rfl, rfl⟩
noncomputable def c93 : VCode := cof Tryz.f93
theorem fun93 : Fun Tryz.prog 93 c93 [.tmp 4, .tmp 5] 51 := ⟨Tryz.f93, Tryz.func93, cof_ok (by kernel_rfl), by kernel_rfl, rfl, rfl⟩
noncomputable def c94 : VCode := cof Tryz.f94
theorem fun94 : Fun Tryz.prog 94 c94 [.tmp 4] 17 := ⟨Tryz.f94, Tryz.func94, cof_ok (by kernel_rfl), by kernel_rfl, rfl, rfl⟩
noncomputable def c95 : VCode := cof Tryz.f95
theorem fun95 : Fun Tryz.prog 95 c95 [.tmp 4] 23 := ⟨Tryz.f95, Tryz.func95, cof_ok (by kernel_rfl), by kernel_rfl, rfl, rfl⟩
noncomputable def c96 : VCode := cof Tryz.f96
theorem fun96 : Fun Tryz.prog 96 c96 [.cell 2 true 256, .tmp 3] 21 := ⟨Tryz.f96, Tryz.func96, cof_ok (by kernel_rfl), by kernel_rfl, rfl, rfl⟩
noncomputable def c97 : VCode := cof Tryz.f97
theorem fun97 : Fun Tryz.prog 97 c97 [.tmp 4] 16 := ⟨Tryz.f97, Tryz.func97, cof_ok (by kernel_rfl), by kernel_rfl, rfl, rfl⟩
noncomputable def c98 : VCode := cof Tryz.f98
theorem fun98 : Fun Tryz.prog 98 c98 [.tmp 4] 22 := ⟨Tryz.f98, Tryz.func98, cof_ok (by kernel_rfl), by kernel_rfl, rfl, rfl⟩
noncomputable def c99 : VCode := cof Tryz.f99
theorem fun99 : Fun Tryz.prog 99 c99 [.tmp 4] 23 := ⟨Tryz.f99, Tryz.func99, cof_ok (by kernel_rfl), by kernel_rfl, rfl, rfl⟩
noncomputable def c100 : VCode := cof Tryz.f100
theorem fun100 : Fun Tryz.prog 100 c100 [.tmp 4] 34 := ⟨Tryz.f100, Tryz.func100, cof_ok (by kernel_rfl), by kernel_rfl, rfl, rfl⟩
noncomputable def c101 : VCode := cof Tryz.f101
theorem fun101 : Fun Tryz.prog 101 c101 [.tmp 4] 19 := ⟨Tryz.f101, Tryz.func101, cof_ok (by kernel_rfl), by kernel_rfl, rfl, rfl⟩
noncomputable def c102 : VCode := cof Tryz.f102
theorem fun102 : Fun Tryz.prog 102 c102 [] 19 := ⟨Tryz.f102, Tryz.func102, cof_ok (by kernel_rfl), by kernel_rfl, rfl, rfl⟩
noncomputable def c103 : VCode := cof Tryz.f103
theorem fun103 : Fun Tryz.prog 103 c103 [.tmp 4] 13 := ⟨Tryz.f103, Tryz.func103, cof_ok (by kernel_rfl), by kernel_rfl, rfl, rfl⟩
noncomputable def c104 : VCode := cof Tryz.f104
theorem fun104 : Fun Tryz.prog 104 c104 [] 20 := ⟨Tryz.f104, Tryz.func104, cof_ok (by kernel_rfl), by kernel_rfl, rfl, rfl⟩
noncomputable def c105 : VCode := cof Tryz.f105
theorem fun105 : Fun Tryz.prog 105 c105 [.tmp 4] 10 := ⟨Tryz.f105, Tryz.func105, cof_ok (by kernel_rfl), by kernel_rfl, rfl, rfl⟩
noncomputable def c106 : VCode := cof Tryz.f106
theorem fun106 : Fun Tryz.prog 106 c106 [.tmp 2, .tmp 3] 19 := ⟨Tryz.f106, Tryz.func106, cof_ok (by kernel_rfl), by kernel_rfl, rfl, rfl⟩
noncomputable def c107 : VCode := cof Tryz.f107
theorem fun107 : Fun Tryz.prog 107 c107 [.tmp 4] 9 := ⟨Tryz.f107, Tryz.func107, cof_ok (by kernel_rfl), by kernel_rfl, rfl, rfl⟩
noncomputable def c108 : VCode := cof Tryz.f108
theorem fun108 : Fun Tryz.prog 108 c108 [.tmp 2, .tmp 3] 51 := ⟨Tryz.f108, Tryz.func108, cof_ok (by kernel_rfl), by kernel_rfl, rfl, rfl⟩
noncomputable def c110 : VCode := cof Tryz.f110
theorem fun110 : Fun Tryz.prog 110 c110 [.tmp 2, .tmp 3] 117 := ⟨Tryz.f110, Tryz.func110, cof_ok (by kernel_rfl), by kernel_rfl, rfl, rfl⟩
noncomputable def c111 : VCode := cof Tryz.f111
theorem fun111 : Fun Tryz.prog 111 c111 [.tmp 4] 187 := ⟨Tryz.f111, Tryz.func111, cof_ok (by kernel_rfl), by kernel_rfl, rfl, rfl⟩
noncomputable def c112 : VCode := cof Tryz.f112
theorem fun112 : Fun Tryz.prog 112 c112 [.tmp 2] 6 := ⟨Tryz.f112, Tryz.func112, cof_ok (by kernel_rfl), by kernel_rfl, rfl, rfl⟩
noncomputable def c113 : VCode := cof Tryz.f113
theorem fun113 : Fun Tryz.prog 113 c113 [.tmp 4] 8 := ⟨Tryz.f113, Tryz.func113, cof_ok (by kernel_rfl), by kernel_rfl, rfl, rfl⟩
noncomputable def c114 : VCode := cof Tryz.f114
theorem fun114 : Fun Tryz.prog 114 c114 [.tmp 2] 17 := ⟨Tryz.f114, Tryz.func114, cof_ok (by kernel_rfl), by kernel_rfl, rfl, rfl⟩
noncomputable def c115 : VCode := cof Tryz.f115
theorem fun115 : Fun Tryz.prog 115 c115 [.tmp 2] 6 := ⟨Tryz.f115, Tryz.func115, cof_ok (by kernel_rfl), by kernel_rfl, rfl, rfl⟩
noncomputable def c117 : VCode := cof Tryz.f117
theorem fun117 : Fun Tryz.prog 117 c117 [.tmp 4] 8 := ⟨Tryz.f117, Tryz.func117, cof_ok (by kernel_rfl), by kernel_rfl, rfl, rfl⟩
noncomputable def c140 : VCode := cof Tryz.f140
theorem fun140 : Fun Tryz.prog 140 c140 [] 6 := ⟨Tryz.f140, Tryz.func140, cof_ok (by kernel_rfl), by kernel_rfl, rfl, rfl⟩
theorem same109 : EntOk Tryz.prog 109 (some .same) := ext_same (e := Extern.AbiNoEscape.same) Tryz.func109 (by kernel_rfl) (by kernel_rfl) (by kernel_rfl) (by kernel_rfl) (fun _ _ => rfl)
end Go.Proofs.Tryz
namespace Go.V
open Go
theorem wrap_small {x : Nat} (h : x < 9223372036854775808) : IntKind.wrap .i64 (x : Int) = x := by
 have e : ((x : Int) % (18446744073709551616 : Int)) = x := by omega
 have : ¬ ((x : Int) ≥ 9223372036854775808) := by omega
 show (if (true && decide ((x : Int) % (18446744073709551616 : Int) ≥ 9223372036854775808)) = true then (x : Int) % (18446744073709551616 : Int) - 18446744073709551616 else (x : Int) % (18446744073709551616 : Int)) = x
 simp only [e, this, decide_false, Bool.and_false, Bool.false_eq_true, if_false]
theorem and_lt63 {x y : Nat} (h : x < 9223372036854775808) : x &&& y < 9223372036854775808 := Nat.lt_of_le_of_lt Nat.and_le_left h
theorem or_lt63 {x y : Nat} (hx : x < 9223372036854775808) (hy : y < 9223372036854775808) : x ||| y < 9223372036854775808 := Nat.or_lt_two_pow (n := 63) hx hy
theorem xor_lt63 {x y : Nat} (hx : x < 9223372036854775808) (hy : y < 9223372036854775808) : x ^^^ y < 9223372036854775808 := Nat.xor_lt_two_pow (n := 63) hx hy
theorem ofInt_nat (x : Nat) : BitVec.ofInt 64 (x : Int) = BitVec.ofNat 64 x := by
 apply BitVec.eq_of_toNat_eq; simp
theorem toNat_ofInt {x : Nat} (h : x < 9223372036854775808) : (BitVec.ofInt 64 (x : Int)).toNat = x := by
 rw [ofInt_nat, BitVec.toNat_ofNat, Nat.mod_eq_of_lt (by omega)]
theorem vand_nat {x y : Nat} (hx : x < 9223372036854775808) (hy : y < 9223372036854775808) : vbits .and .i64 x y = ((x &&& y : Nat) : Int) := by
 have e : (BitVec.ofInt 64 (x : Int) &&& BitVec.ofInt 64 (y : Int)).toNat = x &&& y := by rw [BitVec.toNat_and, toNat_ofInt hx, toNat_ofInt hy]
 show IntKind.wrap .i64 ((BitVec.ofInt 64 (x : Int) &&& BitVec.ofInt 64 (y : Int)).toNat : Int) = _
 rw [e, wrap_small (and_lt63 hx)]
theorem vor_nat {x y : Nat} (hx : x < 9223372036854775808) (hy : y < 9223372036854775808) : vbits .or .i64 x y = ((x ||| y : Nat) : Int) := by
 have e : (BitVec.ofInt 64 (x : Int) ||| BitVec.ofInt 64 (y : Int)).toNat = x ||| y := by rw [BitVec.toNat_or, toNat_ofInt hx, toNat_ofInt hy]
 show IntKind.wrap .i64 ((BitVec.ofInt 64 (x : Int) ||| BitVec.ofInt 64 (y : Int)).toNat : Int) = _
 rw [e, wrap_small (or_lt63 hx hy)]
end Go.V
set_option linter.unusedVariables false
namespace Go.Proofs.Tryz
open Go Go.V Go.Proofs
def inI (n a b : Int) : Bool := decide (a ≤ n) && decide (n ≤ b)
def tieErr (hk : Int) (lw : List Int) : Int := if !inI hk 1 24 then 2 else if 96 < lw.length then 5 else if lw.length = 0 then 7 else if lw.any (fun x => !inI x 0 (hk - 1)) then 2 else 0
def idxF (l : List Int) (p : Int → Bool) : Int := match l.findIdx? p with | some i => (i : Int) | none => -1
def idxG {α : Type} (l : List α) (p : α → Bool) : Int := match l.findIdx? p with | some i => (i : Int) | none => -1
def pointErr (hd : Int) (rows : List Int) : Int := if !inI hd 1 24 then 2 else if 60 < rows.length then 5 else if rows.length = 0 then 7 else if rows.any (fun x => !inI x 0 (2 ^ hd.toNat - 1)) then 2 else 0
def weaveErr (hk : Int) (lw : List Int) (hd : Int) (rows : List Int) : Int := if tieErr hk lw ≠ 0 then tieErr hk lw else if pointErr hd rows ≠ 0 then pointErr hd rows else if hd ≠ hk then 4 else 0
theorem tieErr_zero {hk : Int} {lw : List Int} (h : tieErr hk lw = 0) : 1 ≤ hk ∧ hk ≤ 24 ∧ lw.length ≤ 96 ∧ lw.length ≠ 0 ∧ ∀ x ∈ lw, 0 ≤ x ∧ x < hk := by
 unfold tieErr at h
 split at h
 ·cases h
 ·rename_i h1
  split at h
  ·cases h
  ·rename_i h2
   split at h
   ·cases h
   ·rename_i h3
    split at h
    ·cases h
    ·rename_i h4
     have h1 : 1 ≤ hk ∧ hk ≤ 24 := by simpa [inI] using h1
     refine ⟨h1.1, h1.2, by omega, h3, fun x hx => ?_⟩
     have h5 : ∀ x ∈ lw, inI x 0 (hk - 1) = true := by simpa using h4
     have := h5 x hx
     simp only [inI, Bool.and_eq_true, decide_eq_true_eq] at this
     omega
theorem idxG_some {α : Type} {l : List α} {p : α → Bool} {k : Nat} (hk : k < l.length) (h : p l[k] = true) (hJ : (l.take k).any p = false) : idxG l p = k := by
 have : l.findIdx? p = some k := by
  rw [List.findIdx?_eq_some_iff_getElem]
  refine ⟨hk, h, fun j hj => ?_⟩
  have hn := List.any_eq_false.1 hJ l[j] (List.mem_take_iff_getElem.2 ⟨j, by omega, rfl⟩)
  simpa using hn
 simp [idxG, this]
theorem idxG_none {α : Type} {l : List α} {p : α → Bool} (hJ : l.any p = false) : idxG l p = -1 := by
 have : l.findIdx? p = none := by
  rw [List.findIdx?_eq_none_iff]
  intro x hx
  have := List.any_eq_false.1 hJ x hx
  simpa using this
 simp [idxG, this]
theorem idxG_any {α : Type} (l : List α) (p : α → Bool) : (decide (idxG l p ≥ 0)) = l.any p := by
 cases h : l.any p with
 | false => rw [idxG_none h]; rfl
 | true =>
  have : (l.findIdx? p).isSome = true := by rw [List.findIdx?_isSome, h]
  obtain ⟨i, hi⟩ := Option.isSome_iff_exists.1 this
  have e : idxG l p = (i : Int) := by simp [idxG, hi]
  rw [e]; exact decide_eq_true (Int.natCast_nonneg i)
def ptsL (r : Int) (n : Nat) : List Bool := (List.range n).map fun k => r.toNat.testBit k
theorem ptsL_len (r : Int) (n : Nat) : (ptsL r n).length = n := by simp [ptsL]
theorem ptsL_getD {r : Int} {n k : Nat} (h : k < n) : (ptsL r n).getD k false = r.toNat.testBit k := by
 rw [getD_nat (by simpa [ptsL] using h)]; simp [ptsL]
theorem ptsL_succ (r : Int) (n : Nat) : ptsL r (n + 1) = ptsL r n ++ [r.toNat.testBit n] := by
 simp [ptsL, List.range_succ]
theorem tdiv_two (n : Nat) : Int.tdiv (n : Int) 2 = ((n / 2 : Nat) : Int) := rfl
theorem tmod_two (n : Nat) : Int.tmod (n : Int) 2 = ((n % 2 : Nat) : Int) := rfl
def repL {α : Type} (l : List α) (n : Nat) : List α := (List.replicate n l).flatten
abbrev SI := Int × Int × Bool
def hooksErr (hk : Int) (lw : List Int) (hd : Int) (rows : List Int) (s : List SI) : Int := if weaveErr hk lw hd rows ≠ 0 then weaveErr hk lw hd rows else if 60 < s.length then 5 else if s.any (fun x => !inI x.1 0 119 || !inI x.2.1 0 (lw.length - 1)) then 2 else 0
def rowAt (rows : List Int) (p : Int) : Nat := (rows.getD (p.toNat % rows.length) 0).toNat
def seeN (rows : List Int) (w : Nat) (b : Nat) (x : SI) : Nat := if x.2.1 = w then (if x.2.2 then b &&& rowAt rows x.1 else b ^^^ (b &&& rowAt rows x.1)) else b
def allN (lw : List Int) : Nat := lw.foldl (fun b k => b ||| 2 ^ k.toNat) 0
def hookN (lw rows : List Int) (s : List SI) (w : Nat) : Nat := s.foldl (seeN rows w) (allN lw)
def hooksI (lw rows : List Int) (s : List SI) : List Int := (List.range lw.length).map fun w => ((hookN lw rows s w : Nat) : Int)
def looseI (lw : List Int) (s : List SI) : List Bool := (List.range lw.length).map fun (w : Nat) => !(s.any fun x => decide (x.2.1 = w) && x.2.2)
def hooksW (hk : Int) (lw : List Int) (hd : Int) (rows : List Int) (s : List SI) : List Int := if hooksErr hk lw hd rows s = 0 then hooksI lw rows s else []
def looseW (hk : Int) (lw : List Int) (hd : Int) (rows : List Int) (s : List SI) : List Bool := if hooksErr hk lw hd rows s = 0 then looseI lw s else []
def seesB (rows : List Int) (s : List SI) (w k : Int) : Bool := s.all fun x => x.2.1 != w || ((decide (0 ≤ k) && (rowAt rows x.1).testBit k.toNat) == x.2.2)
theorem repL_add {α : Type} (l : List α) (a b : Nat) : repL l (a + b) = repL l a ++ repL l b := by
 simp only [repL]; rw [← List.replicate_append_replicate, List.flatten_append]
theorem repL_length {α : Type} (l : List α) (n : Nat) : (repL l n).length = l.length * n := by
 simp [repL, List.length_flatten, Nat.mul_comm]
theorem repL_one {α : Type} (x : α) (n : Nat) : repL [x] n = List.replicate n x := by
 induction n with
 | zero => rfl
 | succ n ih => rw [repL_add, ih, List.replicate_succ']; rfl
theorem repL_next {α : Type} {l : List α} {n j c : Nat} (hj : j ≤ n) (hc : l.length * j + c ≤ l.length * n) : (repL l n).take (l.length * j + c) = (repL l n).take (l.length * j) ++ (repL l n).take c := by
 obtain ⟨k, rfl⟩ := Nat.exists_eq_add_of_le hj
 rw [Nat.mul_add] at hc
 have e : repL l (j + k) = repL l k ++ repL l j := by rw [Nat.add_comm, repL_add]
 rw [List.take_add]
 congr 1
 rw [repL_add l j k, List.drop_left' (repL_length l j), ← repL_add, e, List.take_append_of_le_length (by rw [repL_length]; omega)]
def RepI {α : Type} (l : List α) (n : Nat) (xs : List α) (m : Nat) : Prop := xs.length = l.length * n ∧ m ≤ l.length * n ∧ xs.take m = (repL l n).take m ∧ (m = l.length * n ∨ (0 < m ∧ ∃ j, m = l.length * j))
theorem repI_zero {α : Type} (l : List α) (n : Nat) (d : α) : RepI l n (List.take (l.length * n) l ++ List.drop l.length (List.replicate (l.length * n) d)) (Nat.min l.length (l.length * n)) := by
 rcases Nat.eq_zero_or_pos n with rfl | hn
 ·exact ⟨by simp, by simp, by simp, .inl (by simp)⟩
 have h1 : l.length ≤ l.length * n := Nat.le_mul_of_pos_right _ hn
 have e : Nat.min l.length (l.length * n) = l.length := Nat.min_eq_left h1
 rw [e]
 refine ⟨by simp; omega, h1, ?_, ?_⟩
 ·obtain ⟨k, rfl⟩ := Nat.exists_eq_add_of_le hn
  rw [List.take_of_length_le h1, List.take_left, Nat.succ_eq_add_one, repL_add, List.take_append_of_le_length (by rw [repL_length]; omega)]
  simp [repL]
 ·rcases Nat.eq_zero_or_pos l.length with h0 | h0
  ·left; rw [h0]; simp
  ·exact .inr ⟨h0, 1, by omega⟩
theorem repI_step {α : Type} {l : List α} {n : Nat} {xs : List α} {m : Nat} (h : RepI l n xs m) (hm : m < xs.length) :
  RepI l n (List.take m xs ++ (List.take (xs.length - m) (List.take m xs) ++ List.drop (m + Nat.min (List.take m xs).length (xs.length - m)) xs)) (m + Nat.min (List.take m xs).length (xs.length - m)) ∧ 0 < Nat.min (List.take m xs).length (xs.length - m) := by
 obtain ⟨h1, h2, h3, h4⟩ := h
 have hl : (List.take m xs).length = m := by rw [List.length_take]; omega
 rw [hl]
 rcases h4 with h4 | ⟨h4, j, h5⟩
 ·omega
 have hj : j ≤ n := Nat.le_of_mul_le_mul_left (by omega : l.length * j ≤ l.length * n) (Nat.pos_of_ne_zero fun h => by rw [h] at h1; omega)
 have hc : Nat.min m (xs.length - m) = min m (xs.length - m) := rfl
 generalize hcc : Nat.min m (xs.length - m) = c
 rw [hc] at hcc
 have c1 : c ≤ m := by omega
 have c2 : m + c ≤ xs.length := by omega
 have c3 : 0 < c := by omega
 refine ⟨⟨?_, by omega, ?_, ?_⟩, c3⟩
 ·simp only [List.length_append, List.length_take, List.length_drop]; omega
 ·have e1 : List.take (xs.length - m) (List.take m xs) = List.take c ((repL l n).take m) := by
   rw [h3, List.take_take, List.take_take]; congr 1; omega
  rw [e1, h3, ← List.append_assoc, List.take_left']
  ·rw [h5, repL_next hj (by omega), List.take_take, Nat.min_eq_left (by omega)]
  ·simp only [List.length_append, List.length_take, repL_length]; omega
 ·rcases Nat.lt_or_ge (xs.length - m) m with h6 | h6
  ·left; omega
  ·right; exact ⟨by omega, j + j, by rw [Nat.mul_add]; omega⟩
theorem repI_end {α : Type} {l : List α} {n : Nat} {xs : List α} {m : Nat} (h : RepI l n xs m) (hm : ¬ m < xs.length) : xs = repL l n := by
 obtain ⟨h1, h2, h3, _⟩ := h
 have : m = l.length * n := by omega
 rw [List.take_of_length_le (by omega), List.take_of_length_le (by rw [repL_length]; omega)] at h3
 exact h3
end Go.Proofs.Tryz
set_option linter.unusedVariables false
namespace Go.Proofs.Tryz
open Go Go.V Go.Proofs
def al_ref11_In : AL (Int × Int × Int) := (.cons (.k (.i .i64)) (.cons (.k (.i .i64)) (.one (.k (.i .i64)))))
def pre_ref11_In (d : Int × Int × Int) : Prop := True
def res_ref11_In (d : Int × Int × Int) : SV := .val .bo (inI d.1 d.2.1 d.2.2)
def obs_ref11_In (d : Int × Int × Int) : List OB := []
def s_ref11_In : CSp := mkSp al_ref11_In pre_ref11_In res_ref11_In obs_ref11_In
def vc_ref11_In (n : Int) (a : Int) (b : Int) : Prop :=
 (((decide (n ≥ a)) && (decide (n ≤ b))) = (inI n a b) ∧ (True))
def cx_ref11_In : Cx := ⟨[], [], 15, [], 0, [], [], [], [], false⟩
def lp_ref11_In (n : Int) (a : Int) (b : Int) : List (Nat × LoopAnn) := []
set_option maxRecDepth 100000 in
theorem vq_ref11_In (d : Int × Int × Int) : gwp (cx_ref11_In) (lp_ref11_In d.1 d.2.1 d.2.2) c24 0 (gend [.tmp 6] (res_ref11_In d) (obs_ref11_In d)) (gstart 15 (AL.can al_ref11_In d)) = vc_ref11_In d.1 d.2.1 d.2.2 := by kernel_rfl
abbrev Ok_ref11_In : Prop := OkC Tryz.prog 24 s_ref11_In
theorem mk_ref11_In (h : ∀ (n : Int) (a : Int) (b : Int), (True) → vc_ref11_In n a b) : OkC Tryz.prog 24 s_ref11_In :=
 okC_vc fun24 mixed (C := cx_ref11_In) (V := fun (d : Int × Int × Int) => vc_ref11_In d.1 d.2.1 d.2.2) ⟨.nil, XsOk.nil, ItsOk.nil⟩ (vq_ref11_In) fun d hp => h d.1 d.2.1 d.2.2 hp
theorem ok_ref11_In : Ok_ref11_In := mk_ref11_In fun n a b _ => by
 simp [vc_ref11_In, inI]
def al_ref03_In : AL (Int × Int × Int) := (.cons (.k (.i .i64)) (.cons (.k (.i .i64)) (.one (.k (.i .i64)))))
def pre_ref03_In (d : Int × Int × Int) : Prop := True
def res_ref03_In (d : Int × Int × Int) : SV := .val .bo (inI d.1 d.2.1 d.2.2)
def obs_ref03_In (d : Int × Int × Int) : List OB := []
def s_ref03_In : CSp := mkSp al_ref03_In pre_ref03_In res_ref03_In obs_ref03_In
def vc_ref03_In (n : Int) (a : Int) (b : Int) : Prop :=
 (((decide (n ≥ a)) && (decide (n ≤ b))) = (inI n a b) ∧ (True))
def cx_ref03_In : Cx := ⟨[], [], 15, [], 0, [], [], [], [], false⟩
def lp_ref03_In (n : Int) (a : Int) (b : Int) : List (Nat × LoopAnn) := []
set_option maxRecDepth 100000 in
theorem vq_ref03_In (d : Int × Int × Int) : gwp (cx_ref03_In) (lp_ref03_In d.1 d.2.1 d.2.2) c53 0 (gend [.tmp 6] (res_ref03_In d) (obs_ref03_In d)) (gstart 15 (AL.can al_ref03_In d)) = vc_ref03_In d.1 d.2.1 d.2.2 := by kernel_rfl
abbrev Ok_ref03_In : Prop := OkC Tryz.prog 53 s_ref03_In
theorem mk_ref03_In (h : ∀ (n : Int) (a : Int) (b : Int), (True) → vc_ref03_In n a b) : OkC Tryz.prog 53 s_ref03_In :=
 okC_vc fun53 mixed (C := cx_ref03_In) (V := fun (d : Int × Int × Int) => vc_ref03_In d.1 d.2.1 d.2.2) ⟨.nil, XsOk.nil, ItsOk.nil⟩ (vq_ref03_In) fun d hp => h d.1 d.2.1 d.2.2 hp
theorem ok_ref03_In : Ok_ref03_In := mk_ref03_In fun n a b _ => by
 simp [vc_ref03_In, inI]
def al_ref03_Check : AL (Int × List Int) := (.one (.agg (.cons (.k (.i .i64)) (.one (.k (.list (.i .i64)))))))
def pre_ref03_Check (d : Int × List Int) : Prop := True
def res_ref03_Check (d : Int × List Int) : SV := .val (.i .i64) (tieErr d.1 d.2)
def obs_ref03_Check (d : Int × List Int) : List OB := []
def s_ref03_Check : CSp := mkSp al_ref03_Check pre_ref03_Check res_ref03_Check obs_ref03_Check
def vc_ref03_Check (hk : Int) (lw : List Int) : Prop :=
 (True) ∧ ((!(inI hk (1 : Int) (24 : Int))) = true →
  ((2 : Int) = (tieErr hk lw) ∧ (True))) ∧
 ((!(inI hk (1 : Int) (24 : Int))) = false →
  ((decide ((lI lw) > (96 : Int))) = true →
   ((5 : Int) = (tieErr hk lw) ∧ (True))) ∧
  ((decide ((lI lw) > (96 : Int))) = false →
   (((lI lw) == (0 : Int)) = true →
    ((7 : Int) = (tieErr hk lw) ∧ (True))) ∧
   (((lI lw) == (0 : Int)) = false →
    ∃ (e3 : Unit) (d30 : Int), ((True ∧ (0 : Int) = d30 ∧ True) ∧ ((hk = hk ∧ lw = lw ∧ (([] : List SV) = [])) ∧ True)) ∧
    LoopP (fun (d3 : Int) (q3 : (Int) → Prop) =>
     ((decide (d3 < (lI lw))) = true →
      (0 ≤ d3) ∧ (d3 < (List.length lw)) ∧ (I64 (hk - (1 : Int))) ∧ (True) ∧ ((!(inI (gD lw d3 0) (0 : Int) (hk - (1 : Int)))) = true →
       ((2 : Int) = (tieErr hk lw) ∧ (True))) ∧
      ((!(inI (gD lw d3 0) (0 : Int) (hk - (1 : Int)))) = false →
       (I64 (d3 + (1 : Int))) ∧ (∃ d4 : Int, ((True ∧ (d3 + (1 : Int)) = d4 ∧ True) ∧ ((hk = hk ∧ lw = lw ∧ (([] : List SV) = [])) ∧ True)) ∧ q3 d4))) ∧
     ((decide (d3 < (lI lw))) = false →
      ((0 : Int) = (tieErr hk lw) ∧ (True)))) d30)))
def cx_ref03_Check : Cx := ⟨[], [(53, s_ref03_In)], 33, [], 0, [], [], [], [], false⟩
def lp_ref03_Check (hk : Int) (lw : List Int) : List (Nat × LoopAnn) := [(0, ⟨Unit, Int, [1, 3], fun e x => [.box 1 0, .val (.i .i64) x], fun e x => [(1, .slot 1, .cells [.val (.i .i64) hk, .val (.list (.i .i64)) lw] (some 24))]⟩)]
set_option maxRecDepth 100000 in
theorem vq_ref03_Check (d : Int × List Int) : gwp (cx_ref03_Check) (lp_ref03_Check d.1 d.2) c43 0 (gend [.tmp 2] (res_ref03_Check d) (obs_ref03_Check d)) (gstart 33 (AL.can al_ref03_Check d)) = vc_ref03_Check d.1 d.2 := by kernel_rfl
abbrev Ok_ref03_Check : Prop := OkC Tryz.prog 43 s_ref03_Check
theorem mk_ref03_Check (h : ∀ (hk : Int) (lw : List Int), (True) → vc_ref03_Check hk lw) : OkC Tryz.prog 43 s_ref03_Check :=
 okC_vc fun43 mixed (C := cx_ref03_Check) (V := fun (d : Int × List Int) => vc_ref03_Check d.1 d.2) ⟨(.cons ok_ref03_In .nil), XsOk.nil, ItsOk.nil⟩ (vq_ref03_Check) fun d hp => h d.1 d.2 hp
theorem ok_ref03_Check : Ok_ref03_Check := mk_ref03_Check fun hk lw _ => by
 unfold vc_ref03_Check; (try delta lI gD sT I64); simp only [true_and, and_true, exists_eq_left', exists_const, decide_eq_true_eq, decide_eq_false_iff_not, beq_iff_eq, ne_eq, beq_eq_false_iff_ne, Bool.not_eq_true', Bool.not_eq_false', gt_iff_lt]
 refine ⟨fun h1 => by simp [tieErr, h1], fun h1 => ⟨fun h2 => ?_, fun h2 => ⟨fun h3 => ?_, fun h3 => ?_⟩⟩⟩
 ·have : 96 < lw.length := by omega
  simp [tieErr, h1, this]
 ·have h3 : lw.length = 0 := by omega
  simp [tieErr, h1, h3]
 have h2' : ¬ 96 < lw.length := by omega
 have h3' : ¬ lw.length = 0 := by omega
 have hi : 1 ≤ hk ∧ hk ≤ 24 := by simpa [inI] using h1
 have hte : tieErr hk lw = if lw.any (fun x => !inI x 0 (hk - 1)) then 2 else 0 := by simp only [tieErr, h1, h2', h3']; simp
 refine LoopP.count lw.length (fun k => (lw.take k).any (fun x => !inI x 0 (hk - 1)) = false) (by simp) fun k hk1 hJ q hq => ?_
 simp only [Int.toNat_natCast, Int.ofNat_lt, InK_i64]
 refine ⟨fun hlt => ?_, fun hge => ?_⟩
 ·rw [getD_nat hlt]
  refine ⟨by omega, hlt, by omega, fun hx => ?_, fun hx => ⟨by omega, hq hlt ?_⟩⟩
  ·rw [hte, if_pos (List.any_eq_true.2 ⟨lw[k], List.getElem_mem hlt, by simp [hx]⟩)]
  ·rw [take_succ_eq hlt, List.any_append, hJ]; simp [hx]
 ·rw [List.take_of_length_le (by omega)] at hJ
  rw [hte, hJ]; rfl
def al_law11_ints : AL (List Int) := (.one (.k (.list (.i .i64))))
def pre_law11_ints (d : List Int) : Prop := d.length ≤ 110
def res_law11_ints (d : List Int) : SV := .lst 0
def obs_law11_ints (d : List Int) : List OB := [.lst 3 (.i .i64) d false]
def s_law11_ints : CSp := mkSp al_law11_ints pre_law11_ints res_law11_ints obs_law11_ints
def vc_law11_ints (l : List Int) : Prop :=
 (((List.length ([] : List Int)) + (List.length l)) * 8 ≤ 70368744177664) ∧ (True ∧ (((([] : List Int) ++ l) = l ∧ ((List.isEmpty l) && false) = false) ∧ True))
def cx_law11_ints : Cx := ⟨[(3, (.i .i64))], [], 6, [], 0, [], [], [], [], false⟩
def lp_law11_ints (l : List Int) : List (Nat × LoopAnn) := []
set_option maxRecDepth 100000 in
theorem vq_law11_ints (d : List Int) : gwp (cx_law11_ints) (lp_law11_ints d) c9 0 (gend [.tmp 2] (res_law11_ints d) (obs_law11_ints d)) (gstart 6 (AL.can al_law11_ints d)) = vc_law11_ints d := by kernel_rfl
abbrev Ok_law11_ints : Prop := OkC Tryz.prog 9 s_law11_ints
theorem mk_law11_ints (h : ∀ (l : List Int), (l.length ≤ 110) → vc_law11_ints l) : OkC Tryz.prog 9 s_law11_ints :=
 okC_vc fun9 mixed (C := cx_law11_ints) (V := fun (d : List Int) => vc_law11_ints d) ⟨.nil, XsOk.nil, ItsOk.nil⟩ (vq_law11_ints) fun d hp => h d hp
theorem ok_law11_ints : Ok_law11_ints := mk_law11_ints fun l h => by
 (unfold vc_law11_ints; (try delta lI gD sT I64); simp); omega
def al_law11_own : AL (Int × List Int) := (.one (.agg (.cons (.k (.i .i64)) (.one (.k (.list (.i .i64)))))))
def pre_law11_own (d : Int × List Int) : Prop := d.2.length ≤ 110
def res_law11_own (d : Int × List Int) : SV := .agg [.val (.i .i64) d.1, .lst 0]
def obs_law11_own (d : Int × List Int) : List OB := [.lst 3 (.i .i64) d.2 false]
def s_law11_own : CSp := mkSp al_law11_own pre_law11_own res_law11_own obs_law11_own
def vc_law11_own (hk : Int) (lw : List Int) : Prop :=
 (lw.length ≤ 110) ∧ (false = true → lw = []) ∧ ((hk = hk ∧ True ∧ (([] : List SV) = [])) ∧ ((lw = lw ∧ false = false) ∧ True))
def cx_law11_own : Cx := ⟨[], [(9, s_law11_ints)], 9, [], 0, [], [], [], [], false⟩
def lp_law11_own (hk : Int) (lw : List Int) : List (Nat × LoopAnn) := []
set_option maxRecDepth 100000 in
theorem vq_law11_own (d : Int × List Int) : gwp (cx_law11_own) (lp_law11_own d.1 d.2) c8 0 (gend [.cell 2 true 2] (res_law11_own d) (obs_law11_own d)) (gstart 9 (AL.can al_law11_own d)) = vc_law11_own d.1 d.2 := by kernel_rfl
abbrev Ok_law11_own : Prop := OkC Tryz.prog 8 s_law11_own
theorem mk_law11_own (h : ∀ (hk : Int) (lw : List Int), (lw.length ≤ 110) → vc_law11_own hk lw) : OkC Tryz.prog 8 s_law11_own :=
 okC_vc fun8 mixed (C := cx_law11_own) (V := fun (d : Int × List Int) => vc_law11_own d.1 d.2) ⟨(.cons ok_law11_ints .nil), XsOk.nil, ItsOk.nil⟩ (vq_law11_own) fun d hp => h d.1 d.2 hp
theorem ok_law11_own : Ok_law11_own := mk_law11_own fun hk lw h => by
 simp [vc_law11_own, h]
def al_ref03_Same : AL ((Int × List Int) × Int × List Int) := (.cons (.agg (.cons (.k (.i .i64)) (.one (.k (.list (.i .i64)))))) (.one (.agg (.cons (.k (.i .i64)) (.one (.k (.list (.i .i64))))))))
def pre_ref03_Same (d : (Int × List Int) × Int × List Int) : Prop := d.1.2.length ≤ 1000000
def res_ref03_Same (d : (Int × List Int) × Int × List Int) : SV := .val .bo (decide (d.1.1 = d.2.1) && (d.1.2 == d.2.2))
def obs_ref03_Same (d : (Int × List Int) × Int × List Int) : List OB := []
def s_ref03_Same : CSp := mkSp al_ref03_Same pre_ref03_Same res_ref03_Same obs_ref03_Same
def vc_ref03_Same (hk : Int) (lw : List Int) (hk1 : Int) (lw1 : List Int) : Prop :=
 (((hk != hk1) || ((lI lw) != (lI lw1))) = true →
  (false = (decide (hk = hk1) && (lw == lw1)) ∧ (True))) ∧
 (((hk != hk1) || ((lI lw) != (lI lw1))) = false →
  ∃ (e3 : Unit) (d30 : Int), ((True ∧ True ∧ (0 : Int) = d30 ∧ True) ∧ ((hk = hk ∧ lw = lw ∧ (([] : List SV) = [])) ∧ (hk1 = hk1 ∧ lw1 = lw1 ∧ (([] : List SV) = [])) ∧ True)) ∧
  LoopP (fun (d3 : Int) (q3 : (Int) → Prop) =>
   ((decide (d3 < (lI lw))) = true →
    (0 ≤ d3) ∧ (d3 < (List.length lw)) ∧ (0 ≤ d3) ∧ (d3 < (List.length lw1)) ∧ (((gD lw d3 0) != (gD lw1 d3 0)) = true →
     (false = (decide (hk = hk1) && (lw == lw1)) ∧ (True))) ∧
    (((gD lw d3 0) != (gD lw1 d3 0)) = false →
     (I64 (d3 + (1 : Int))) ∧ (∃ d4 : Int, ((True ∧ True ∧ (d3 + (1 : Int)) = d4 ∧ True) ∧ ((hk = hk ∧ lw = lw ∧ (([] : List SV) = [])) ∧ (hk1 = hk1 ∧ lw1 = lw1 ∧ (([] : List SV) = [])) ∧ True)) ∧ q3 d4))) ∧
   ((decide (d3 < (lI lw))) = false →
    (true = (decide (hk = hk1) && (lw == lw1)) ∧ (True)))) d30)
def cx_ref03_Same : Cx := ⟨[], [], 38, [], 0, [], [], [], [], false⟩
def lp_ref03_Same (hk : Int) (lw : List Int) (hk1 : Int) (lw1 : List Int) : List (Nat × LoopAnn) := [(0, ⟨Unit, Int, [2, 3, 5], fun e x => [.box 2 0, .box 3 0, .val (.i .i64) x], fun e x => [(2, .slot 2, .cells [.val (.i .i64) hk, .val (.list (.i .i64)) lw] (some 24)), (3, .slot 3, .cells [.val (.i .i64) hk1, .val (.list (.i .i64)) lw1] (some 24))]⟩)]
set_option maxRecDepth 100000 in
theorem vq_ref03_Same (d : (Int × List Int) × Int × List Int) : gwp (cx_ref03_Same) (lp_ref03_Same d.1.1 d.1.2 d.2.1 d.2.2) c14 0 (gend [.tmp 4] (res_ref03_Same d) (obs_ref03_Same d)) (gstart 38 (AL.can al_ref03_Same d)) = vc_ref03_Same d.1.1 d.1.2 d.2.1 d.2.2 := by kernel_rfl
abbrev Ok_ref03_Same : Prop := OkC Tryz.prog 14 s_ref03_Same
theorem mk_ref03_Same (h : ∀ (hk : Int) (lw : List Int) (hk1 : Int) (lw1 : List Int), (lw.length ≤ 1000000) → vc_ref03_Same hk lw hk1 lw1) : OkC Tryz.prog 14 s_ref03_Same :=
 okC_vc fun14 mixed (C := cx_ref03_Same) (V := fun (d : (Int × List Int) × Int × List Int) => vc_ref03_Same d.1.1 d.1.2 d.2.1 d.2.2) ⟨.nil, XsOk.nil, ItsOk.nil⟩ (vq_ref03_Same) fun d hp => h d.1.1 d.1.2 d.2.1 d.2.2 hp
theorem ok_ref03_Same : Ok_ref03_Same := mk_ref03_Same fun hk lw hk1 lw1 hl => by
 unfold vc_ref03_Same; (try delta lI gD sT I64); simp only [true_and, and_true, exists_eq_left', exists_const, decide_eq_true_eq, decide_eq_false_iff_not, bne_iff_ne, ne_eq, bne_eq_false_iff_eq, Bool.or_eq_true, Bool.or_eq_false_iff]
 refine ⟨fun h => ?_, fun ⟨h0, h⟩ => ?_⟩
 ·symm; simp only [Bool.and_eq_false_iff, decide_eq_false_iff_not, beq_eq_false_iff_ne]
  rcases h with h | h
  ·exact .inl h
  ·exact .inr (by rintro rfl; exact h rfl)
 have h : lw.length = lw1.length := by omega
 subst h0
 refine LoopP.count lw.length (fun k => lw.take k = lw1.take k) rfl fun k hk1 hJ q hq => ?_
 simp only [Int.toNat_natCast, Int.ofNat_lt, InK_i64]
 refine ⟨fun hlt => ?_, fun hge => ?_⟩
 ·rw [getD_nat hlt, getD_nat (by omega)]
  refine ⟨by omega, hlt, by omega, by omega, fun hx => ?_, fun hx => ⟨by omega, hq hlt ?_⟩⟩
  ·symm; simp only [decide_true, Bool.true_and, beq_eq_false_iff_ne]; rintro rfl; exact hx rfl
  ·rw [take_succ_eq hlt, take_succ_eq (by omega), hJ, hx]
 ·rw [List.take_of_length_le (by omega), List.take_of_length_le (by omega)] at hJ
  simp [hJ]
def al_slices_IndexFunc_int_int : AL (List Int × ((Int → Prop) × (Int → Bool))) := (.cons (.k (.list (.i .i64))) (.one (.fn [(.i .i64)] .bo)))
def pre_slices_IndexFunc_int_int (d : List Int × ((Int → Prop) × (Int → Bool))) : Prop := d.1.length ≤ 1000000 ∧ ∀ x ∈ d.1, d.2.1 x
def res_slices_IndexFunc_int_int (d : List Int × ((Int → Prop) × (Int → Bool))) : SV := .val (.i .i64) (idxF d.1 d.2.2)
def obs_slices_IndexFunc_int_int (d : List Int × ((Int → Prop) × (Int → Bool))) : List OB := []
def s_slices_IndexFunc_int_int : CSp := mkSp al_slices_IndexFunc_int_int pre_slices_IndexFunc_int_int res_slices_IndexFunc_int_int obs_slices_IndexFunc_int_int
def vc_slices_IndexFunc_int_int (l : List Int) (p : (Int → Prop) × (Int → Bool)) : Prop :=
 ∃ (e2 : Unit) (d20 : Int), ((l = l ∧ (SV.pf [(.i .i64)] .bo p.1 p.2 = SV.pf [(.i .i64)] .bo p.1 p.2) ∧ (lI l) = (lI l) ∧ (0 : Int) = d20 ∧ True) ∧ (True)) ∧
 LoopP (fun (d2 : Int) (q2 : (Int) → Prop) =>
  ((decide (d2 < (lI l))) = true →
   (0 ≤ d2) ∧ (d2 < (List.length l)) ∧ (p.1 (gD l d2 0)) ∧ ((p.2 (gD l d2 0)) = true →
    (d2 = (idxF l p.2) ∧ (True))) ∧
   ((p.2 (gD l d2 0)) = false →
    (I64 (d2 + (1 : Int))) ∧ (∃ d3 : Int, ((l = l ∧ (SV.pf [(.i .i64)] .bo p.1 p.2 = SV.pf [(.i .i64)] .bo p.1 p.2) ∧ (lI l) = (lI l) ∧ (d2 + (1 : Int)) = d3 ∧ True) ∧ (True)) ∧ q2 d3))) ∧
  ((decide (d2 < (lI l))) = false →
   ((-1 : Int) = (idxF l p.2) ∧ (True)))) d20
def cx_slices_IndexFunc_int_int : Cx := ⟨[], [], 19, [], 0, [], [], [], [], false⟩
def lp_slices_IndexFunc_int_int (l : List Int) (p : (Int → Prop) × (Int → Bool)) : List (Nat × LoopAnn) := [(0, ⟨Unit, Int, [0, 1, 7, 8], fun e x => [.val (.list (.i .i64)) l, .pf [(.i .i64)] .bo p.1 p.2, .val (.i .i64) (((List.length l) : Nat) : Int), .val (.i .i64) x], fun e x => []⟩)]
set_option maxRecDepth 100000 in
theorem vq_slices_IndexFunc_int_int (d : List Int × ((Int → Prop) × (Int → Bool))) : gwp (cx_slices_IndexFunc_int_int) (lp_slices_IndexFunc_int_int d.1 d.2) c86 0 (gend [.tmp 4] (res_slices_IndexFunc_int_int d) (obs_slices_IndexFunc_int_int d)) (gstart 19 (AL.can al_slices_IndexFunc_int_int d)) = vc_slices_IndexFunc_int_int d.1 d.2 := by kernel_rfl
abbrev Ok_slices_IndexFunc_int_int : Prop := OkC Tryz.prog 86 s_slices_IndexFunc_int_int
theorem mk_slices_IndexFunc_int_int (h : ∀ (l : List Int) (p : (Int → Prop) × (Int → Bool)), (l.length ≤ 1000000 ∧ ∀ x ∈ l, p.1 x) → vc_slices_IndexFunc_int_int l p) : OkC Tryz.prog 86 s_slices_IndexFunc_int_int :=
 okC_vc fun86 mixed (C := cx_slices_IndexFunc_int_int) (V := fun (d : List Int × ((Int → Prop) × (Int → Bool))) => vc_slices_IndexFunc_int_int d.1 d.2) ⟨.nil, XsOk.nil, ItsOk.nil⟩ (vq_slices_IndexFunc_int_int) fun d hp => h d.1 d.2 hp
theorem idxF_some {l : List Int} {p : Int → Bool} {k : Nat} (hk : k < l.length) (h : p l[k] = true) (hJ : (l.take k).any p = false) : idxF l p = k := by
 have : l.findIdx? p = some k := by
  rw [List.findIdx?_eq_some_iff_getElem]
  refine ⟨hk, h, fun j hj => ?_⟩
  have hn := List.any_eq_false.1 hJ l[j] (List.mem_take_iff_getElem.2 ⟨j, by omega, rfl⟩)
  simpa using hn
 simp [idxF, this]
theorem idxF_none {l : List Int} {p : Int → Bool} (hJ : l.any p = false) : idxF l p = -1 := by
 have : l.findIdx? p = none := by
  rw [List.findIdx?_eq_none_iff]
  intro x hx
  have := List.any_eq_false.1 hJ x hx
  simpa using this
 simp [idxF, this]
theorem idxF_nonneg (l : List Int) (p : Int → Bool) : decide (idxF l p ≥ 0) = l.any p := by
 unfold idxF
 cases h : l.findIdx? p with
 | none =>
  have := List.findIdx?_eq_none_iff.1 h
  have : l.any p = false := by rw [List.any_eq_false]; intro x hx; simp [this x hx]
  rw [this]; rfl
 | some i =>
  obtain ⟨h1, h2, _⟩ := List.findIdx?_eq_some_iff_getElem.1 h
  rw [List.any_eq_true.2 ⟨l[i], List.getElem_mem h1, h2⟩]
  simp
theorem ok_slices_IndexFunc_int_int : Ok_slices_IndexFunc_int_int := mk_slices_IndexFunc_int_int fun l p hp => by
 unfold vc_slices_IndexFunc_int_int; (try delta lI gD sT I64); simp only [true_and, and_true, exists_eq_left', exists_const, decide_eq_true_eq, decide_eq_false_iff_not]
 refine LoopP.count l.length (fun k => (l.take k).any p.2 = false) (by simp) fun k hk1 hJ q hq => ?_
 simp only [Int.toNat_natCast, Int.ofNat_lt, InK_i64]
 refine ⟨fun hlt => ?_, fun hge => ?_⟩
 ·rw [getD_nat hlt]
  refine ⟨by omega, hlt, hp.2 _ (List.getElem_mem hlt), fun hx => ?_, fun hx => ⟨by omega, hq hlt ?_⟩⟩
  ·rw [idxF_some hlt hx hJ]
  ·rw [take_succ_eq hlt, List.any_append, hJ]; simp [hx]
 ·rw [List.take_of_length_le (by omega)] at hJ
  rw [idxF_none hJ]
def al_slices_ContainsFunc_int_int : AL (List Int × ((Int → Prop) × (Int → Bool))) := (.cons (.k (.list (.i .i64))) (.one (.fn [(.i .i64)] .bo)))
def pre_slices_ContainsFunc_int_int (d : List Int × ((Int → Prop) × (Int → Bool))) : Prop := d.1.length ≤ 1000000 ∧ ∀ x ∈ d.1, d.2.1 x
def res_slices_ContainsFunc_int_int (d : List Int × ((Int → Prop) × (Int → Bool))) : SV := .val .bo (d.1.any d.2.2)
def obs_slices_ContainsFunc_int_int (d : List Int × ((Int → Prop) × (Int → Bool))) : List OB := []
def s_slices_ContainsFunc_int_int : CSp := mkSp al_slices_ContainsFunc_int_int pre_slices_ContainsFunc_int_int res_slices_ContainsFunc_int_int obs_slices_ContainsFunc_int_int
def vc_slices_ContainsFunc_int_int (l : List Int) (p : (Int → Prop) × (Int → Bool)) : Prop :=
 (l.length ≤ 1000000 ∧ ∀ x ∈ l, (fun (x1 : Int) => p.1 x1) x) ∧ ((decide ((idxF l (fun (x1 : Int) => (p.2 x1))) ≥ (0 : Int))) = (l.any p.2) ∧ (True))
def cx_slices_ContainsFunc_int_int : Cx := ⟨[], [(86, s_slices_IndexFunc_int_int)], 9, [], 0, [], [], [], [], false⟩
def lp_slices_ContainsFunc_int_int (l : List Int) (p : (Int → Prop) × (Int → Bool)) : List (Nat × LoopAnn) := []
set_option maxRecDepth 100000 in
theorem vq_slices_ContainsFunc_int_int (d : List Int × ((Int → Prop) × (Int → Bool))) : gwp (cx_slices_ContainsFunc_int_int) (lp_slices_ContainsFunc_int_int d.1 d.2) c71 0 (gend [.tmp 4] (res_slices_ContainsFunc_int_int d) (obs_slices_ContainsFunc_int_int d)) (gstart 9 (AL.can al_slices_ContainsFunc_int_int d)) = vc_slices_ContainsFunc_int_int d.1 d.2 := by kernel_rfl
abbrev Ok_slices_ContainsFunc_int_int : Prop := OkC Tryz.prog 71 s_slices_ContainsFunc_int_int
theorem mk_slices_ContainsFunc_int_int (h : ∀ (l : List Int) (p : (Int → Prop) × (Int → Bool)), (l.length ≤ 1000000 ∧ ∀ x ∈ l, p.1 x) → vc_slices_ContainsFunc_int_int l p) : OkC Tryz.prog 71 s_slices_ContainsFunc_int_int :=
 okC_vc fun71 mixed (C := cx_slices_ContainsFunc_int_int) (V := fun (d : List Int × ((Int → Prop) × (Int → Bool))) => vc_slices_ContainsFunc_int_int d.1 d.2) ⟨(.cons ok_slices_IndexFunc_int_int .nil), XsOk.nil, ItsOk.nil⟩ (vq_slices_ContainsFunc_int_int) fun d hp => h d.1 d.2 hp
theorem ok_slices_ContainsFunc_int_int : Ok_slices_ContainsFunc_int_int := mk_slices_ContainsFunc_int_int fun l p hp => by
 exact ⟨hp, idxF_nonneg l p.2, trivial⟩
def al_eye_within_1 : AL (Int × Int × Int) := (.cons (.k (.i .i64)) (.cons (.ptr (.one (.k (.i .i64)))) (.one (.ptr (.one (.k (.i .i64)))))))
def pre_eye_within_1 (d : Int × Int × Int) : Prop := True
def res_eye_within_1 (d : Int × Int × Int) : SV := .val .bo (decide (d.1 < d.2.1) || decide (d.2.2 < d.1))
def obs_eye_within_1 (d : Int × Int × Int) : List OB := []
def s_eye_within_1 : CSp := mkSp al_eye_within_1 pre_eye_within_1 res_eye_within_1 obs_eye_within_1
def vc_eye_within_1 (n : Int) (a : Int) (b : Int) : Prop :=
 (((decide (n < a)) || (decide (n > b))) = (decide (n < a) || decide (b < n)) ∧ (True))
def cx_eye_within_1 : Cx := ⟨[], [], 13, [], 0, [], [], [], [], false⟩
def lp_eye_within_1 (n : Int) (a : Int) (b : Int) : List (Nat × LoopAnn) := []
set_option maxRecDepth 100000 in
theorem vq_eye_within_1 (d : Int × Int × Int) : gwp (cx_eye_within_1) (lp_eye_within_1 d.1 d.2.1 d.2.2) c72 0 (gend [.tmp 4] (res_eye_within_1 d) (obs_eye_within_1 d)) (gstart 13 (AL.can al_eye_within_1 d)) = vc_eye_within_1 d.1 d.2.1 d.2.2 := by kernel_rfl
abbrev Ok_eye_within_1 : Prop := OkC Tryz.prog 72 s_eye_within_1
theorem mk_eye_within_1 (h : ∀ (n : Int) (a : Int) (b : Int), (True) → vc_eye_within_1 n a b) : OkC Tryz.prog 72 s_eye_within_1 :=
 okC_vc fun72 mixed (C := cx_eye_within_1) (V := fun (d : Int × Int × Int) => vc_eye_within_1 d.1 d.2.1 d.2.2) ⟨.nil, XsOk.nil, ItsOk.nil⟩ (vq_eye_within_1) fun d hp => h d.1 d.2.1 d.2.2 hp
theorem ok_eye_within_1 : Ok_eye_within_1 := mk_eye_within_1 fun n a b _ => by
 exact ⟨rfl, trivial⟩
def al_tie_within_1 : AL (Int × Int × Int) := (.cons (.k (.i .i64)) (.cons (.ptr (.one (.k (.i .i64)))) (.one (.ptr (.one (.k (.i .i64)))))))
def pre_tie_within_1 (d : Int × Int × Int) : Prop := True
def res_tie_within_1 (d : Int × Int × Int) : SV := .val .bo (decide (d.1 < d.2.1) || decide (d.2.2 < d.1))
def obs_tie_within_1 (d : Int × Int × Int) : List OB := []
def s_tie_within_1 : CSp := mkSp al_tie_within_1 pre_tie_within_1 res_tie_within_1 obs_tie_within_1
def vc_tie_within_1 (n : Int) (a : Int) (b : Int) : Prop :=
 (((decide (n < a)) || (decide (n > b))) = (decide (n < a) || decide (b < n)) ∧ (True))
def cx_tie_within_1 : Cx := ⟨[], [], 13, [], 0, [], [], [], [], false⟩
def lp_tie_within_1 (n : Int) (a : Int) (b : Int) : List (Nat × LoopAnn) := []
set_option maxRecDepth 100000 in
theorem vq_tie_within_1 (d : Int × Int × Int) : gwp (cx_tie_within_1) (lp_tie_within_1 d.1 d.2.1 d.2.2) c85 0 (gend [.tmp 4] (res_tie_within_1 d) (obs_tie_within_1 d)) (gstart 13 (AL.can al_tie_within_1 d)) = vc_tie_within_1 d.1 d.2.1 d.2.2 := by kernel_rfl
abbrev Ok_tie_within_1 : Prop := OkC Tryz.prog 85 s_tie_within_1
theorem mk_tie_within_1 (h : ∀ (n : Int) (a : Int) (b : Int), (True) → vc_tie_within_1 n a b) : OkC Tryz.prog 85 s_tie_within_1 :=
 okC_vc fun85 mixed (C := cx_tie_within_1) (V := fun (d : Int × Int × Int) => vc_tie_within_1 d.1 d.2.1 d.2.2) ⟨.nil, XsOk.nil, ItsOk.nil⟩ (vq_tie_within_1) fun d hp => h d.1 d.2.1 d.2.2 hp
theorem ok_tie_within_1 : Ok_tie_within_1 := mk_tie_within_1 fun n a b _ => by
 exact ⟨rfl, trivial⟩
def al_tie_within : AL (Int × Int × List Int) := (.cons (.k (.i .i64)) (.cons (.k (.i .i64)) (.one (.k (.list (.i .i64))))))
def pre_tie_within (d : Int × Int × List Int) : Prop := d.2.2.length ≤ 1000000
def res_tie_within (d : Int × Int × List Int) : SV := .val .bo (!(d.2.2.any fun n => decide (n < d.1) || decide (d.2.1 < n)))
def obs_tie_within (d : Int × Int × List Int) : List OB := []
def s_tie_within : CSp := mkSp al_tie_within pre_tie_within res_tie_within obs_tie_within
def vc_tie_within (a : Int) (b : Int) (l : List Int) : Prop :=
 (l.length ≤ 1000000 ∧ ∀ x ∈ l, (fun (x1 : Int) => True) x) ∧ ((!(l.any (fun (x1 : Int) => (decide (x1 < a) || decide (b < x1))))) = (!(l.any fun n => decide (n < a) || decide (b < n))) ∧ (True))
def cx_tie_within : Cx := ⟨[], [(71, s_slices_ContainsFunc_int_int), (85, s_tie_within_1)], 11, [], 0, [], [], [], [], false⟩
def lp_tie_within (a : Int) (b : Int) (l : List Int) : List (Nat × LoopAnn) := []
set_option maxRecDepth 100000 in
theorem vq_tie_within (d : Int × Int × List Int) : gwp (cx_tie_within) (lp_tie_within d.1 d.2.1 d.2.2) c70 0 (gend [.tmp 6] (res_tie_within d) (obs_tie_within d)) (gstart 11 (AL.can al_tie_within d)) = vc_tie_within d.1 d.2.1 d.2.2 := by kernel_rfl
abbrev Ok_tie_within : Prop := OkC Tryz.prog 70 s_tie_within
theorem mk_tie_within (h : ∀ (a : Int) (b : Int) (l : List Int), (l.length ≤ 1000000) → vc_tie_within a b l) : OkC Tryz.prog 70 s_tie_within :=
 okC_vc fun70 mixed (C := cx_tie_within) (V := fun (d : Int × Int × List Int) => vc_tie_within d.1 d.2.1 d.2.2) ⟨(.cons ok_slices_ContainsFunc_int_int (.cons ok_tie_within_1 .nil)), XsOk.nil, ItsOk.nil⟩ (vq_tie_within) fun d hp => h d.1 d.2.1 d.2.2 hp
theorem ok_tie_within : Ok_tie_within := mk_tie_within fun a b l h => by
 exact ⟨⟨h, fun _ _ => trivial⟩, rfl, trivial⟩
def al_eye_within : AL (Int × Int × List Int) := (.cons (.k (.i .i64)) (.cons (.k (.i .i64)) (.one (.k (.list (.i .i64))))))
def pre_eye_within (d : Int × Int × List Int) : Prop := d.2.2.length ≤ 1000000
def res_eye_within (d : Int × Int × List Int) : SV := .val .bo (!(d.2.2.any fun n => decide (n < d.1) || decide (d.2.1 < n)))
def obs_eye_within (d : Int × Int × List Int) : List OB := []
def s_eye_within : CSp := mkSp al_eye_within pre_eye_within res_eye_within obs_eye_within
def vc_eye_within (a : Int) (b : Int) (l : List Int) : Prop :=
 (l.length ≤ 1000000 ∧ ∀ x ∈ l, (fun (x1 : Int) => True) x) ∧ ((!(l.any (fun (x1 : Int) => (decide (x1 < a) || decide (b < x1))))) = (!(l.any fun n => decide (n < a) || decide (b < n))) ∧ (True))
def cx_eye_within : Cx := ⟨[], [(71, s_slices_ContainsFunc_int_int), (72, s_eye_within_1)], 11, [], 0, [], [], [], [], false⟩
def lp_eye_within (a : Int) (b : Int) (l : List Int) : List (Nat × LoopAnn) := []
set_option maxRecDepth 100000 in
theorem vq_eye_within (d : Int × Int × List Int) : gwp (cx_eye_within) (lp_eye_within d.1 d.2.1 d.2.2) c39 0 (gend [.tmp 6] (res_eye_within d) (obs_eye_within d)) (gstart 11 (AL.can al_eye_within d)) = vc_eye_within d.1 d.2.1 d.2.2 := by kernel_rfl
abbrev Ok_eye_within : Prop := OkC Tryz.prog 39 s_eye_within
theorem mk_eye_within (h : ∀ (a : Int) (b : Int) (l : List Int), (l.length ≤ 1000000) → vc_eye_within a b l) : OkC Tryz.prog 39 s_eye_within :=
 okC_vc fun39 mixed (C := cx_eye_within) (V := fun (d : Int × Int × List Int) => vc_eye_within d.1 d.2.1 d.2.2) ⟨(.cons ok_slices_ContainsFunc_int_int (.cons ok_eye_within_1 .nil)), XsOk.nil, ItsOk.nil⟩ (vq_eye_within) fun d hp => h d.1 d.2.1 d.2.2 hp
theorem ok_eye_within : Ok_eye_within := mk_eye_within fun a b l h => by
 exact ⟨⟨h, fun _ _ => trivial⟩, rfl, trivial⟩
def al_tie_Check : AL (Int × List Int) := (.one (.agg (.cons (.k (.i .i64)) (.one (.k (.list (.i .i64)))))))
def pre_tie_Check (d : Int × List Int) : Prop := d.2.length ≤ 1000000
def res_tie_Check (d : Int × List Int) : SV := .val (.i .i64) (tieErr d.1 d.2)
def obs_tie_Check (d : Int × List Int) : List OB := []
def s_tie_Check : CSp := mkSp al_tie_Check pre_tie_Check res_tie_Check obs_tie_Check
def vc_tie_Check (hk : Int) (lw : List Int) : Prop :=
 ([hk].length ≤ 1000000) ∧ ((!(!([hk].any fun n => decide (n < (1 : Int)) || decide ((24 : Int) < n)))) = true →
  ((2 : Int) = (tieErr hk lw) ∧ (True))) ∧
 ((!(!([hk].any fun n => decide (n < (1 : Int)) || decide ((24 : Int) < n)))) = false →
  ((decide ((lI lw) > (96 : Int))) = true →
   ((5 : Int) = (tieErr hk lw) ∧ (True))) ∧
  ((decide ((lI lw) > (96 : Int))) = false →
   (((lI lw) == (0 : Int)) = true →
    ((7 : Int) = (tieErr hk lw) ∧ (True))) ∧
   (((lI lw) == (0 : Int)) = false →
    (I64 (hk - (1 : Int))) ∧ (lw.length ≤ 1000000) ∧ ((!(!(lw.any fun n => decide (n < (0 : Int)) || decide ((hk - (1 : Int)) < n)))) = true →
     ((2 : Int) = (tieErr hk lw) ∧ (True))) ∧
    ((!(!(lw.any fun n => decide (n < (0 : Int)) || decide ((hk - (1 : Int)) < n)))) = false →
     ((0 : Int) = (tieErr hk lw) ∧ (True))))))
def cx_tie_Check : Cx := ⟨[(3, (.i .i64))], [(70, s_tie_within)], 27, [], 0, [], [], [], [], false⟩
def lp_tie_Check (hk : Int) (lw : List Int) : List (Nat × LoopAnn) := []
set_option maxRecDepth 100000 in
theorem vq_tie_Check (d : Int × List Int) : gwp (cx_tie_Check) (lp_tie_Check d.1 d.2) c38 0 (gend [.tmp 2] (res_tie_Check d) (obs_tie_Check d)) (gstart 27 (AL.can al_tie_Check d)) = vc_tie_Check d.1 d.2 := by kernel_rfl
abbrev Ok_tie_Check : Prop := OkC Tryz.prog 38 s_tie_Check
theorem mk_tie_Check (h : ∀ (hk : Int) (lw : List Int), (lw.length ≤ 1000000) → vc_tie_Check hk lw) : OkC Tryz.prog 38 s_tie_Check :=
 okC_vc fun38 mixed (C := cx_tie_Check) (V := fun (d : Int × List Int) => vc_tie_Check d.1 d.2) ⟨(.cons ok_tie_within .nil), XsOk.nil, ItsOk.nil⟩ (vq_tie_Check) fun d hp => h d.1 d.2 hp
theorem nI (n a b : Int) : (!inI n a b) = (decide (n < a) || decide (b < n)) := by
 simp only [inI, Bool.not_and]
 by_cases h1 : a ≤ n <;> by_cases h2 : n ≤ b <;> simp [h1, h2] <;> omega
theorem ok_tie_Check : Ok_tie_Check := mk_tie_Check fun hk lw hl => by
 unfold vc_tie_Check; (try delta lI gD sT I64); simp only [and_true, decide_eq_true_eq, decide_eq_false_iff_not, beq_iff_eq, ne_eq, beq_eq_false_iff_ne, gt_iff_lt, Bool.not_not]
 simp only [← nI]
 refine ⟨by simp, fun h1 => by simp at h1; simp [tieErr, h1], fun h1 => ⟨fun h2 => ?_, fun h2 => ⟨fun h3 => ?_, fun h3 => ?_⟩⟩⟩
 all_goals simp only [List.any_cons, List.any_nil, Bool.or_false, Bool.not_eq_false'] at h1
 ·have : 96 < lw.length := by omega
  simp [tieErr, h1, this]
 ·have h3 : lw.length = 0 := by omega
  simp [tieErr, h1, h3]
 have h2' : ¬ 96 < lw.length := by omega
 have h3' : ¬ lw.length = 0 := by omega
 have hi : 1 ≤ hk ∧ hk ≤ 24 := by simpa [inI] using h1
 have hte : tieErr hk lw = if lw.any (fun x => !inI x 0 (hk - 1)) then 2 else 0 := by simp only [tieErr, h1, h2', h3']; simp
 rw [hte]
 simp only [InK_i64]
 refine ⟨by omega, by omega, fun h => by rw [if_pos h], fun h => by rw [h]; rfl⟩
def al_law11_large : AL ((Int × List Int) × List Int × Int × List Int) := (.cons (.agg (.cons (.k (.i .i64)) (.one (.k (.list (.i .i64)))))) (.cons (.k (.list (.i .i64))) (.one (.agg (.cons (.k (.i .i64)) (.one (.k (.list (.i .i64)))))))))
def pre_law11_large (d : (Int × List Int) × List Int × Int × List Int) : Prop := True
def res_law11_large (d : (Int × List Int) × List Int × Int × List Int) : SV := .val .bo (decide (110 < d.1.2.length) || decide (110 < d.2.1.length) || decide (70 < d.2.2.2.length))
def obs_law11_large (d : (Int × List Int) × List Int × Int × List Int) : List OB := []
def s_law11_large : CSp := mkSp al_law11_large pre_law11_large res_law11_large obs_law11_large
def vc_law11_large (hk : Int) (lw : List Int) (l : List Int) (hk1 : Int) (rows : List Int) : Prop :=
 ((((decide ((lI lw) > (110 : Int))) || (decide ((lI l) > (110 : Int)))) || (decide ((lI rows) > (70 : Int)))) = (decide (110 < lw.length) || decide (110 < l.length) || decide (70 < rows.length)) ∧ (True))
def cx_law11_large : Cx := ⟨[], [], 22, [], 0, [], [], [], [], false⟩
def lp_law11_large (hk : Int) (lw : List Int) (l : List Int) (hk1 : Int) (rows : List Int) : List (Nat × LoopAnn) := []
set_option maxRecDepth 100000 in
theorem vq_law11_large (d : (Int × List Int) × List Int × Int × List Int) : gwp (cx_law11_large) (lp_law11_large d.1.1 d.1.2 d.2.1 d.2.2.1 d.2.2.2) c6 0 (gend [.tmp 6] (res_law11_large d) (obs_law11_large d)) (gstart 22 (AL.can al_law11_large d)) = vc_law11_large d.1.1 d.1.2 d.2.1 d.2.2.1 d.2.2.2 := by kernel_rfl
abbrev Ok_law11_large : Prop := OkC Tryz.prog 6 s_law11_large
theorem mk_law11_large (h : ∀ (hk : Int) (lw : List Int) (l : List Int) (hk1 : Int) (rows : List Int), (True) → vc_law11_large hk lw l hk1 rows) : OkC Tryz.prog 6 s_law11_large :=
 okC_vc fun6 mixed (C := cx_law11_large) (V := fun (d : (Int × List Int) × List Int × Int × List Int) => vc_law11_large d.1.1 d.1.2 d.2.1 d.2.2.1 d.2.2.2) ⟨.nil, XsOk.nil, ItsOk.nil⟩ (vq_law11_large) fun d hp => h d.1.1 d.1.2 d.2.1 d.2.2.1 d.2.2.2 hp
theorem ok_law11_large : Ok_law11_large := mk_law11_large fun hk lw l hk1 rows _ => by
 unfold vc_law11_large; (try delta lI gD sT I64); simp only [and_true, gt_iff_lt]
 congr 1
 ·congr 1
  ·simp only [decide_eq_decide]; omega
  ·simp only [decide_eq_decide]; omega
 ·simp only [decide_eq_decide]; omega
end Go.Proofs.Tryz
set_option linter.unusedVariables false
namespace Go.Proofs.Tryz
open Go Go.V Go.Proofs
def al_point_within_1 : AL (Int × Int × Int) := (.cons (.k (.i .i64)) (.cons (.ptr (.one (.k (.i .i64)))) (.one (.ptr (.one (.k (.i .i64)))))))
def pre_point_within_1 (d : Int × Int × Int) : Prop := True
def res_point_within_1 (d : Int × Int × Int) : SV := .val .bo (decide (d.1 < d.2.1) || decide (d.2.2 < d.1))
def obs_point_within_1 (d : Int × Int × Int) : List OB := []
def s_point_within_1 : CSp := mkSp al_point_within_1 pre_point_within_1 res_point_within_1 obs_point_within_1
def vc_point_within_1 (n : Int) (a : Int) (b : Int) : Prop :=
 (((decide (n < a)) || (decide (n > b))) = (decide (n < a) || decide (b < n)) ∧ (True))
def cx_point_within_1 : Cx := ⟨[], [], 13, [], 0, [], [], [], [], false⟩
def lp_point_within_1 (n : Int) (a : Int) (b : Int) : List (Nat × LoopAnn) := []
set_option maxRecDepth 100000 in
theorem vq_point_within_1 (d : Int × Int × Int) : gwp (cx_point_within_1) (lp_point_within_1 d.1 d.2.1 d.2.2) c103 0 (gend [.tmp 4] (res_point_within_1 d) (obs_point_within_1 d)) (gstart 13 (AL.can al_point_within_1 d)) = vc_point_within_1 d.1 d.2.1 d.2.2 := by kernel_rfl
abbrev Ok_point_within_1 : Prop := OkC Tryz.prog 103 s_point_within_1
theorem mk_point_within_1 (h : ∀ (n : Int) (a : Int) (b : Int), (True) → vc_point_within_1 n a b) : OkC Tryz.prog 103 s_point_within_1 :=
 okC_vc fun103 mixed (C := cx_point_within_1) (V := fun (d : Int × Int × Int) => vc_point_within_1 d.1 d.2.1 d.2.2) ⟨.nil, XsOk.nil, ItsOk.nil⟩ (vq_point_within_1) fun d hp => h d.1 d.2.1 d.2.2 hp
theorem ok_point_within_1 : Ok_point_within_1 := mk_point_within_1 fun n a b _ => by
 exact ⟨rfl, trivial⟩
def al_point_within : AL (Int × Int × List Int) := (.cons (.k (.i .i64)) (.cons (.k (.i .i64)) (.one (.k (.list (.i .i64))))))
def pre_point_within (d : Int × Int × List Int) : Prop := d.2.2.length ≤ 1000000
def res_point_within (d : Int × Int × List Int) : SV := .val .bo (!(d.2.2.any fun n => decide (n < d.1) || decide (d.2.1 < n)))
def obs_point_within (d : Int × Int × List Int) : List OB := []
def s_point_within : CSp := mkSp al_point_within pre_point_within res_point_within obs_point_within
def vc_point_within (a : Int) (b : Int) (l : List Int) : Prop :=
 (l.length ≤ 1000000 ∧ ∀ x ∈ l, (fun (x1 : Int) => True) x) ∧ ((!(l.any (fun (x1 : Int) => (decide (x1 < a) || decide (b < x1))))) = (!(l.any fun n => decide (n < a) || decide (b < n))) ∧ (True))
def cx_point_within : Cx := ⟨[], [(71, s_slices_ContainsFunc_int_int), (103, s_point_within_1)], 11, [], 0, [], [], [], [], false⟩
def lp_point_within (a : Int) (b : Int) (l : List Int) : List (Nat × LoopAnn) := []
set_option maxRecDepth 100000 in
theorem vq_point_within (d : Int × Int × List Int) : gwp (cx_point_within) (lp_point_within d.1 d.2.1 d.2.2) c87 0 (gend [.tmp 6] (res_point_within d) (obs_point_within d)) (gstart 11 (AL.can al_point_within d)) = vc_point_within d.1 d.2.1 d.2.2 := by kernel_rfl
abbrev Ok_point_within : Prop := OkC Tryz.prog 87 s_point_within
theorem mk_point_within (h : ∀ (a : Int) (b : Int) (l : List Int), (l.length ≤ 1000000) → vc_point_within a b l) : OkC Tryz.prog 87 s_point_within :=
 okC_vc fun87 mixed (C := cx_point_within) (V := fun (d : Int × Int × List Int) => vc_point_within d.1 d.2.1 d.2.2) ⟨(.cons ok_slices_ContainsFunc_int_int (.cons ok_point_within_1 .nil)), XsOk.nil, ItsOk.nil⟩ (vq_point_within) fun d hp => h d.1 d.2.1 d.2.2 hp
theorem ok_point_within : Ok_point_within := mk_point_within fun a b l h => by
 exact ⟨⟨h, fun _ _ => trivial⟩, rfl, trivial⟩
def al_point_Check : AL (Int × List Int) := (.one (.agg (.cons (.k (.i .i64)) (.one (.k (.list (.i .i64)))))))
def pre_point_Check (d : Int × List Int) : Prop := d.2.length ≤ 1000000
def res_point_Check (d : Int × List Int) : SV := .val (.i .i64) (pointErr d.1 d.2)
def obs_point_Check (d : Int × List Int) : List OB := []
def s_point_Check : CSp := mkSp al_point_Check pre_point_Check res_point_Check obs_point_Check
def vc_point_Check (hd : Int) (rows : List Int) : Prop :=
 ([hd].length ≤ 1000000) ∧ ((!(!([hd].any fun n => decide (n < (1 : Int)) || decide ((24 : Int) < n)))) = true →
  ((2 : Int) = (pointErr hd rows) ∧ (True))) ∧
 ((!(!([hd].any fun n => decide (n < (1 : Int)) || decide ((24 : Int) < n)))) = false →
  ((decide ((lI rows) > (60 : Int))) = true →
   ((5 : Int) = (pointErr hd rows) ∧ (True))) ∧
  ((decide ((lI rows) > (60 : Int))) = false →
   (((lI rows) == (0 : Int)) = true →
    ((7 : Int) = (pointErr hd rows) ∧ (True))) ∧
   (((lI rows) == (0 : Int)) = false →
    (0 ≤ hd) ∧ (I64 (shlI .i64 (1 : Int) hd)) ∧ (I64 ((shlI .i64 (1 : Int) hd) - (1 : Int))) ∧ (rows.length ≤ 1000000) ∧ ((!(!(rows.any fun n => decide (n < (0 : Int)) || decide (((shlI .i64 (1 : Int) hd) - (1 : Int)) < n)))) = true →
     ((2 : Int) = (pointErr hd rows) ∧ (True))) ∧
    ((!(!(rows.any fun n => decide (n < (0 : Int)) || decide (((shlI .i64 (1 : Int) hd) - (1 : Int)) < n)))) = false →
     ((0 : Int) = (pointErr hd rows) ∧ (True))))))
def cx_point_Check : Cx := ⟨[(3, (.i .i64))], [(87, s_point_within)], 28, [], 0, [], [], [], [], false⟩
def lp_point_Check (hd : Int) (rows : List Int) : List (Nat × LoopAnn) := []
set_option maxRecDepth 100000 in
theorem vq_point_Check (d : Int × List Int) : gwp (cx_point_Check) (lp_point_Check d.1 d.2) c73 0 (gend [.tmp 2] (res_point_Check d) (obs_point_Check d)) (gstart 28 (AL.can al_point_Check d)) = vc_point_Check d.1 d.2 := by kernel_rfl
abbrev Ok_point_Check : Prop := OkC Tryz.prog 73 s_point_Check
theorem mk_point_Check (h : ∀ (hd : Int) (rows : List Int), (rows.length ≤ 1000000) → vc_point_Check hd rows) : OkC Tryz.prog 73 s_point_Check :=
 okC_vc fun73 mixed (C := cx_point_Check) (V := fun (d : Int × List Int) => vc_point_Check d.1 d.2) ⟨(.cons ok_point_within .nil), XsOk.nil, ItsOk.nil⟩ (vq_point_Check) fun d hp => h d.1 d.2 hp
theorem shl_one {h : Int} (h1 : 0 ≤ h) (h2 : h ≤ 62) : shlI .i64 1 h = 2 ^ h.toNat := by
 obtain ⟨n, rfl⟩ := Int.eq_ofNat_of_zero_le h1
 have : Nat.min n 64 = n := Nat.min_eq_left (by omega)
 simp only [shlI, Int.toNat_natCast, IntKind.bits, this, Int.one_mul]
theorem pow_bound {h : Int} (h1 : 1 ≤ h) (h2 : h ≤ 24) : (2 : Int) ≤ 2 ^ h.toNat ∧ (2 : Int) ^ h.toNat ≤ 16777216 := by
 obtain ⟨n, rfl⟩ := Int.eq_ofNat_of_zero_le (show 0 ≤ h by omega)
 have a1 : 2 ^ 1 ≤ 2 ^ n := Nat.pow_le_pow_right (by omega) (by omega)
 have a2 : 2 ^ n ≤ 2 ^ 24 := Nat.pow_le_pow_right (by omega) (by omega)
 simp only [Int.toNat_natCast]
 have e : ((2 : Int) ^ n) = ((2 ^ n : Nat) : Int) := by norm_cast
 rw [e]
 omega
theorem ok_point_Check : Ok_point_Check := mk_point_Check fun hd rows hl => by
 unfold vc_point_Check; (try delta lI gD sT I64); simp only [and_true, decide_eq_true_eq, decide_eq_false_iff_not, beq_iff_eq, ne_eq, beq_eq_false_iff_ne, gt_iff_lt, Bool.not_not]
 simp only [← nI]
 refine ⟨by simp, fun h1 => by simp at h1; simp [pointErr, h1], fun h1 => ⟨fun h2 => ?_, fun h2 => ⟨fun h3 => ?_, fun h3 => ?_⟩⟩⟩
 all_goals simp only [List.any_cons, List.any_nil, Bool.or_false, Bool.not_eq_false'] at h1
 ·have : 60 < rows.length := by omega
  simp [pointErr, h1, this]
 ·have h3 : rows.length = 0 := by omega
  simp [pointErr, h1, h3]
 have h2' : ¬ 60 < rows.length := by omega
 have h3' : ¬ rows.length = 0 := by omega
 have hi : 1 ≤ hd ∧ hd ≤ 24 := by simpa [inI] using h1
 have hp := pow_bound hi.1 hi.2
 have hte : pointErr hd rows = if rows.any (fun x => !inI x 0 (2 ^ hd.toNat - 1)) then 2 else 0 := by simp only [pointErr, h1, h2', h3']; simp
 rw [hte]
 simp only [InK_i64, shl_one (show 0 ≤ hd by omega) (by omega)]
 refine ⟨by omega, by omega, by omega, by omega, fun h => by rw [if_pos h], fun h => by rw [h]; rfl⟩
end Go.Proofs.Tryz
set_option linter.unusedVariables false
namespace Go.Proofs.Tryz
open Go Go.V Go.Proofs
theorem pointErr_zero {hd : Int} {rows : List Int} (h : pointErr hd rows = 0) : 1 ≤ hd ∧ hd ≤ 24 ∧ rows.length ≤ 60 ∧ rows.length ≠ 0 ∧ ∀ x ∈ rows, 0 ≤ x ∧ x < 2 ^ hd.toNat := by
 unfold pointErr at h
 split at h
 ·cases h
 ·rename_i h1
  split at h
  ·cases h
  ·rename_i h2
   split at h
   ·cases h
   ·rename_i h3
    split at h
    ·cases h
    ·rename_i h4
     have h1 : 1 ≤ hd ∧ hd ≤ 24 := by simpa [inI] using h1
     refine ⟨h1.1, h1.2, by omega, h3, fun x hx => ?_⟩
     have h5 : ∀ x ∈ rows, inI x 0 (2 ^ hd.toNat - 1) = true := by simpa using h4
     have := h5 x hx
     simp only [inI, Bool.and_eq_true, decide_eq_true_eq] at this
     omega
end Go.Proofs.Tryz
set_option linter.unusedVariables false
namespace Go.Proofs.Tryz
open Go Go.V Go.Proofs
def al_law11_ours : AL (Int × List Int) := (.one (.agg (.cons (.k (.i .i64)) (.one (.k (.list (.i .i64)))))))
def pre_law11_ours (d : Int × List Int) : Prop := d.2.length ≤ 110
def res_law11_ours (d : Int × List Int) : SV := .agg [.val (.i .i64) d.1, .lst 0]
def obs_law11_ours (d : Int × List Int) : List OB := [.lst 3 (.i .i64) d.2 false]
def s_law11_ours : CSp := mkSp al_law11_ours pre_law11_ours res_law11_ours obs_law11_ours
def vc_law11_ours (hd : Int) (rows : List Int) : Prop :=
 (rows.length ≤ 110) ∧ (false = true → rows = []) ∧ ((hd = hd ∧ True ∧ (([] : List SV) = [])) ∧ ((rows = rows ∧ false = false) ∧ True))
def cx_law11_ours : Cx := ⟨[], [(9, s_law11_ints)], 9, [], 0, [], [], [], [], false⟩
def lp_law11_ours (hd : Int) (rows : List Int) : List (Nat × LoopAnn) := []
set_option maxRecDepth 100000 in
theorem vq_law11_ours (d : Int × List Int) : gwp (cx_law11_ours) (lp_law11_ours d.1 d.2) c10 0 (gend [.cell 2 true 2] (res_law11_ours d) (obs_law11_ours d)) (gstart 9 (AL.can al_law11_ours d)) = vc_law11_ours d.1 d.2 := by kernel_rfl
abbrev Ok_law11_ours : Prop := OkC Tryz.prog 10 s_law11_ours
theorem mk_law11_ours (h : ∀ (hd : Int) (rows : List Int), (rows.length ≤ 110) → vc_law11_ours hd rows) : OkC Tryz.prog 10 s_law11_ours :=
 okC_vc fun10 mixed (C := cx_law11_ours) (V := fun (d : Int × List Int) => vc_law11_ours d.1 d.2) ⟨(.cons ok_law11_ints .nil), XsOk.nil, ItsOk.nil⟩ (vq_law11_ours) fun d hp => h d.1 d.2 hp
theorem ok_law11_ours : Ok_law11_ours := mk_law11_ours fun hd rows h => by
 simp [vc_law11_ours, h]
end Go.Proofs.Tryz
set_option linter.unusedVariables false
namespace Go.Proofs.Tryz
open Go Go.V Go.Proofs
def al_ref01_In : AL (Int × Int × Int) := (.cons (.k (.i .i64)) (.cons (.k (.i .i64)) (.one (.k (.i .i64)))))
def pre_ref01_In (d : Int × Int × Int) : Prop := True
def res_ref01_In (d : Int × Int × Int) : SV := .val .bo (inI d.1 d.2.1 d.2.2)
def obs_ref01_In (d : Int × Int × Int) : List OB := []
def s_ref01_In : CSp := mkSp al_ref01_In pre_ref01_In res_ref01_In obs_ref01_In
def vc_ref01_In (n : Int) (a : Int) (b : Int) : Prop :=
 (((decide (n ≥ a)) && (decide (n ≤ b))) = (inI n a b) ∧ (True))
def cx_ref01_In : Cx := ⟨[], [], 15, [], 0, [], [], [], [], false⟩
def lp_ref01_In (n : Int) (a : Int) (b : Int) : List (Nat × LoopAnn) := []
set_option maxRecDepth 100000 in
theorem vq_ref01_In (d : Int × Int × Int) : gwp (cx_ref01_In) (lp_ref01_In d.1 d.2.1 d.2.2) c75 0 (gend [.tmp 6] (res_ref01_In d) (obs_ref01_In d)) (gstart 15 (AL.can al_ref01_In d)) = vc_ref01_In d.1 d.2.1 d.2.2 := by kernel_rfl
abbrev Ok_ref01_In : Prop := OkC Tryz.prog 75 s_ref01_In
theorem mk_ref01_In (h : ∀ (n : Int) (a : Int) (b : Int), (True) → vc_ref01_In n a b) : OkC Tryz.prog 75 s_ref01_In :=
 okC_vc fun75 mixed (C := cx_ref01_In) (V := fun (d : Int × Int × Int) => vc_ref01_In d.1 d.2.1 d.2.2) ⟨.nil, XsOk.nil, ItsOk.nil⟩ (vq_ref01_In) fun d hp => h d.1 d.2.1 d.2.2 hp
theorem ok_ref01_In : Ok_ref01_In := mk_ref01_In fun n a b _ => by
 simp [vc_ref01_In, inI]
def al_ref01_Like : AL ((Int × List Int) × Int × List Int) := (.cons (.agg (.cons (.k (.i .i64)) (.one (.k (.list (.i .i64)))))) (.one (.agg (.cons (.k (.i .i64)) (.one (.k (.list (.i .i64))))))))
def pre_ref01_Like (d : (Int × List Int) × Int × List Int) : Prop := True
def res_ref01_Like (d : (Int × List Int) × Int × List Int) : SV := .val .bo (decide (d.1.1 = d.2.1) && decide (d.1.2.length = d.2.2.length))
def obs_ref01_Like (d : (Int × List Int) × Int × List Int) : List OB := []
def s_ref01_Like : CSp := mkSp al_ref01_Like pre_ref01_Like res_ref01_Like obs_ref01_Like
def vc_ref01_Like (hd : Int) (rows : List Int) (hd1 : Int) (rows1 : List Int) : Prop :=
 (((hd == hd1) && ((lI rows) == (lI rows1))) = (decide (hd = hd1) && decide (rows.length = rows1.length)) ∧ (True))
def cx_ref01_Like : Cx := ⟨[], [], 19, [], 0, [], [], [], [], false⟩
def lp_ref01_Like (hd : Int) (rows : List Int) (hd1 : Int) (rows1 : List Int) : List (Nat × LoopAnn) := []
set_option maxRecDepth 100000 in
theorem vq_ref01_Like (d : (Int × List Int) × Int × List Int) : gwp (cx_ref01_Like) (lp_ref01_Like d.1.1 d.1.2 d.2.1 d.2.2) c42 0 (gend [.tmp 4] (res_ref01_Like d) (obs_ref01_Like d)) (gstart 19 (AL.can al_ref01_Like d)) = vc_ref01_Like d.1.1 d.1.2 d.2.1 d.2.2 := by kernel_rfl
abbrev Ok_ref01_Like : Prop := OkC Tryz.prog 42 s_ref01_Like
theorem mk_ref01_Like (h : ∀ (hd : Int) (rows : List Int) (hd1 : Int) (rows1 : List Int), (True) → vc_ref01_Like hd rows hd1 rows1) : OkC Tryz.prog 42 s_ref01_Like :=
 okC_vc fun42 mixed (C := cx_ref01_Like) (V := fun (d : (Int × List Int) × Int × List Int) => vc_ref01_Like d.1.1 d.1.2 d.2.1 d.2.2) ⟨.nil, XsOk.nil, ItsOk.nil⟩ (vq_ref01_Like) fun d hp => h d.1.1 d.1.2 d.2.1 d.2.2 hp
theorem ok_ref01_Like : Ok_ref01_Like := mk_ref01_Like fun hd rows hd1 rows1 _ => by
 unfold vc_ref01_Like; (try delta lI gD sT I64); simp only [and_true]
 rw [Bool.eq_iff_iff]
 simp only [Bool.and_eq_true, beq_iff_eq, decide_eq_true_eq, Int.ofNat_inj]
def al_ref01_Same : AL ((Int × List Int) × Int × List Int) := (.cons (.agg (.cons (.k (.i .i64)) (.one (.k (.list (.i .i64)))))) (.one (.agg (.cons (.k (.i .i64)) (.one (.k (.list (.i .i64))))))))
def pre_ref01_Same (d : (Int × List Int) × Int × List Int) : Prop := d.1.2.length ≤ 1000000
def res_ref01_Same (d : (Int × List Int) × Int × List Int) : SV := .val .bo (decide (d.1.1 = d.2.1) && (d.1.2 == d.2.2))
def obs_ref01_Same (d : (Int × List Int) × Int × List Int) : List OB := []
def s_ref01_Same : CSp := mkSp al_ref01_Same pre_ref01_Same res_ref01_Same obs_ref01_Same
def vc_ref01_Same (hd : Int) (rows : List Int) (hd1 : Int) (rows1 : List Int) : Prop :=
 (True) ∧ ((!(decide (hd = hd1) && decide (rows.length = rows1.length))) = true →
  (false = (decide (hd = hd1) && (rows == rows1)) ∧ (True))) ∧
 ((!(decide (hd = hd1) && decide (rows.length = rows1.length))) = false →
  ∃ (e3 : Unit) (d30 : Int), ((True ∧ True ∧ (0 : Int) = d30 ∧ True) ∧ ((hd = hd ∧ rows = rows ∧ (([] : List SV) = [])) ∧ (hd1 = hd1 ∧ rows1 = rows1 ∧ (([] : List SV) = [])) ∧ True)) ∧
  LoopP (fun (d3 : Int) (q3 : (Int) → Prop) =>
   ((decide (d3 < (lI rows))) = true →
    (0 ≤ d3) ∧ (d3 < (List.length rows)) ∧ (0 ≤ d3) ∧ (d3 < (List.length rows1)) ∧ (((gD rows d3 0) != (gD rows1 d3 0)) = true →
     (false = (decide (hd = hd1) && (rows == rows1)) ∧ (True))) ∧
    (((gD rows d3 0) != (gD rows1 d3 0)) = false →
     (I64 (d3 + (1 : Int))) ∧ (∃ d4 : Int, ((True ∧ True ∧ (d3 + (1 : Int)) = d4 ∧ True) ∧ ((hd = hd ∧ rows = rows ∧ (([] : List SV) = [])) ∧ (hd1 = hd1 ∧ rows1 = rows1 ∧ (([] : List SV) = [])) ∧ True)) ∧ q3 d4))) ∧
   ((decide (d3 < (lI rows))) = false →
    (true = (decide (hd = hd1) && (rows == rows1)) ∧ (True)))) d30)
def cx_ref01_Same : Cx := ⟨[], [(42, s_ref01_Like)], 28, [], 0, [], [], [], [], false⟩
def lp_ref01_Same (hd : Int) (rows : List Int) (hd1 : Int) (rows1 : List Int) : List (Nat × LoopAnn) := [(0, ⟨Unit, Int, [2, 3, 5], fun e x => [.box 2 0, .box 3 0, .val (.i .i64) x], fun e x => [(2, .slot 2, .cells [.val (.i .i64) hd, .val (.list (.i .i64)) rows] (some 26)), (3, .slot 3, .cells [.val (.i .i64) hd1, .val (.list (.i .i64)) rows1] (some 26))]⟩)]
set_option maxRecDepth 100000 in
theorem vq_ref01_Same (d : (Int × List Int) × Int × List Int) : gwp (cx_ref01_Same) (lp_ref01_Same d.1.1 d.1.2 d.2.1 d.2.2) c16 0 (gend [.tmp 4] (res_ref01_Same d) (obs_ref01_Same d)) (gstart 28 (AL.can al_ref01_Same d)) = vc_ref01_Same d.1.1 d.1.2 d.2.1 d.2.2 := by kernel_rfl
abbrev Ok_ref01_Same : Prop := OkC Tryz.prog 16 s_ref01_Same
theorem mk_ref01_Same (h : ∀ (hd : Int) (rows : List Int) (hd1 : Int) (rows1 : List Int), (rows.length ≤ 1000000) → vc_ref01_Same hd rows hd1 rows1) : OkC Tryz.prog 16 s_ref01_Same :=
 okC_vc fun16 mixed (C := cx_ref01_Same) (V := fun (d : (Int × List Int) × Int × List Int) => vc_ref01_Same d.1.1 d.1.2 d.2.1 d.2.2) ⟨(.cons ok_ref01_Like .nil), XsOk.nil, ItsOk.nil⟩ (vq_ref01_Same) fun d hp => h d.1.1 d.1.2 d.2.1 d.2.2 hp
theorem ok_ref01_Same : Ok_ref01_Same := mk_ref01_Same fun hd rows hd1 rows1 hl => by
 unfold vc_ref01_Same; (try delta lI gD sT I64); simp only [true_and, and_true, exists_eq_left', exists_const, decide_eq_true_eq, decide_eq_false_iff_not, bne_iff_ne, ne_eq, bne_eq_false_iff_eq, Bool.not_eq_true', Bool.not_eq_false', Bool.and_eq_true, Bool.and_eq_false_iff]
 refine ⟨fun h => ?_, fun ⟨h0, h⟩ => ?_⟩
 ·symm; simp only [Bool.and_eq_false_iff, decide_eq_false_iff_not, beq_eq_false_iff_ne]
  rcases h with h | h
  ·exact .inl h
  ·exact .inr (by rintro rfl; exact h rfl)
 subst h0
 refine LoopP.count rows.length (fun k => rows.take k = rows1.take k) rfl fun k hk1 hJ q hq => ?_
 simp only [Int.toNat_natCast, Int.ofNat_lt, InK_i64]
 refine ⟨fun hlt => ?_, fun hge => ?_⟩
 ·have hlt : k < rows.length := by omega
  rw [getD_nat hlt, getD_nat (by omega)]
  refine ⟨by omega, by omega, by omega, by omega, fun hx => ?_, fun hx => ⟨by omega, hq hlt ?_⟩⟩
  ·symm; simp only [decide_true, Bool.true_and, beq_eq_false_iff_ne]; rintro rfl; exact hx rfl
  ·rw [take_succ_eq hlt, take_succ_eq (by omega), hJ, hx]
 ·rw [List.take_of_length_le (by omega), List.take_of_length_le (by omega)] at hJ
  simp [hJ]
def al_ref01_Check : AL (Int × List Int) := (.one (.agg (.cons (.k (.i .i64)) (.one (.k (.list (.i .i64)))))))
def pre_ref01_Check (d : Int × List Int) : Prop := True
def res_ref01_Check (d : Int × List Int) : SV := .val (.i .i64) (pointErr d.1 d.2)
def obs_ref01_Check (d : Int × List Int) : List OB := []
def s_ref01_Check : CSp := mkSp al_ref01_Check pre_ref01_Check res_ref01_Check obs_ref01_Check
def vc_ref01_Check (hd : Int) (rows : List Int) : Prop :=
 (True) ∧ ((!(inI hd (1 : Int) (24 : Int))) = true →
  ((2 : Int) = (pointErr hd rows) ∧ (True))) ∧
 ((!(inI hd (1 : Int) (24 : Int))) = false →
  ((decide ((lI rows) > (60 : Int))) = true →
   ((5 : Int) = (pointErr hd rows) ∧ (True))) ∧
  ((decide ((lI rows) > (60 : Int))) = false →
   (((lI rows) == (0 : Int)) = true →
    ((7 : Int) = (pointErr hd rows) ∧ (True))) ∧
   (((lI rows) == (0 : Int)) = false →
    ∃ (e3 : Unit) (d30 : Int), ((True ∧ (0 : Int) = d30 ∧ True) ∧ ((hd = hd ∧ rows = rows ∧ (([] : List SV) = [])) ∧ True)) ∧
    LoopP (fun (d3 : Int) (q3 : (Int) → Prop) =>
     ((decide (d3 < (lI rows))) = true →
      (0 ≤ d3) ∧ (d3 < (List.length rows)) ∧ (InK .u64 hd) ∧ (0 ≤ hd) ∧ (I64 (shlI .i64 (1 : Int) hd)) ∧ (I64 ((shlI .i64 (1 : Int) hd) - (1 : Int))) ∧ (True) ∧ ((!(inI (gD rows d3 0) (0 : Int) ((shlI .i64 (1 : Int) hd) - (1 : Int)))) = true →
       ((2 : Int) = (pointErr hd rows) ∧ (True))) ∧
      ((!(inI (gD rows d3 0) (0 : Int) ((shlI .i64 (1 : Int) hd) - (1 : Int)))) = false →
       (I64 (d3 + (1 : Int))) ∧ (∃ d4 : Int, ((True ∧ (d3 + (1 : Int)) = d4 ∧ True) ∧ ((hd = hd ∧ rows = rows ∧ (([] : List SV) = [])) ∧ True)) ∧ q3 d4))) ∧
     ((decide (d3 < (lI rows))) = false →
      ((0 : Int) = (pointErr hd rows) ∧ (True)))) d30)))
def cx_ref01_Check : Cx := ⟨[], [(75, s_ref01_In)], 35, [], 0, [], [], [], [], false⟩
def lp_ref01_Check (hd : Int) (rows : List Int) : List (Nat × LoopAnn) := [(0, ⟨Unit, Int, [1, 3], fun e x => [.box 1 0, .val (.i .i64) x], fun e x => [(1, .slot 1, .cells [.val (.i .i64) hd, .val (.list (.i .i64)) rows] (some 26))]⟩)]
set_option maxRecDepth 100000 in
theorem vq_ref01_Check (d : Int × List Int) : gwp (cx_ref01_Check) (lp_ref01_Check d.1 d.2) c45 0 (gend [.tmp 2] (res_ref01_Check d) (obs_ref01_Check d)) (gstart 35 (AL.can al_ref01_Check d)) = vc_ref01_Check d.1 d.2 := by kernel_rfl
abbrev Ok_ref01_Check : Prop := OkC Tryz.prog 45 s_ref01_Check
theorem mk_ref01_Check (h : ∀ (hd : Int) (rows : List Int), (True) → vc_ref01_Check hd rows) : OkC Tryz.prog 45 s_ref01_Check :=
 okC_vc fun45 mixed (C := cx_ref01_Check) (V := fun (d : Int × List Int) => vc_ref01_Check d.1 d.2) ⟨(.cons ok_ref01_In .nil), XsOk.nil, ItsOk.nil⟩ (vq_ref01_Check) fun d hp => h d.1 d.2 hp
theorem ok_ref01_Check : Ok_ref01_Check := mk_ref01_Check fun hd rows _ => by
 unfold vc_ref01_Check; (try delta lI gD sT I64); simp only [true_and, and_true, exists_eq_left', exists_const, decide_eq_true_eq, decide_eq_false_iff_not, beq_iff_eq, ne_eq, beq_eq_false_iff_ne, Bool.not_eq_true', Bool.not_eq_false', gt_iff_lt]
 refine ⟨fun h1 => by simp [pointErr, h1], fun h1 => ⟨fun h2 => ?_, fun h2 => ⟨fun h3 => ?_, fun h3 => ?_⟩⟩⟩
 ·have : 60 < rows.length := by omega
  simp [pointErr, h1, this]
 ·have h3 : rows.length = 0 := by omega
  simp [pointErr, h1, h3]
 have h2' : ¬ 60 < rows.length := by omega
 have h3' : ¬ rows.length = 0 := by omega
 have hi : 1 ≤ hd ∧ hd ≤ 24 := by simpa [inI] using h1
 have hpw := pow_bound hi.1 hi.2
 have hs := shl_one (h := hd) (by omega) (by omega)
 have hte : pointErr hd rows = if rows.any (fun x => !inI x 0 (2 ^ hd.toNat - 1)) then 2 else 0 := by simp only [pointErr, h1, h2', h3']; simp
 refine LoopP.count rows.length (fun k => (rows.take k).any (fun x => !inI x 0 (2 ^ hd.toNat - 1)) = false) (by simp) fun k hk1 hJ q hq => ?_
 simp only [Int.toNat_natCast, Int.ofNat_lt, InK_i64, InK_u64, hs]
 refine ⟨fun hlt => ?_, fun hge => ?_⟩
 ·have hlt : k < rows.length := by omega
  simp only [getD_nat hlt]
  refine ⟨by omega, by omega, by omega, by omega, by omega, by omega, fun hx => ?_, fun hx => ⟨by omega, hq hlt ?_⟩⟩
  ·rw [hte, if_pos (List.any_eq_true.2 ⟨rows[k], List.getElem_mem hlt, by simp [hx]⟩)]
  ·rw [take_succ_eq hlt, List.any_append, hJ]; simp [hx]
 ·rw [List.take_of_length_le (by omega)] at hJ
  rw [hte, hJ]; rfl
def al_ref01_Points : AL (Int × Int) := (.cons (.k (.i .i64)) (.one (.k (.i .i64))))
def pre_ref01_Points (d : Int × Int) : Prop := 0 ≤ d.1 ∧ d.1 < 9223372036854775808 ∧ 0 ≤ d.2 ∧ d.2 ≤ 64
def res_ref01_Points (d : Int × Int) : SV := .lst 0
def obs_ref01_Points (d : Int × Int) : List OB := [.lst 4 .bo (ptsL d.1 d.2.toNat) false]
def s_ref01_Points : CSp := mkSp al_ref01_Points pre_ref01_Points res_ref01_Points obs_ref01_Points
def vc_ref01_Points (r : Int) (h : Int) : Prop :=
 ∃ (e2 : Unit) (d20 : Int × (List Bool) × Int), ((r = d20.1 ∧ h = h ∧ True ∧ (0 : Int) = d20.2.2 ∧ True) ∧ ((([] : List Bool) = d20.2.1 ∧ false = false) ∧ True)) ∧
 LoopP (fun (d2 : Int × (List Bool) × Int) (q2 : (Int × (List Bool) × Int) → Prop) =>
  ((decide (d2.2.2 < h)) = true →
   ((2 : Int) ≠ 0) ∧ (((List.length d2.2.1) + (List.length [((Int.tmod d2.1 (2 : Int)) == (1 : Int))])) * 1 ≤ 70368744177664) ∧ ((2 : Int) ≠ 0) ∧ (I64 (Int.tdiv d2.1 (2 : Int))) ∧ (I64 (d2.2.2 + (1 : Int))) ∧ (∃ d3 : Int × (List Bool) × Int, (((Int.tdiv d2.1 (2 : Int)) = d3.1 ∧ h = h ∧ True ∧ (d2.2.2 + (1 : Int)) = d3.2.2 ∧ True) ∧ (((d2.2.1 ++ [((Int.tmod d2.1 (2 : Int)) == (1 : Int))]) = d3.2.1 ∧ false = false) ∧ True)) ∧ q2 d3)) ∧
  ((decide (d2.2.2 < h)) = false →
   (True ∧ ((d2.2.1 = (ptsL r h.toNat) ∧ false = false) ∧ True)))) d20
def cx_ref01_Points : Cx := ⟨[(4, .bo)], [], 22, [], 0, [], [], [], [], false⟩
def lp_ref01_Points (r : Int) (h : Int) : List (Nat × LoopAnn) := [(0, ⟨Unit, Int × (List Bool) × Int, [0, 1, 5, 6], fun e x => [.val (.i .i64) x.1, .val (.i .i64) h, .lst 7, .val (.i .i64) x.2.2], fun e x => [(7, .slot 5, .lst 4 .bo x.2.1 false)]⟩)]
set_option maxRecDepth 100000 in
theorem vq_ref01_Points (d : Int × Int) : gwp (cx_ref01_Points) (lp_ref01_Points d.1 d.2) c52 0 (gend [.tmp 4] (res_ref01_Points d) (obs_ref01_Points d)) (gstart 22 (AL.can al_ref01_Points d)) = vc_ref01_Points d.1 d.2 := by kernel_rfl
abbrev Ok_ref01_Points : Prop := OkC Tryz.prog 52 s_ref01_Points
theorem mk_ref01_Points (h : ∀ (r : Int) (h : Int), (0 ≤ r ∧ r < 9223372036854775808 ∧ 0 ≤ h ∧ h ≤ 64) → vc_ref01_Points r h) : OkC Tryz.prog 52 s_ref01_Points :=
 okC_vc fun52 mixed (C := cx_ref01_Points) (V := fun (d : Int × Int) => vc_ref01_Points d.1 d.2) ⟨.nil, XsOk.nil, ItsOk.nil⟩ (vq_ref01_Points) fun d hp => h d.1 d.2 hp
theorem ok_ref01_Points : Ok_ref01_Points := mk_ref01_Points fun r h hp => by
 obtain ⟨h1, h0, h2, h3⟩ := hp
 obtain ⟨n, rfl⟩ := Int.eq_ofNat_of_zero_le h1
 obtain ⟨m, rfl⟩ := Int.eq_ofNat_of_zero_le h2
 unfold vc_ref01_Points; (try delta lI gD sT I64); simp only [true_and, and_true, exists_const, decide_eq_true_eq, decide_eq_false_iff_not, ne_eq, Int.toNat_natCast, InK_i64]
 refine ⟨((n : Int), [], 0), (by and_intros <;> first | rfl | trivial | simp), ?_⟩
 refine ⟨fun d => ∃ k : Nat, k ≤ m ∧ d.2.2 = k ∧ d.1 = ((n / 2 ^ k : Nat) : Int) ∧ d.2.1 = ptsL n k, fun d => m - d.2.2.toNat, ⟨0, Nat.zero_le _, rfl, by simp, rfl⟩, ?_⟩
 rintro ⟨a, xs, c⟩ ⟨k, hk, hc, ha, hx⟩
 dsimp only at hc ha hx ⊢
 subst hc ha hx
 have hq : n / 2 ^ k ≤ n := Nat.div_le_self _ _
 have e1 : n / 2 ^ (k + 1) = n / 2 ^ k / 2 := by rw [Nat.pow_succ, Nat.div_div_eq_div_mul]
 have e2 : n.testBit k = (((n / 2 ^ k % 2 : Nat) : Int) == 1) := by
  rw [Nat.testBit_eq_decide_div_mod_eq]
  by_cases hb : n / 2 ^ k % 2 = 1
  ·simp [hb]
  ·have : n / 2 ^ k % 2 = 0 := by omega
   simp [this]
 simp only [tdiv_two, tmod_two, ptsL_len, List.length_singleton]
 generalize n / 2 ^ k = y at hq e1 e2 ⊢
 refine ⟨fun hlt => ?_, fun hge => ?_⟩
 ·refine ⟨by omega, by omega, by omega, by omega, by omega, (((y / 2 : Nat) : Int), ptsL n k ++ [((y % 2 : Nat) : Int) == 1], (k : Int) + 1), (by and_intros <;> first | rfl | trivial | simp), ⟨k + 1, by omega, rfl, by rw [e1], by rw [ptsL_succ, Int.toNat_natCast, e2]⟩, by dsimp only; omega⟩
 ·have : k = m := by omega
  subst this
  exact (by and_intros <;> first | rfl | trivial | simp)
def al_ref11_Loom : AL ((Int × List Int) × Int × List Int) := (.cons (.agg (.cons (.k (.i .i64)) (.one (.k (.list (.i .i64)))))) (.one (.agg (.cons (.k (.i .i64)) (.one (.k (.list (.i .i64))))))))
def pre_ref11_Loom (d : (Int × List Int) × Int × List Int) : Prop := True
def res_ref11_Loom (d : (Int × List Int) × Int × List Int) : SV := .val (.i .i64) (weaveErr d.1.1 d.1.2 d.2.1 d.2.2)
def obs_ref11_Loom (d : (Int × List Int) × Int × List Int) : List OB := []
def s_ref11_Loom : CSp := mkSp al_ref11_Loom pre_ref11_Loom res_ref11_Loom obs_ref11_Loom
def vc_ref11_Loom (hk : Int) (lw : List Int) (hd : Int) (rows : List Int) : Prop :=
 (True) ∧ (((tieErr hk lw) != (0 : Int)) = true →
  ((tieErr hk lw) = (weaveErr hk lw hd rows) ∧ (True))) ∧
 (((tieErr hk lw) != (0 : Int)) = false →
  (True) ∧ (((pointErr hd rows) != (0 : Int)) = true →
   ((pointErr hd rows) = (weaveErr hk lw hd rows) ∧ (True))) ∧
  (((pointErr hd rows) != (0 : Int)) = false →
   ((hk != hd) = true →
    ((4 : Int) = (weaveErr hk lw hd rows) ∧ (True))) ∧
   ((hk != hd) = false →
    ((0 : Int) = (weaveErr hk lw hd rows) ∧ (True)))))
def cx_ref11_Loom : Cx := ⟨[], [(43, s_ref03_Check), (45, s_ref01_Check)], 22, [], 0, [], [], [], [], false⟩
def lp_ref11_Loom (hk : Int) (lw : List Int) (hd : Int) (rows : List Int) : List (Nat × LoopAnn) := []
set_option maxRecDepth 100000 in
theorem vq_ref11_Loom (d : (Int × List Int) × Int × List Int) : gwp (cx_ref11_Loom) (lp_ref11_Loom d.1.1 d.1.2 d.2.1 d.2.2) c19 0 (gend [.tmp 4] (res_ref11_Loom d) (obs_ref11_Loom d)) (gstart 22 (AL.can al_ref11_Loom d)) = vc_ref11_Loom d.1.1 d.1.2 d.2.1 d.2.2 := by kernel_rfl
abbrev Ok_ref11_Loom : Prop := OkC Tryz.prog 19 s_ref11_Loom
theorem mk_ref11_Loom (h : ∀ (hk : Int) (lw : List Int) (hd : Int) (rows : List Int), (True) → vc_ref11_Loom hk lw hd rows) : OkC Tryz.prog 19 s_ref11_Loom :=
 okC_vc fun19 mixed (C := cx_ref11_Loom) (V := fun (d : (Int × List Int) × Int × List Int) => vc_ref11_Loom d.1.1 d.1.2 d.2.1 d.2.2) ⟨(.cons ok_ref03_Check (.cons ok_ref01_Check .nil)), XsOk.nil, ItsOk.nil⟩ (vq_ref11_Loom) fun d hp => h d.1.1 d.1.2 d.2.1 d.2.2 hp
theorem weaveErr_zero {hk : Int} {lw : List Int} {hd : Int} {rows : List Int} (h : weaveErr hk lw hd rows = 0) : pointErr hd rows = 0 ∧ hd = hk := by
 unfold weaveErr at h
 split at h
 ·contradiction
 ·split at h
  ·contradiction
  ·rename_i h1
   split at h
   ·cases h
   ·rename_i h2; exact ⟨by simpa using h1, by simpa using h2⟩
theorem ok_ref11_Loom : Ok_ref11_Loom := mk_ref11_Loom fun hk lw hd rows _ => by
 unfold vc_ref11_Loom; (try delta lI gD sT I64); simp only [true_and, and_true, bne_iff_ne, ne_eq, bne_eq_false_iff_eq]
 refine ⟨fun h => by simp [weaveErr, h], fun h => ⟨fun h1 => by simp [weaveErr, h, h1], fun h1 => ⟨fun h2 => ?_, fun h2 => ?_⟩⟩⟩
 ·have : ¬ hd = hk := fun e => h2 e.symm
  simp [weaveErr, h, h1, this]
 ·subst h2; simp [weaveErr, h, h1]
end Go.Proofs.Tryz
set_option linter.unusedVariables false
namespace Go.Proofs.Tryz
open Go Go.V Go.Proofs
def al_math_bits_Mul32 : AL (Int × Int) := (.cons (.k (.i .u32)) (.one (.k (.i .u32))))
def pre_math_bits_Mul32 (d : Int × Int) : Prop := False
def res_math_bits_Mul32 (d : Int × Int) : SV := .tup [.val (.i .u32) (0 : Int), .val (.i .u32) (0 : Int)]
def obs_math_bits_Mul32 (d : Int × Int) : List OB := []
def s_math_bits_Mul32 : CSp := mkSp al_math_bits_Mul32 pre_math_bits_Mul32 res_math_bits_Mul32 obs_math_bits_Mul32
def vc_math_bits_Mul32 (a : Int) (b : Int) : Prop :=
 (InK .u64 a) ∧ (InK .u64 b) ∧ (InK .u64 (a * b)) ∧ (0 ≤ (32 : Int)) ∧ (InK .u32 (shrI .u64 (a * b) (32 : Int))) ∧ (InK .u32 (a * b)) ∧ (((shrI .u64 (a * b) (32 : Int)) = (0 : Int) ∧ (a * b) = (0 : Int) ∧ (([] : List SV) = [])) ∧ (True))
def cx_math_bits_Mul32 : Cx := ⟨[], [], 17, [], 0, [], [], [], [], false⟩
def lp_math_bits_Mul32 (a : Int) (b : Int) : List (Nat × LoopAnn) := []
set_option maxRecDepth 100000 in
theorem vq_math_bits_Mul32 (d : Int × Int) : gwp (cx_math_bits_Mul32) (lp_math_bits_Mul32 d.1 d.2) c92 0 (gend [.tmp 4, .tmp 5] (res_math_bits_Mul32 d) (obs_math_bits_Mul32 d)) (gstart 17 (AL.can al_math_bits_Mul32 d)) = vc_math_bits_Mul32 d.1 d.2 := by kernel_rfl
abbrev Ok_math_bits_Mul32 : Prop := OkC Tryz.prog 92 s_math_bits_Mul32
theorem mk_math_bits_Mul32 (h : ∀ (a : Int) (b : Int), (False) → vc_math_bits_Mul32 a b) : OkC Tryz.prog 92 s_math_bits_Mul32 :=
 okC_vc fun92 mixed (C := cx_math_bits_Mul32) (V := fun (d : Int × Int) => vc_math_bits_Mul32 d.1 d.2) ⟨.nil, XsOk.nil, ItsOk.nil⟩ (vq_math_bits_Mul32) fun d hp => h d.1 d.2 hp
theorem ok_math_bits_Mul32 : Ok_math_bits_Mul32 := mk_math_bits_Mul32 fun a b h => h.elim
def al_math_bits_Mul64 : AL (Int × Int) := (.cons (.k (.i .u64)) (.one (.k (.i .u64))))
def pre_math_bits_Mul64 (d : Int × Int) : Prop := 0 ≤ d.1 ∧ d.1 ≤ 65535 ∧ 0 ≤ d.2 ∧ d.2 ≤ 65535
def res_math_bits_Mul64 (d : Int × Int) : SV := .tup [.val (.i .u64) (0 : Int), .val (.i .u64) (d.1 * d.2)]
def obs_math_bits_Mul64 (d : Int × Int) : List OB := []
def s_math_bits_Mul64 : CSp := mkSp al_math_bits_Mul64 pre_math_bits_Mul64 res_math_bits_Mul64 obs_math_bits_Mul64
def vc_math_bits_Mul64 (a : Int) (b : Int) : Prop :=
 (0 ≤ (32 : Int)) ∧ (0 ≤ (32 : Int)) ∧ (InK .u64 ((vbits .and .u64 a (4294967295 : Int)) * (vbits .and .u64 b (4294967295 : Int)))) ∧ (InK .u64 ((shrI .u64 a (32 : Int)) * (vbits .and .u64 b (4294967295 : Int)))) ∧ (0 ≤ (32 : Int)) ∧ (InK .u64 (((shrI .u64 a (32 : Int)) * (vbits .and .u64 b (4294967295 : Int))) + (shrI .u64 ((vbits .and .u64 a (4294967295 : Int)) * (vbits .and .u64 b (4294967295 : Int))) (32 : Int)))) ∧ (0 ≤ (32 : Int)) ∧ (InK .u64 ((vbits .and .u64 a (4294967295 : Int)) * (shrI .u64 b (32 : Int)))) ∧ (InK .u64 ((vbits .and .u64 (((shrI .u64 a (32 : Int)) * (vbits .and .u64 b (4294967295 : Int))) + (shrI .u64 ((vbits .and .u64 a (4294967295 : Int)) * (vbits .and .u64 b (4294967295 : Int))) (32 : Int))) (4294967295 : Int)) + ((vbits .and .u64 a (4294967295 : Int)) * (shrI .u64 b (32 : Int))))) ∧ (InK .u64 ((shrI .u64 a (32 : Int)) * (shrI .u64 b (32 : Int)))) ∧ (InK .u64 (((shrI .u64 a (32 : Int)) * (shrI .u64 b (32 : Int))) + (shrI .u64 (((shrI .u64 a (32 : Int)) * (vbits .and .u64 b (4294967295 : Int))) + (shrI .u64 ((vbits .and .u64 a (4294967295 : Int)) * (vbits .and .u64 b (4294967295 : Int))) (32 : Int))) (32 : Int)))) ∧ (0 ≤ (32 : Int)) ∧ (InK .u64 ((((shrI .u64 a (32 : Int)) * (shrI .u64 b (32 : Int))) + (shrI .u64 (((shrI .u64 a (32 : Int)) * (vbits .and .u64 b (4294967295 : Int))) + (shrI .u64 ((vbits .and .u64 a (4294967295 : Int)) * (vbits .and .u64 b (4294967295 : Int))) (32 : Int))) (32 : Int))) + (shrI .u64 ((vbits .and .u64 (((shrI .u64 a (32 : Int)) * (vbits .and .u64 b (4294967295 : Int))) + (shrI .u64 ((vbits .and .u64 a (4294967295 : Int)) * (vbits .and .u64 b (4294967295 : Int))) (32 : Int))) (4294967295 : Int)) + ((vbits .and .u64 a (4294967295 : Int)) * (shrI .u64 b (32 : Int)))) (32 : Int)))) ∧ (InK .u64 (a * b)) ∧ ((((((shrI .u64 a (32 : Int)) * (shrI .u64 b (32 : Int))) + (shrI .u64 (((shrI .u64 a (32 : Int)) * (vbits .and .u64 b (4294967295 : Int))) + (shrI .u64 ((vbits .and .u64 a (4294967295 : Int)) * (vbits .and .u64 b (4294967295 : Int))) (32 : Int))) (32 : Int))) + (shrI .u64 ((vbits .and .u64 (((shrI .u64 a (32 : Int)) * (vbits .and .u64 b (4294967295 : Int))) + (shrI .u64 ((vbits .and .u64 a (4294967295 : Int)) * (vbits .and .u64 b (4294967295 : Int))) (32 : Int))) (4294967295 : Int)) + ((vbits .and .u64 a (4294967295 : Int)) * (shrI .u64 b (32 : Int)))) (32 : Int))) = (0 : Int) ∧ (a * b) = (a * b) ∧ (([] : List SV) = [])) ∧ (True))
def cx_math_bits_Mul64 : Cx := ⟨[], [], 51, [], 0, [], [], [], [], false⟩
def lp_math_bits_Mul64 (a : Int) (b : Int) : List (Nat × LoopAnn) := []
set_option maxRecDepth 100000 in
theorem vq_math_bits_Mul64 (d : Int × Int) : gwp (cx_math_bits_Mul64) (lp_math_bits_Mul64 d.1 d.2) c93 0 (gend [.tmp 4, .tmp 5] (res_math_bits_Mul64 d) (obs_math_bits_Mul64 d)) (gstart 51 (AL.can al_math_bits_Mul64 d)) = vc_math_bits_Mul64 d.1 d.2 := by kernel_rfl
abbrev Ok_math_bits_Mul64 : Prop := OkC Tryz.prog 93 s_math_bits_Mul64
theorem mk_math_bits_Mul64 (h : ∀ (a : Int) (b : Int), (0 ≤ a ∧ a ≤ 65535 ∧ 0 ≤ b ∧ b ≤ 65535) → vc_math_bits_Mul64 a b) : OkC Tryz.prog 93 s_math_bits_Mul64 :=
 okC_vc fun93 mixed (C := cx_math_bits_Mul64) (V := fun (d : Int × Int) => vc_math_bits_Mul64 d.1 d.2) ⟨.nil, XsOk.nil, ItsOk.nil⟩ (vq_math_bits_Mul64) fun d hp => h d.1 d.2 hp
theorem wrap_u64 {x : Nat} (h : x < 18446744073709551616) : IntKind.wrap .u64 (x : Int) = x := by
 have e : ((x : Int) % (18446744073709551616 : Int)) = x := by omega
 show (if (false && decide ((x : Int) % (18446744073709551616 : Int) ≥ 9223372036854775808)) = true then (x : Int) % (18446744073709551616 : Int) - 18446744073709551616 else (x : Int) % (18446744073709551616 : Int)) = x
 simp only [e, Bool.false_and, Bool.false_eq_true, if_false]
theorem vmask_u64 {x : Nat} (h : x ≤ 4294967295) : vbits .and .u64 (x : Int) 4294967295 = x := by
 have e : (BitVec.ofInt 64 (x : Int) &&& BitVec.ofInt 64 (4294967295 : Int)).toNat = x := by
  rw [BitVec.toNat_and, toNat_ofInt (by omega), show (4294967295 : Int) = ((4294967295 : Nat) : Int) from rfl, toNat_ofInt (by omega)]
  have := Nat.and_two_pow_sub_one_eq_mod x 32
  simp only [Nat.reducePow, Nat.add_one_sub_one] at this
  rw [this]; omega
 show IntKind.wrap .u64 ((BitVec.ofInt 64 (x : Int) &&& BitVec.ofInt 64 (4294967295 : Int)).toNat : Int) = _
 rw [e, wrap_u64 (by omega)]
theorem shr32_u64 {x : Nat} (h : x ≤ 4294967295) : shrI .u64 (x : Int) 32 = 0 := by
 have : Nat.min (Int.toNat 32) 64 = 32 := rfl
 simp only [shrI, IntKind.bits, this]
 rw [Int.fdiv_eq_ediv_of_nonneg _ (Int.le_of_lt (Int.pow_pos (by omega)))]
 omega
theorem ok_math_bits_Mul64 : Ok_math_bits_Mul64 := mk_math_bits_Mul64 fun a b h => by
 obtain ⟨h1, h2, h3, h4⟩ := h
 obtain ⟨x, rfl⟩ := Int.eq_ofNat_of_zero_le h1
 obtain ⟨y, rfl⟩ := Int.eq_ofNat_of_zero_le h3
 have hxy : x * y ≤ 65535 * 65535 := Nat.mul_le_mul (by omega) (by omega)
 have e0 : ((0 : Nat) : Int) = 0 := rfl
 have s0 := shr32_u64 (x := 0) (by omega)
 have m0 := vmask_u64 (x := 0) (by omega)
 rw [e0] at s0 m0
 have s3 := shr32_u64 (x := x * y) (by omega)
 have e1 : (x : Int) * (y : Int) = ((x * y : Nat) : Int) := by norm_cast
 unfold vc_math_bits_Mul64; (try delta lI gD sT I64); simp only [and_true, vmask_u64 (show x ≤ 4294967295 by omega), vmask_u64 (show y ≤ 4294967295 by omega), shr32_u64 (show x ≤ 4294967295 by omega), shr32_u64 (show y ≤ 4294967295 by omega), e1, s3, Int.zero_mul, Int.mul_zero, Int.add_zero, m0, s0, InK_u64]
 and_intros <;> omega
def al_math_bits_Mul : AL (Int × Int) := (.cons (.k (.i .u64)) (.one (.k (.i .u64))))
def pre_math_bits_Mul (d : Int × Int) : Prop := 0 ≤ d.1 ∧ d.1 ≤ 65535 ∧ 0 ≤ d.2 ∧ d.2 ≤ 65535
def res_math_bits_Mul (d : Int × Int) : SV := .tup [.val (.i .u64) (0 : Int), .val (.i .u64) (d.1 * d.2)]
def obs_math_bits_Mul (d : Int × Int) : List OB := []
def s_math_bits_Mul : CSp := mkSp al_math_bits_Mul pre_math_bits_Mul res_math_bits_Mul obs_math_bits_Mul
def vc_math_bits_Mul (a : Int) (b : Int) : Prop :=
 (false = true →
  (InK .u32 a) ∧ (InK .u32 b) ∧ (False) ∧ (InK .u64 (0 : Int)) ∧ (InK .u64 (0 : Int)) ∧ (((0 : Int) = (0 : Int) ∧ (0 : Int) = (a * b) ∧ (([] : List SV) = [])) ∧ (True))) ∧
 (false = false →
  (0 ≤ a ∧ a ≤ 65535 ∧ 0 ≤ b ∧ b ≤ 65535) ∧ (((0 : Int) = (0 : Int) ∧ (a * b) = (a * b) ∧ (([] : List SV) = [])) ∧ (True)))
def cx_math_bits_Mul : Cx := ⟨[], [(92, s_math_bits_Mul32), (93, s_math_bits_Mul64)], 30, [], 0, [], [], [], [], false⟩
def lp_math_bits_Mul (a : Int) (b : Int) : List (Nat × LoopAnn) := []
set_option maxRecDepth 100000 in
theorem vq_math_bits_Mul (d : Int × Int) : gwp (cx_math_bits_Mul) (lp_math_bits_Mul d.1 d.2) c77 0 (gend [.tmp 4, .tmp 5] (res_math_bits_Mul d) (obs_math_bits_Mul d)) (gstart 30 (AL.can al_math_bits_Mul d)) = vc_math_bits_Mul d.1 d.2 := by kernel_rfl
abbrev Ok_math_bits_Mul : Prop := OkC Tryz.prog 77 s_math_bits_Mul
theorem mk_math_bits_Mul (h : ∀ (a : Int) (b : Int), (0 ≤ a ∧ a ≤ 65535 ∧ 0 ≤ b ∧ b ≤ 65535) → vc_math_bits_Mul a b) : OkC Tryz.prog 77 s_math_bits_Mul :=
 okC_vc fun77 mixed (C := cx_math_bits_Mul) (V := fun (d : Int × Int) => vc_math_bits_Mul d.1 d.2) ⟨(.cons ok_math_bits_Mul32 (.cons ok_math_bits_Mul64 .nil)), XsOk.nil, ItsOk.nil⟩ (vq_math_bits_Mul) fun d hp => h d.1 d.2 hp
theorem ok_math_bits_Mul : Ok_math_bits_Mul := mk_math_bits_Mul fun a b h => by
 simp only [vc_math_bits_Mul]
 exact ⟨fun h => by simp at h, fun _ => ⟨h, (by and_intros <;> first | rfl | trivial | simp)⟩⟩
def al_slices_Repeat_int_int : AL (List Int × Int) := (.cons (.k (.list (.i .i64))) (.one (.k (.i .i64))))
def pre_slices_Repeat_int_int (d : List Int × Int) : Prop := d.1.length ≤ 1000 ∧ 0 ≤ d.2 ∧ d.2 ≤ 1000
def res_slices_Repeat_int_int (d : List Int × Int) : SV := .lst 0
def obs_slices_Repeat_int_int (d : List Int × Int) : List OB := [.lst 3 (.i .i64) (repL d.1 d.2.toNat) false]
def s_slices_Repeat_int_int : CSp := mkSp al_slices_Repeat_int_int pre_slices_Repeat_int_int res_slices_Repeat_int_int obs_slices_Repeat_int_int
def vc_slices_Repeat_int_int (l : List Int) (n : Int) : Prop :=
 ((decide (n < (0 : Int))) = true →
  False) ∧
 ((decide (n < (0 : Int))) = false →
  (InK .u64 (lI l)) ∧ (InK .u64 n) ∧ (0 ≤ (lI l) ∧ (lI l) ≤ 65535 ∧ 0 ≤ n ∧ n ≤ 65535) ∧ (((decide ((0 : Int) > (0 : Int))) || (decide (((lI l) * n) > (9223372036854775807 : Int)))) = true →
   False) ∧
  (((decide ((0 : Int) > (0 : Int))) || (decide (((lI l) * n) > (9223372036854775807 : Int)))) = false →
   (I64 ((lI l) * n)) ∧ (0 ≤ ((lI l) * n)) ∧ (((lI l) * n) ≤ ((lI l) * n)) ∧ (((lI l) * n) * 8 ≤ 70368744177664) ∧ (((lI l) * n) ≤ 70368744177664) ∧ ∃ (e2 : Unit) (d20 : (List Int) × Int), ((True ∧ ((Nat.min (List.length l) (List.length (List.replicate (Int.toNat ((lI l) * n)) (0 : Int))) : Nat) : Int) = d20.2 ∧ True) ∧ ((((List.take (List.length (List.replicate (Int.toNat ((lI l) * n)) (0 : Int))) l) ++ (List.drop (List.length l) (List.replicate (Int.toNat ((lI l) * n)) (0 : Int)))) = d20.1 ∧ false = false) ∧ True)) ∧
   LoopP (fun (d2 : (List Int) × Int) (q2 : ((List Int) × Int) → Prop) =>
    ((decide (d2.2 < (lI d2.1))) = true →
     (0 ≤ d2.2) ∧ (d2.2 ≤ (lI d2.1)) ∧ ((lI d2.1) ≤ (List.length d2.1)) ∧ (0 ≤ (0 : Int)) ∧ ((0 : Int) ≤ d2.2) ∧ (d2.2 ≤ (List.length d2.1)) ∧ (I64 (d2.2 + ((Nat.min (List.length (List.take (Int.toNat (d2.2 - (0 : Int))) (List.drop (Int.toNat (0 : Int)) d2.1))) (Int.toNat ((lI d2.1) - d2.2)) : Nat) : Int))) ∧ (∃ d3 : (List Int) × Int, ((True ∧ (d2.2 + ((Nat.min (List.length (List.take (Int.toNat (d2.2 - (0 : Int))) (List.drop (Int.toNat (0 : Int)) d2.1))) (Int.toNat ((lI d2.1) - d2.2)) : Nat) : Int)) = d3.2 ∧ True) ∧ ((((List.take (Int.toNat d2.2) d2.1) ++ ((List.take (Int.toNat ((lI d2.1) - d2.2)) (List.take (Int.toNat (d2.2 - (0 : Int))) (List.drop (Int.toNat (0 : Int)) d2.1))) ++ (List.drop ((Int.toNat d2.2) + Nat.min (List.length (List.take (Int.toNat (d2.2 - (0 : Int))) (List.drop (Int.toNat (0 : Int)) d2.1))) (Int.toNat ((lI d2.1) - d2.2))) d2.1))) = d3.1 ∧ false = false) ∧ True)) ∧ q2 d3)) ∧
    ((decide (d2.2 < (lI d2.1))) = false →
     (True ∧ ((d2.1 = (repL l n.toNat) ∧ false = false) ∧ True)))) d20))
def cx_slices_Repeat_int_int : Cx := ⟨[(3, (.i .i64))], [(77, s_math_bits_Mul)], 48, [], 0, [], [], [], [], false⟩
def lp_slices_Repeat_int_int (l : List Int) (n : Int) : List (Nat × LoopAnn) := [(0, ⟨Unit, (List Int) × Int, [7, 8], fun e x => [.lst 30, .val (.i .i64) x.2], fun e x => [(30, .slot 7, .lst 3 (.i .i64) x.1 false)]⟩)]
set_option maxRecDepth 100000 in
theorem vq_slices_Repeat_int_int (d : List Int × Int) : gwp (cx_slices_Repeat_int_int) (lp_slices_Repeat_int_int d.1 d.2) c50 0 (gend [.tmp 4] (res_slices_Repeat_int_int d) (obs_slices_Repeat_int_int d)) (gstart 48 (AL.can al_slices_Repeat_int_int d)) = vc_slices_Repeat_int_int d.1 d.2 := by kernel_rfl
abbrev Ok_slices_Repeat_int_int : Prop := OkC Tryz.prog 50 s_slices_Repeat_int_int
theorem mk_slices_Repeat_int_int (h : ∀ (l : List Int) (n : Int), (l.length ≤ 1000 ∧ 0 ≤ n ∧ n ≤ 1000) → vc_slices_Repeat_int_int l n) : OkC Tryz.prog 50 s_slices_Repeat_int_int :=
 okC_vc fun50 mixed (C := cx_slices_Repeat_int_int) (V := fun (d : List Int × Int) => vc_slices_Repeat_int_int d.1 d.2) ⟨(.cons ok_math_bits_Mul .nil), XsOk.nil, ItsOk.nil⟩ (vq_slices_Repeat_int_int) fun d hp => h d.1 d.2 hp
theorem ok_slices_Repeat_int_int : Ok_slices_Repeat_int_int := mk_slices_Repeat_int_int fun l n h => by
 obtain ⟨h1, h2, h3⟩ := h
 obtain ⟨m, rfl⟩ := Int.eq_ofNat_of_zero_le h2
 have hlm : l.length * m ≤ 1000 * 1000 := Nat.mul_le_mul h1 (by omega)
 have e1 : (l.length : Int) * (m : Int) = ((l.length * m : Nat) : Int) := by norm_cast
 unfold vc_slices_Repeat_int_int; (try delta lI gD sT I64); simp only [true_and, and_true, exists_const, decide_eq_true_eq, decide_eq_false_iff_not, Int.toNat_natCast, gt_iff_lt, e1, InK_i64, InK_u64, Int.sub_zero, List.length_replicate, Int.toNat_zero, List.drop_zero]
 refine ⟨by omega, fun _ => ⟨by omega, by omega, by omega, fun h => ?_, fun h => ⟨by omega, by omega, by omega, by omega, by omega, ?_⟩⟩⟩
 ·simp at h; omega
 refine ⟨(_, _), (by and_intros <;> first | rfl | trivial | simp), ?_⟩
 refine ⟨fun d => ∃ k : Nat, d.2 = k ∧ RepI l m d.1 k, fun d => d.1.length - d.2.toNat, ⟨_, rfl, repI_zero l m _⟩, ?_⟩
 rintro ⟨xs, _⟩ ⟨k, rfl, hI⟩
 dsimp only at hI ⊢
 have hxl := hI.1
 have hk := hI.2.1
 refine ⟨fun hlt => ?_, fun hge => ?_⟩
 ·have hlt : k < xs.length := by omega
  obtain ⟨g1, g2⟩ := repI_step hI hlt
  have e2 : ((xs.length : Int) - (k : Int)).toNat = xs.length - k := by omega
  have g3 := g1.2.1
  have g4 := g1.1
  have hc : Nat.min (List.take k xs).length (xs.length - k) ≤ 1000000 := by have : Nat.min (List.take k xs).length (xs.length - k) ≤ _ := Nat.min_le_left _ _; simp only [List.length_take] at this ⊢; omega
  simp only [Int.toNat_natCast, e2]
  generalize Nat.min (List.take k xs).length (xs.length - k) = c at g1 g2 g3 g4 hc ⊢
  refine ⟨by omega, by omega, by omega, by omega, by omega, by omega, ⟨by omega, by omega⟩, (_, ((k + c : Nat) : Int)), (by and_intros <;> first | rfl | trivial | omega), ⟨_, rfl, g1⟩, ?_⟩
  dsimp only
  rw [g4]; omega
 ·have := repI_end hI (by omega)
  rw [this]
def al_slices_Repeat_bool_bool : AL (List Bool × Int) := (.cons (.k (.list .bo)) (.one (.k (.i .i64))))
def pre_slices_Repeat_bool_bool (d : List Bool × Int) : Prop := d.1.length ≤ 1000 ∧ 0 ≤ d.2 ∧ d.2 ≤ 1000
def res_slices_Repeat_bool_bool (d : List Bool × Int) : SV := .lst 0
def obs_slices_Repeat_bool_bool (d : List Bool × Int) : List OB := [.lst 4 .bo (repL d.1 d.2.toNat) false]
def s_slices_Repeat_bool_bool : CSp := mkSp al_slices_Repeat_bool_bool pre_slices_Repeat_bool_bool res_slices_Repeat_bool_bool obs_slices_Repeat_bool_bool
def vc_slices_Repeat_bool_bool (l : List Bool) (n : Int) : Prop :=
 ((decide (n < (0 : Int))) = true →
  False) ∧
 ((decide (n < (0 : Int))) = false →
  (InK .u64 (lI l)) ∧ (InK .u64 n) ∧ (0 ≤ (lI l) ∧ (lI l) ≤ 65535 ∧ 0 ≤ n ∧ n ≤ 65535) ∧ (((decide ((0 : Int) > (0 : Int))) || (decide (((lI l) * n) > (9223372036854775807 : Int)))) = true →
   False) ∧
  (((decide ((0 : Int) > (0 : Int))) || (decide (((lI l) * n) > (9223372036854775807 : Int)))) = false →
   (I64 ((lI l) * n)) ∧ (0 ≤ ((lI l) * n)) ∧ (((lI l) * n) ≤ ((lI l) * n)) ∧ (((lI l) * n) * 1 ≤ 70368744177664) ∧ (((lI l) * n) ≤ 70368744177664) ∧ ∃ (e2 : Unit) (d20 : (List Bool) × Int), ((True ∧ ((Nat.min (List.length l) (List.length (List.replicate (Int.toNat ((lI l) * n)) (false : Bool))) : Nat) : Int) = d20.2 ∧ True) ∧ ((((List.take (List.length (List.replicate (Int.toNat ((lI l) * n)) (false : Bool))) l) ++ (List.drop (List.length l) (List.replicate (Int.toNat ((lI l) * n)) (false : Bool)))) = d20.1 ∧ false = false) ∧ True)) ∧
   LoopP (fun (d2 : (List Bool) × Int) (q2 : ((List Bool) × Int) → Prop) =>
    ((decide (d2.2 < (lI d2.1))) = true →
     (0 ≤ d2.2) ∧ (d2.2 ≤ (lI d2.1)) ∧ ((lI d2.1) ≤ (List.length d2.1)) ∧ (0 ≤ (0 : Int)) ∧ ((0 : Int) ≤ d2.2) ∧ (d2.2 ≤ (List.length d2.1)) ∧ (I64 (d2.2 + ((Nat.min (List.length (List.take (Int.toNat (d2.2 - (0 : Int))) (List.drop (Int.toNat (0 : Int)) d2.1))) (Int.toNat ((lI d2.1) - d2.2)) : Nat) : Int))) ∧ (∃ d3 : (List Bool) × Int, ((True ∧ (d2.2 + ((Nat.min (List.length (List.take (Int.toNat (d2.2 - (0 : Int))) (List.drop (Int.toNat (0 : Int)) d2.1))) (Int.toNat ((lI d2.1) - d2.2)) : Nat) : Int)) = d3.2 ∧ True) ∧ ((((List.take (Int.toNat d2.2) d2.1) ++ ((List.take (Int.toNat ((lI d2.1) - d2.2)) (List.take (Int.toNat (d2.2 - (0 : Int))) (List.drop (Int.toNat (0 : Int)) d2.1))) ++ (List.drop ((Int.toNat d2.2) + Nat.min (List.length (List.take (Int.toNat (d2.2 - (0 : Int))) (List.drop (Int.toNat (0 : Int)) d2.1))) (Int.toNat ((lI d2.1) - d2.2))) d2.1))) = d3.1 ∧ false = false) ∧ True)) ∧ q2 d3)) ∧
    ((decide (d2.2 < (lI d2.1))) = false →
     (True ∧ ((d2.1 = (repL l n.toNat) ∧ false = false) ∧ True)))) d20))
def cx_slices_Repeat_bool_bool : Cx := ⟨[(4, .bo)], [(77, s_math_bits_Mul)], 48, [], 0, [], [], [], [], false⟩
def lp_slices_Repeat_bool_bool (l : List Bool) (n : Int) : List (Nat × LoopAnn) := [(0, ⟨Unit, (List Bool) × Int, [7, 8], fun e x => [.lst 30, .val (.i .i64) x.2], fun e x => [(30, .slot 7, .lst 4 .bo x.1 false)]⟩)]
set_option maxRecDepth 100000 in
theorem vq_slices_Repeat_bool_bool (d : List Bool × Int) : gwp (cx_slices_Repeat_bool_bool) (lp_slices_Repeat_bool_bool d.1 d.2) c51 0 (gend [.tmp 4] (res_slices_Repeat_bool_bool d) (obs_slices_Repeat_bool_bool d)) (gstart 48 (AL.can al_slices_Repeat_bool_bool d)) = vc_slices_Repeat_bool_bool d.1 d.2 := by kernel_rfl
abbrev Ok_slices_Repeat_bool_bool : Prop := OkC Tryz.prog 51 s_slices_Repeat_bool_bool
theorem mk_slices_Repeat_bool_bool (h : ∀ (l : List Bool) (n : Int), (l.length ≤ 1000 ∧ 0 ≤ n ∧ n ≤ 1000) → vc_slices_Repeat_bool_bool l n) : OkC Tryz.prog 51 s_slices_Repeat_bool_bool :=
 okC_vc fun51 mixed (C := cx_slices_Repeat_bool_bool) (V := fun (d : List Bool × Int) => vc_slices_Repeat_bool_bool d.1 d.2) ⟨(.cons ok_math_bits_Mul .nil), XsOk.nil, ItsOk.nil⟩ (vq_slices_Repeat_bool_bool) fun d hp => h d.1 d.2 hp
theorem ok_slices_Repeat_bool_bool : Ok_slices_Repeat_bool_bool := mk_slices_Repeat_bool_bool fun l n h => by
 obtain ⟨h1, h2, h3⟩ := h
 obtain ⟨m, rfl⟩ := Int.eq_ofNat_of_zero_le h2
 have hlm : l.length * m ≤ 1000 * 1000 := Nat.mul_le_mul h1 (by omega)
 have e1 : (l.length : Int) * (m : Int) = ((l.length * m : Nat) : Int) := by norm_cast
 unfold vc_slices_Repeat_bool_bool; (try delta lI gD sT I64); simp only [true_and, and_true, exists_const, decide_eq_true_eq, decide_eq_false_iff_not, Int.toNat_natCast, gt_iff_lt, e1, InK_i64, InK_u64, Int.sub_zero, List.length_replicate, Int.toNat_zero, List.drop_zero]
 refine ⟨by omega, fun _ => ⟨by omega, by omega, by omega, fun h => ?_, fun h => ⟨by omega, by omega, by omega, by omega, by omega, ?_⟩⟩⟩
 ·simp at h; omega
 refine ⟨(_, _), (by and_intros <;> first | rfl | trivial | simp), ?_⟩
 refine ⟨fun d => ∃ k : Nat, d.2 = k ∧ RepI l m d.1 k, fun d => d.1.length - d.2.toNat, ⟨_, rfl, repI_zero l m _⟩, ?_⟩
 rintro ⟨xs, _⟩ ⟨k, rfl, hI⟩
 dsimp only at hI ⊢
 have hxl := hI.1
 have hk := hI.2.1
 refine ⟨fun hlt => ?_, fun hge => ?_⟩
 ·have hlt : k < xs.length := by omega
  obtain ⟨g1, g2⟩ := repI_step hI hlt
  have e2 : ((xs.length : Int) - (k : Int)).toNat = xs.length - k := by omega
  have g3 := g1.2.1
  have g4 := g1.1
  have hc : Nat.min (List.take k xs).length (xs.length - k) ≤ 1000000 := by have : Nat.min (List.take k xs).length (xs.length - k) ≤ _ := Nat.min_le_left _ _; simp only [List.length_take] at this ⊢; omega
  simp only [Int.toNat_natCast, e2]
  generalize Nat.min (List.take k xs).length (xs.length - k) = c at g1 g2 g3 g4 hc ⊢
  refine ⟨by omega, by omega, by omega, by omega, by omega, by omega, ⟨by omega, by omega⟩, (_, ((k + c : Nat) : Int)), (by and_intros <;> first | rfl | trivial | omega), ⟨_, rfl, g1⟩, ?_⟩
  dsimp only
  rw [g4]; omega
 ·have := repI_end hI (by omega)
  rw [this]
def al_law11_sights : AL (List (Int × Int × Bool)) := (.one (.k (.list (.pair (.i .i64) (.pair (.i .i64) .bo)))))
def pre_law11_sights (d : List (Int × Int × Bool)) : Prop := d.length ≤ 110
def res_law11_sights (d : List (Int × Int × Bool)) : SV := .lst 0
def obs_law11_sights (d : List (Int × Int × Bool)) : List OB := [.lst 52 (.pair (.i .i64) (.pair (.i .i64) .bo)) d false]
def s_law11_sights : CSp := mkSp al_law11_sights pre_law11_sights res_law11_sights obs_law11_sights
def vc_law11_sights (s : List (Int × Int × Bool)) : Prop :=
 (((List.length ([] : List (Int × Int × Bool))) + (List.length s)) * 24 ≤ 70368744177664) ∧ (True ∧ (((([] : List (Int × Int × Bool)) ++ s) = s ∧ ((List.isEmpty s) && false) = false) ∧ True))
def cx_law11_sights : Cx := ⟨[(52, (.pair (.i .i64) (.pair (.i .i64) .bo)))], [], 6, [], 0, [], [], [], [], false⟩
def lp_law11_sights (s : List (Int × Int × Bool)) : List (Nat × LoopAnn) := []
set_option maxRecDepth 100000 in
theorem vq_law11_sights (d : List (Int × Int × Bool)) : gwp (cx_law11_sights) (lp_law11_sights d) c22 0 (gend [.tmp 2] (res_law11_sights d) (obs_law11_sights d)) (gstart 6 (AL.can al_law11_sights d)) = vc_law11_sights d := by kernel_rfl
abbrev Ok_law11_sights : Prop := OkC Tryz.prog 22 s_law11_sights
theorem mk_law11_sights (h : ∀ (s : List (Int × Int × Bool)), (s.length ≤ 110) → vc_law11_sights s) : OkC Tryz.prog 22 s_law11_sights :=
 okC_vc fun22 mixed (C := cx_law11_sights) (V := fun (d : List (Int × Int × Bool)) => vc_law11_sights d) ⟨.nil, XsOk.nil, ItsOk.nil⟩ (vq_law11_sights) fun d hp => h d hp
theorem ok_law11_sights : Ok_law11_sights := mk_law11_sights fun s h => by
 (unfold vc_law11_sights; (try delta lI gD sT I64); simp); omega
def al_eye_checkLoom : AL ((Int × List Int) × Int × List Int) := (.cons (.agg (.cons (.k (.i .i64)) (.one (.k (.list (.i .i64)))))) (.one (.agg (.cons (.k (.i .i64)) (.one (.k (.list (.i .i64))))))))
def pre_eye_checkLoom (d : (Int × List Int) × Int × List Int) : Prop := d.1.2.length ≤ 1000000 ∧ d.2.2.length ≤ 1000000
def res_eye_checkLoom (d : (Int × List Int) × Int × List Int) : SV := .val (.i .i64) (weaveErr d.1.1 d.1.2 d.2.1 d.2.2)
def obs_eye_checkLoom (d : (Int × List Int) × Int × List Int) : List OB := []
def s_eye_checkLoom : CSp := mkSp al_eye_checkLoom pre_eye_checkLoom res_eye_checkLoom obs_eye_checkLoom
def vc_eye_checkLoom (hk : Int) (lw : List Int) (hd : Int) (rows : List Int) : Prop :=
 (lw.length ≤ 1000000) ∧ (((tieErr hk lw) != (0 : Int)) = true →
  ((tieErr hk lw) = (weaveErr hk lw hd rows) ∧ (True))) ∧
 (((tieErr hk lw) != (0 : Int)) = false →
  (rows.length ≤ 1000000) ∧ (((pointErr hd rows) != (0 : Int)) = true →
   ((pointErr hd rows) = (weaveErr hk lw hd rows) ∧ (True))) ∧
  (((pointErr hd rows) != (0 : Int)) = false →
   ((hk != hd) = true →
    ((4 : Int) = (weaveErr hk lw hd rows) ∧ (True))) ∧
   ((hk != hd) = false →
    ((0 : Int) = (weaveErr hk lw hd rows) ∧ (True)))))
def cx_eye_checkLoom : Cx := ⟨[], [(38, s_tie_Check), (73, s_point_Check)], 22, [], 0, [], [], [], [], false⟩
def lp_eye_checkLoom (hk : Int) (lw : List Int) (hd : Int) (rows : List Int) : List (Nat × LoopAnn) := []
set_option maxRecDepth 100000 in
theorem vq_eye_checkLoom (d : (Int × List Int) × Int × List Int) : gwp (cx_eye_checkLoom) (lp_eye_checkLoom d.1.1 d.1.2 d.2.1 d.2.2) c48 0 (gend [.tmp 4] (res_eye_checkLoom d) (obs_eye_checkLoom d)) (gstart 22 (AL.can al_eye_checkLoom d)) = vc_eye_checkLoom d.1.1 d.1.2 d.2.1 d.2.2 := by kernel_rfl
abbrev Ok_eye_checkLoom : Prop := OkC Tryz.prog 48 s_eye_checkLoom
theorem mk_eye_checkLoom (h : ∀ (hk : Int) (lw : List Int) (hd : Int) (rows : List Int), (lw.length ≤ 1000000 ∧ rows.length ≤ 1000000) → vc_eye_checkLoom hk lw hd rows) : OkC Tryz.prog 48 s_eye_checkLoom :=
 okC_vc fun48 mixed (C := cx_eye_checkLoom) (V := fun (d : (Int × List Int) × Int × List Int) => vc_eye_checkLoom d.1.1 d.1.2 d.2.1 d.2.2) ⟨(.cons ok_tie_Check (.cons ok_point_Check .nil)), XsOk.nil, ItsOk.nil⟩ (vq_eye_checkLoom) fun d hp => h d.1.1 d.1.2 d.2.1 d.2.2 hp
theorem ok_eye_checkLoom : Ok_eye_checkLoom := mk_eye_checkLoom fun hk lw hd rows h => by
 unfold vc_eye_checkLoom; (try delta lI gD sT I64); simp only [and_true, bne_iff_ne, ne_eq, bne_eq_false_iff_eq]
 refine ⟨h.1, fun h1 => by simp [weaveErr, h1], fun h1 => ⟨h.2, fun h2 => by simp [weaveErr, h1, h2], fun h2 => ⟨fun h3 => ?_, fun h3 => ?_⟩⟩⟩
 ·have : ¬ hd = hk := fun e => h3 e.symm
  simp [weaveErr, h1, h2, this]
 ·subst h3; simp [weaveErr, h1, h2]
def al_slices_IndexFunc_api_FaultSight_api_FaultSight : AL ((List (Int × Int × Bool)) × ((Int × Int × Bool → Prop) × (Int × Int × Bool → Bool))) := (.cons (.k (.list (.pair (.i .i64) (.pair (.i .i64) .bo)))) (.one (.fn [(.pair (.i .i64) (.pair (.i .i64) .bo))] .bo)))
def pre_slices_IndexFunc_api_FaultSight_api_FaultSight (d : (List (Int × Int × Bool)) × ((Int × Int × Bool → Prop) × (Int × Int × Bool → Bool))) : Prop := d.1.length ≤ 1000000 ∧ ∀ x ∈ d.1, d.2.1 x
def res_slices_IndexFunc_api_FaultSight_api_FaultSight (d : (List (Int × Int × Bool)) × ((Int × Int × Bool → Prop) × (Int × Int × Bool → Bool))) : SV := .val (.i .i64) (idxG d.1 d.2.2)
def obs_slices_IndexFunc_api_FaultSight_api_FaultSight (d : (List (Int × Int × Bool)) × ((Int × Int × Bool → Prop) × (Int × Int × Bool → Bool))) : List OB := []
def s_slices_IndexFunc_api_FaultSight_api_FaultSight : CSp := mkSp al_slices_IndexFunc_api_FaultSight_api_FaultSight pre_slices_IndexFunc_api_FaultSight_api_FaultSight res_slices_IndexFunc_api_FaultSight_api_FaultSight obs_slices_IndexFunc_api_FaultSight_api_FaultSight
def vc_slices_IndexFunc_api_FaultSight_api_FaultSight (l : List (Int × Int × Bool)) (p : (Int × Int × Bool → Prop) × (Int × Int × Bool → Bool)) : Prop :=
 ∃ (e2 : Unit) (d20 : Int), ((l = l ∧ (SV.pf [(.pair (.i .i64) (.pair (.i .i64) .bo))] .bo p.1 p.2 = SV.pf [(.pair (.i .i64) (.pair (.i .i64) .bo))] .bo p.1 p.2) ∧ (lI l) = (lI l) ∧ (0 : Int) = d20 ∧ True) ∧ (True)) ∧
 LoopP (fun (d2 : Int) (q2 : (Int) → Prop) =>
  ((decide (d2 < (lI l))) = true →
   (0 ≤ d2) ∧ (d2 < (List.length l)) ∧ (p.1 ((gD l d2 (0, (0, false))).1, ((gD l d2 (0, (0, false))).2.1, (gD l d2 (0, (0, false))).2.2))) ∧ ((p.2 ((gD l d2 (0, (0, false))).1, ((gD l d2 (0, (0, false))).2.1, (gD l d2 (0, (0, false))).2.2))) = true →
    (d2 = (idxG l p.2) ∧ (True))) ∧
   ((p.2 ((gD l d2 (0, (0, false))).1, ((gD l d2 (0, (0, false))).2.1, (gD l d2 (0, (0, false))).2.2))) = false →
    (I64 (d2 + (1 : Int))) ∧ (∃ d3 : Int, ((l = l ∧ (SV.pf [(.pair (.i .i64) (.pair (.i .i64) .bo))] .bo p.1 p.2 = SV.pf [(.pair (.i .i64) (.pair (.i .i64) .bo))] .bo p.1 p.2) ∧ (lI l) = (lI l) ∧ (d2 + (1 : Int)) = d3 ∧ True) ∧ (True)) ∧ q2 d3))) ∧
  ((decide (d2 < (lI l))) = false →
   ((-1 : Int) = (idxG l p.2) ∧ (True)))) d20
def cx_slices_IndexFunc_api_FaultSight_api_FaultSight : Cx := ⟨[], [], 19, [], 0, [], [], [], [], false⟩
def lp_slices_IndexFunc_api_FaultSight_api_FaultSight (l : List (Int × Int × Bool)) (p : (Int × Int × Bool → Prop) × (Int × Int × Bool → Bool)) : List (Nat × LoopAnn) := [(0, ⟨Unit, Int, [0, 1, 7, 8], fun e x => [.val (.list (.pair (.i .i64) (.pair (.i .i64) .bo))) l, .pf [(.pair (.i .i64) (.pair (.i .i64) .bo))] .bo p.1 p.2, .val (.i .i64) (((List.length l) : Nat) : Int), .val (.i .i64) x], fun e x => []⟩)]
set_option maxRecDepth 100000 in
theorem vq_slices_IndexFunc_api_FaultSight_api_FaultSight (d : (List (Int × Int × Bool)) × ((Int × Int × Bool → Prop) × (Int × Int × Bool → Bool))) : gwp (cx_slices_IndexFunc_api_FaultSight_api_FaultSight) (lp_slices_IndexFunc_api_FaultSight_api_FaultSight d.1 d.2) c76 0 (gend [.tmp 4] (res_slices_IndexFunc_api_FaultSight_api_FaultSight d) (obs_slices_IndexFunc_api_FaultSight_api_FaultSight d)) (gstart 19 (AL.can al_slices_IndexFunc_api_FaultSight_api_FaultSight d)) = vc_slices_IndexFunc_api_FaultSight_api_FaultSight d.1 d.2 := by kernel_rfl
abbrev Ok_slices_IndexFunc_api_FaultSight_api_FaultSight : Prop := OkC Tryz.prog 76 s_slices_IndexFunc_api_FaultSight_api_FaultSight
theorem mk_slices_IndexFunc_api_FaultSight_api_FaultSight (h : ∀ (l : List (Int × Int × Bool)) (p : (Int × Int × Bool → Prop) × (Int × Int × Bool → Bool)), (l.length ≤ 1000000 ∧ ∀ x ∈ l, p.1 x) → vc_slices_IndexFunc_api_FaultSight_api_FaultSight l p) : OkC Tryz.prog 76 s_slices_IndexFunc_api_FaultSight_api_FaultSight :=
 okC_vc fun76 mixed (C := cx_slices_IndexFunc_api_FaultSight_api_FaultSight) (V := fun (d : (List (Int × Int × Bool)) × ((Int × Int × Bool → Prop) × (Int × Int × Bool → Bool))) => vc_slices_IndexFunc_api_FaultSight_api_FaultSight d.1 d.2) ⟨.nil, XsOk.nil, ItsOk.nil⟩ (vq_slices_IndexFunc_api_FaultSight_api_FaultSight) fun d hp => h d.1 d.2 hp
theorem ok_slices_IndexFunc_api_FaultSight_api_FaultSight : Ok_slices_IndexFunc_api_FaultSight_api_FaultSight := mk_slices_IndexFunc_api_FaultSight_api_FaultSight fun l p hp => by
 unfold vc_slices_IndexFunc_api_FaultSight_api_FaultSight; (try delta lI gD sT I64); simp only [true_and, and_true, exists_eq_left', exists_const, decide_eq_true_eq, decide_eq_false_iff_not]
 refine LoopP.count l.length (fun k => (l.take k).any p.2 = false) (by simp) fun k hk1 hJ q hq => ?_
 simp only [Int.toNat_natCast, Int.ofNat_lt, InK_i64]
 refine ⟨fun hlt => ?_, fun hge => ?_⟩
 ·have hlt : k < l.length := by omega
  rw [getD_nat hlt]
  refine ⟨by omega, by omega, hp.2 _ (List.getElem_mem hlt), fun hx => ?_, fun hx => ⟨by omega, hq hlt ?_⟩⟩
  ·rw [idxG_some hlt hx hJ]
  ·rw [take_succ_eq hlt, List.any_append, hJ]; simp [hx]
 ·rw [List.take_of_length_le (by omega)] at hJ
  rw [idxG_none hJ]
def al_slices_ContainsFunc_api_FaultSight_api_FaultSight : AL ((List (Int × Int × Bool)) × ((Int × Int × Bool → Prop) × (Int × Int × Bool → Bool))) := (.cons (.k (.list (.pair (.i .i64) (.pair (.i .i64) .bo)))) (.one (.fn [(.pair (.i .i64) (.pair (.i .i64) .bo))] .bo)))
def pre_slices_ContainsFunc_api_FaultSight_api_FaultSight (d : (List (Int × Int × Bool)) × ((Int × Int × Bool → Prop) × (Int × Int × Bool → Bool))) : Prop := d.1.length ≤ 1000000 ∧ ∀ x ∈ d.1, d.2.1 x
def res_slices_ContainsFunc_api_FaultSight_api_FaultSight (d : (List (Int × Int × Bool)) × ((Int × Int × Bool → Prop) × (Int × Int × Bool → Bool))) : SV := .val .bo (d.1.any d.2.2)
def obs_slices_ContainsFunc_api_FaultSight_api_FaultSight (d : (List (Int × Int × Bool)) × ((Int × Int × Bool → Prop) × (Int × Int × Bool → Bool))) : List OB := []
def s_slices_ContainsFunc_api_FaultSight_api_FaultSight : CSp := mkSp al_slices_ContainsFunc_api_FaultSight_api_FaultSight pre_slices_ContainsFunc_api_FaultSight_api_FaultSight res_slices_ContainsFunc_api_FaultSight_api_FaultSight obs_slices_ContainsFunc_api_FaultSight_api_FaultSight
def vc_slices_ContainsFunc_api_FaultSight_api_FaultSight (l : List (Int × Int × Bool)) (p : (Int × Int × Bool → Prop) × (Int × Int × Bool → Bool)) : Prop :=
 (l.length ≤ 1000000 ∧ ∀ x ∈ l, (fun (x1 : Int × Int × Bool) => p.1 (x1.1, (x1.2.1, x1.2.2))) x) ∧ ((decide ((idxG l (fun (x1 : Int × Int × Bool) => (p.2 (x1.1, (x1.2.1, x1.2.2))))) ≥ (0 : Int))) = (l.any p.2) ∧ (True))
def cx_slices_ContainsFunc_api_FaultSight_api_FaultSight : Cx := ⟨[], [(76, s_slices_IndexFunc_api_FaultSight_api_FaultSight)], 9, [], 0, [], [], [], [], false⟩
def lp_slices_ContainsFunc_api_FaultSight_api_FaultSight (l : List (Int × Int × Bool)) (p : (Int × Int × Bool → Prop) × (Int × Int × Bool → Bool)) : List (Nat × LoopAnn) := []
set_option maxRecDepth 100000 in
theorem vq_slices_ContainsFunc_api_FaultSight_api_FaultSight (d : (List (Int × Int × Bool)) × ((Int × Int × Bool → Prop) × (Int × Int × Bool → Bool))) : gwp (cx_slices_ContainsFunc_api_FaultSight_api_FaultSight) (lp_slices_ContainsFunc_api_FaultSight_api_FaultSight d.1 d.2) c49 0 (gend [.tmp 4] (res_slices_ContainsFunc_api_FaultSight_api_FaultSight d) (obs_slices_ContainsFunc_api_FaultSight_api_FaultSight d)) (gstart 9 (AL.can al_slices_ContainsFunc_api_FaultSight_api_FaultSight d)) = vc_slices_ContainsFunc_api_FaultSight_api_FaultSight d.1 d.2 := by kernel_rfl
abbrev Ok_slices_ContainsFunc_api_FaultSight_api_FaultSight : Prop := OkC Tryz.prog 49 s_slices_ContainsFunc_api_FaultSight_api_FaultSight
theorem mk_slices_ContainsFunc_api_FaultSight_api_FaultSight (h : ∀ (l : List (Int × Int × Bool)) (p : (Int × Int × Bool → Prop) × (Int × Int × Bool → Bool)), (l.length ≤ 1000000 ∧ ∀ x ∈ l, p.1 x) → vc_slices_ContainsFunc_api_FaultSight_api_FaultSight l p) : OkC Tryz.prog 49 s_slices_ContainsFunc_api_FaultSight_api_FaultSight :=
 okC_vc fun49 mixed (C := cx_slices_ContainsFunc_api_FaultSight_api_FaultSight) (V := fun (d : (List (Int × Int × Bool)) × ((Int × Int × Bool → Prop) × (Int × Int × Bool → Bool))) => vc_slices_ContainsFunc_api_FaultSight_api_FaultSight d.1 d.2) ⟨(.cons ok_slices_IndexFunc_api_FaultSight_api_FaultSight .nil), XsOk.nil, ItsOk.nil⟩ (vq_slices_ContainsFunc_api_FaultSight_api_FaultSight) fun d hp => h d.1 d.2 hp
theorem ok_slices_ContainsFunc_api_FaultSight_api_FaultSight : Ok_slices_ContainsFunc_api_FaultSight_api_FaultSight := mk_slices_ContainsFunc_api_FaultSight_api_FaultSight fun l p hp => by
 simp only [vc_slices_ContainsFunc_api_FaultSight_api_FaultSight]
 exact ⟨hp, idxG_any l p.2, trivial⟩
def al_eye_Hooks_1 : AL ((Int × Int × Bool) × Int × List Int) := (.cons (.agg (.cons (.k (.i .i64)) (.cons (.k (.i .i64)) (.one (.k .bo))))) (.one (.ptr (.cons (.k (.i .i64)) (.one (.k (.list (.i .i64))))))))
def pre_eye_Hooks_1 (d : (Int × Int × Bool) × Int × List Int) : Prop := d.2.2.length ≤ 1000000
def res_eye_Hooks_1 (d : (Int × Int × Bool) × Int × List Int) : SV := .val .bo (!inI d.1.1 0 119 || !inI d.1.2.1 0 (d.2.2.length - 1))
def obs_eye_Hooks_1 (d : (Int × Int × Bool) × Int × List Int) : List OB := []
def s_eye_Hooks_1 : CSp := mkSp al_eye_Hooks_1 pre_eye_Hooks_1 res_eye_Hooks_1 obs_eye_Hooks_1
def vc_eye_Hooks_1 (p : Int) (w : Int) (u : Bool) (hk : Int) (lw : List Int) : Prop :=
 ([p].length ≤ 1000000) ∧ ((!(!([p].any fun n => decide (n < (0 : Int)) || decide ((119 : Int) < n)))) = false → InK .i64 ((lI lw) - (1 : Int))) ∧ ((!(!([p].any fun n => decide (n < (0 : Int)) || decide ((119 : Int) < n)))) = false → True) ∧ ((!(!([p].any fun n => decide (n < (0 : Int)) || decide ((119 : Int) < n)))) = false → [w].length ≤ 1000000) ∧ (((!(!([p].any fun n => decide (n < (0 : Int)) || decide ((119 : Int) < n)))) || (!(!([w].any fun n => decide (n < (0 : Int)) || decide (((lI lw) - (1 : Int)) < n))))) = (!inI p 0 119 || !inI w 0 (lw.length - 1)) ∧ (True))
def cx_eye_Hooks_1 : Cx := ⟨[(3, (.i .i64))], [(39, s_eye_within)], 20, [], 0, [], [], [], [], false⟩
def lp_eye_Hooks_1 (p : Int) (w : Int) (u : Bool) (hk : Int) (lw : List Int) : List (Nat × LoopAnn) := []
set_option maxRecDepth 100000 in
theorem vq_eye_Hooks_1 (d : (Int × Int × Bool) × Int × List Int) : gwp (cx_eye_Hooks_1) (lp_eye_Hooks_1 d.1.1 d.1.2.1 d.1.2.2 d.2.1 d.2.2) c47 0 (gend [.tmp 3] (res_eye_Hooks_1 d) (obs_eye_Hooks_1 d)) (gstart 20 (AL.can al_eye_Hooks_1 d)) = vc_eye_Hooks_1 d.1.1 d.1.2.1 d.1.2.2 d.2.1 d.2.2 := by kernel_rfl
abbrev Ok_eye_Hooks_1 : Prop := OkC Tryz.prog 47 s_eye_Hooks_1
theorem mk_eye_Hooks_1 (h : ∀ (p : Int) (w : Int) (u : Bool) (hk : Int) (lw : List Int), (lw.length ≤ 1000000) → vc_eye_Hooks_1 p w u hk lw) : OkC Tryz.prog 47 s_eye_Hooks_1 :=
 okC_vc fun47 mixed (C := cx_eye_Hooks_1) (V := fun (d : (Int × Int × Bool) × Int × List Int) => vc_eye_Hooks_1 d.1.1 d.1.2.1 d.1.2.2 d.2.1 d.2.2) ⟨(.cons ok_eye_within .nil), XsOk.nil, ItsOk.nil⟩ (vq_eye_Hooks_1) fun d hp => h d.1.1 d.1.2.1 d.1.2.2 d.2.1 d.2.2 hp
theorem ok_eye_Hooks_1 : Ok_eye_Hooks_1 := mk_eye_Hooks_1 fun p w u hk lw h => by
 unfold vc_eye_Hooks_1; (try delta lI gD sT I64); simp only [and_true, InK_i64, List.length_singleton, nI, List.any_cons, List.any_nil, Bool.or_false, Bool.not_not]
 and_intros <;> (intros; first | trivial | omega)
end Go.Proofs.Tryz
set_option linter.unusedVariables false
namespace Go.Proofs.Tryz
open Go Go.V Go.Proofs
def al_eye_Hooks : AL ((Int × List Int) × (Int × List Int) × List (Int × Int × Bool)) := (.cons (.agg (.cons (.k (.i .i64)) (.one (.k (.list (.i .i64)))))) (.cons (.agg (.cons (.k (.i .i64)) (.one (.k (.list (.i .i64)))))) (.one (.k (.list (.pair (.i .i64) (.pair (.i .i64) .bo)))))))
def pre_eye_Hooks (d : (Int × List Int) × (Int × List Int) × List (Int × Int × Bool)) : Prop := d.1.2.length ≤ 110 ∧ d.2.1.2.length ≤ 110 ∧ d.2.2.length ≤ 110
def res_eye_Hooks (d : (Int × List Int) × (Int × List Int) × List (Int × Int × Bool)) : SV := .tup [.lst 0, .lst 1, .val (.i .i64) (hooksErr d.1.1 d.1.2 d.2.1.1 d.2.1.2 d.2.2)]
def obs_eye_Hooks (d : (Int × List Int) × (Int × List Int) × List (Int × Int × Bool)) : List OB := [.lst 3 (.i .i64) (hooksW d.1.1 d.1.2 d.2.1.1 d.2.1.2 d.2.2) ((hooksW d.1.1 d.1.2 d.2.1.1 d.2.1.2 d.2.2).isEmpty), .lst 4 .bo (looseW d.1.1 d.1.2 d.2.1.1 d.2.1.2 d.2.2) ((looseW d.1.1 d.1.2 d.2.1.1 d.2.1.2 d.2.2).isEmpty)]
def s_eye_Hooks : CSp := mkSp al_eye_Hooks pre_eye_Hooks res_eye_Hooks obs_eye_Hooks
def vc_eye_Hooks (hk : Int) (lw : List Int) (hd : Int) (rows : List Int) (s : List (Int × Int × Bool)) : Prop :=
 (lw.length ≤ 1000000 ∧ rows.length ≤ 1000000) ∧ (((weaveErr hk lw hd rows) != (0 : Int)) = true →
  ((True ∧ True ∧ (weaveErr hk lw hd rows) = hooksErr hk lw hd rows s ∧ (([] : List SV) = [])) ∧ (((hooksW hk lw hd rows s) = [] ∧ (hooksW hk lw hd rows s).isEmpty = true) ∧ ((looseW hk lw hd rows s) = [] ∧ (looseW hk lw hd rows s).isEmpty = true) ∧ True))) ∧
 (((weaveErr hk lw hd rows) != (0 : Int)) = false →
  ((decide ((lI s) > (60 : Int))) = true →
   ((True ∧ True ∧ (5 : Int) = hooksErr hk lw hd rows s ∧ (([] : List SV) = [])) ∧ (((hooksW hk lw hd rows s) = [] ∧ (hooksW hk lw hd rows s).isEmpty = true) ∧ ((looseW hk lw hd rows s) = [] ∧ (looseW hk lw hd rows s).isEmpty = true) ∧ True))) ∧
  ((decide ((lI s) > (60 : Int))) = false →
   (s.length ≤ 1000000 ∧ ∀ x ∈ s, (fun (x1 : Int × Int × Bool) => lw.length ≤ 1000000) x) ∧ ((s.any (fun (x1 : Int × Int × Bool) => (!inI x1.1 0 119 || !inI x1.2.1 0 (lw.length - 1)))) = true →
    ((True ∧ True ∧ (2 : Int) = hooksErr hk lw hd rows s ∧ (([] : List SV) = [])) ∧ (((hooksW hk lw hd rows s) = [] ∧ (hooksW hk lw hd rows s).isEmpty = true) ∧ ((looseW hk lw hd rows s) = [] ∧ (looseW hk lw hd rows s).isEmpty = true) ∧ True))) ∧
   ((s.any (fun (x1 : Int × Int × Bool) => (!inI x1.1 0 119 || !inI x1.2.1 0 (lw.length - 1)))) = false →
    ∃ (e3 : Unit) (d30 : Int × Int), ((s = s ∧ True ∧ True ∧ (0 : Int) = d30.1 ∧ lw = lw ∧ (lI lw) = (lI lw) ∧ (0 : Int) = d30.2 ∧ True) ∧ ((hk = hk ∧ lw = lw ∧ (([] : List SV) = [])) ∧ (hd = hd ∧ rows = rows ∧ (([] : List SV) = [])) ∧ True)) ∧
    LoopP (fun (d3 : Int × Int) (q3 : (Int × Int) → Prop) =>
     ((decide (d3.2 < (lI lw))) = true →
      (0 ≤ d3.2) ∧ (d3.2 < (List.length lw)) ∧ (0 ≤ (gD lw d3.2 0)) ∧ (I64 (shlI .i64 (1 : Int) (gD lw d3.2 0))) ∧ (I64 (d3.2 + (1 : Int))) ∧ (∃ d4 : Int × Int, ((s = s ∧ True ∧ True ∧ (vbits .or .i64 d3.1 (shlI .i64 (1 : Int) (gD lw d3.2 0))) = d4.1 ∧ lw = lw ∧ (lI lw) = (lI lw) ∧ (d3.2 + (1 : Int)) = d4.2 ∧ True) ∧ ((hk = hk ∧ lw = lw ∧ (([] : List SV) = [])) ∧ (hd = hd ∧ rows = rows ∧ (([] : List SV) = [])) ∧ True)) ∧ q3 d4)) ∧
     ((decide (d3.2 < (lI lw))) = false →
      ([d3.1].length ≤ 1000 ∧ 0 ≤ (lI lw) ∧ (lI lw) ≤ 1000) ∧ (false = true → (repL [d3.1] (lI lw).toNat) = []) ∧ ((s = s ∧ True ∧ True ∧ True ∧ (lI lw) = (lI lw) ∧ True) ∧ ((hk = hk ∧ lw = lw ∧ (([] : List SV) = [])) ∧ (hd = hd ∧ rows = rows ∧ (([] : List SV) = [])) ∧ ([d3.1] = [d3.1] ∧ false = false) ∧ ((repL [d3.1] (lI lw).toNat) = (repL [d3.1] (lI lw).toNat) ∧ false = false) ∧ ([true] = [true] ∧ false = false) ∧ True)) ∧ (([d3.1].length ≤ 1000 ∧ 0 ≤ (lI lw) ∧ (lI lw) ≤ 1000) ∧ (false = true → (repL [d3.1] (lI lw).toNat) = []) ∧ ((s = s ∧ True ∧ True ∧ True ∧ (lI lw) = (lI lw) ∧ True) ∧ ((hk = hk ∧ lw = lw ∧ (([] : List SV) = [])) ∧ (hd = hd ∧ rows = rows ∧ (([] : List SV) = [])) ∧ ([d3.1] = [d3.1] ∧ false = false) ∧ ((repL [d3.1] (lI lw).toNat) = (repL [d3.1] (lI lw).toNat) ∧ false = false) ∧ ([true] = [true] ∧ false = false) ∧ True))) ∧ (([d3.1].length ≤ 1000 ∧ 0 ≤ (lI lw) ∧ (lI lw) ≤ 1000) ∧ (false = true → (repL [d3.1] (lI lw).toNat) = []) ∧ ((s = s ∧ True ∧ True ∧ True ∧ (lI lw) = (lI lw) ∧ True) ∧ ((hk = hk ∧ lw = lw ∧ (([] : List SV) = [])) ∧ (hd = hd ∧ rows = rows ∧ (([] : List SV) = [])) ∧ ([d3.1] = [d3.1] ∧ false = false) ∧ ((repL [d3.1] (lI lw).toNat) = (repL [d3.1] (lI lw).toNat) ∧ false = false) ∧ ([true] = [true] ∧ false = false) ∧ True))) ∧ ([true].length ≤ 1000 ∧ 0 ≤ (lI lw) ∧ (lI lw) ≤ 1000) ∧ ∃ (e7 : Unit) (d70 : (List Int) × (List Bool) × Int), ((True ∧ True ∧ True ∧ s = s ∧ (lI s) = (lI s) ∧ (0 : Int) = d70.2.2 ∧ True) ∧ ((hd = hd ∧ rows = rows ∧ (([] : List SV) = [])) ∧ ((repL [d3.1] (lI lw).toNat) = d70.1 ∧ false = false) ∧ ((repL [true] (lI lw).toNat) = d70.2.1 ∧ false = false) ∧ True)) ∧
      LoopP (fun (d7 : (List Int) × (List Bool) × Int) (q7 : ((List Int) × (List Bool) × Int) → Prop) =>
       ((decide (d7.2.2 < (lI s))) = true →
        (0 ≤ d7.2.2) ∧ (d7.2.2 < (List.length s)) ∧ ((lI rows) ≠ 0) ∧ (0 ≤ (Int.tmod (gD s d7.2.2 (0, (0, false))).1 (lI rows))) ∧ ((Int.tmod (gD s d7.2.2 (0, (0, false))).1 (lI rows)) < (List.length rows)) ∧ ((gD s d7.2.2 (0, (0, false))).2.2 = true →
         (0 ≤ (gD s d7.2.2 (0, (0, false))).2.1) ∧ ((gD s d7.2.2 (0, (0, false))).2.1 < (List.length d7.1)) ∧ (0 ≤ (gD s d7.2.2 (0, (0, false))).2.1) ∧ ((gD s d7.2.2 (0, (0, false))).2.1 < (List.length d7.1)) ∧ (0 ≤ (gD s d7.2.2 (0, (0, false))).2.1) ∧ ((gD s d7.2.2 (0, (0, false))).2.1 < (List.length d7.2.1)) ∧ (I64 (d7.2.2 + (1 : Int))) ∧ (∃ d8 : (List Int) × (List Bool) × Int, ((True ∧ True ∧ True ∧ s = s ∧ (lI s) = (lI s) ∧ (d7.2.2 + (1 : Int)) = d8.2.2 ∧ True) ∧ ((hd = hd ∧ rows = rows ∧ (([] : List SV) = [])) ∧ ((List.set d7.1 (Int.toNat (gD s d7.2.2 (0, (0, false))).2.1) (vbits .and .i64 (List.getD d7.1 (Int.toNat (gD s d7.2.2 (0, (0, false))).2.1) 0) (gD rows (Int.tmod (gD s d7.2.2 (0, (0, false))).1 (lI rows)) 0))) = d8.1 ∧ false = false) ∧ ((List.set d7.2.1 (Int.toNat (gD s d7.2.2 (0, (0, false))).2.1) false) = d8.2.1 ∧ false = false) ∧ True)) ∧ q7 d8)) ∧
        ((gD s d7.2.2 (0, (0, false))).2.2 = false →
         (0 ≤ (gD s d7.2.2 (0, (0, false))).2.1) ∧ ((gD s d7.2.2 (0, (0, false))).2.1 < (List.length d7.1)) ∧ (0 ≤ (gD s d7.2.2 (0, (0, false))).2.1) ∧ ((gD s d7.2.2 (0, (0, false))).2.1 < (List.length d7.1)) ∧ (I64 (d7.2.2 + (1 : Int))) ∧ (∃ d9 : (List Int) × (List Bool) × Int, ((True ∧ True ∧ True ∧ s = s ∧ (lI s) = (lI s) ∧ (d7.2.2 + (1 : Int)) = d9.2.2 ∧ True) ∧ ((hd = hd ∧ rows = rows ∧ (([] : List SV) = [])) ∧ ((List.set d7.1 (Int.toNat (gD s d7.2.2 (0, (0, false))).2.1) (vbits .andNot .i64 (List.getD d7.1 (Int.toNat (gD s d7.2.2 (0, (0, false))).2.1) 0) (gD rows (Int.tmod (gD s d7.2.2 (0, (0, false))).1 (lI rows)) 0))) = d9.1 ∧ false = false) ∧ (d7.2.1 = d9.2.1 ∧ false = false) ∧ True)) ∧ q7 d9))) ∧
       ((decide (d7.2.2 < (lI s))) = false →
        ((True ∧ True ∧ (0 : Int) = hooksErr hk lw hd rows s ∧ (([] : List SV) = [])) ∧ ((d7.1 = (hooksW hk lw hd rows s) ∧ false = (hooksW hk lw hd rows s).isEmpty) ∧ (d7.2.1 = (looseW hk lw hd rows s) ∧ false = (looseW hk lw hd rows s).isEmpty) ∧ True)))) d70)) d30)))
def cx_eye_Hooks : Cx := ⟨[(3, (.i .i64)), (4, .bo)], [(48, s_eye_checkLoom), (49, s_slices_ContainsFunc_api_FaultSight_api_FaultSight), (47, s_eye_Hooks_1), (50, s_slices_Repeat_int_int), (51, s_slices_Repeat_bool_bool)], 97, [], 0, [], [], [], [2, 4, 50, 51, 54], false⟩
def lp_eye_Hooks (hk : Int) (lw : List Int) (hd : Int) (rows : List Int) (s : List (Int × Int × Bool)) : List (Nat × LoopAnn) := [(1, ⟨Unit, Int × Int, [2, 3, 4, 11, 34, 35, 36], fun e x => [.val (.list (.pair (.i .i64) (.pair (.i .i64) .bo))) s, .box 3 0, .box 4 0, .val (.i .i64) x.1, .val (.list (.i .i64)) lw, .val (.i .i64) (((List.length lw) : Nat) : Int), .val (.i .i64) x.2], fun e x => [(3, .slot 3, .cells [.val (.i .i64) hk, .val (.list (.i .i64)) lw] (some 24)), (4, .slot 4, .cells [.val (.i .i64) hd, .val (.list (.i .i64)) rows] (some 26))]⟩),
 (3, ⟨Unit, (List Int) × (List Bool) × Int, [4, 6, 7, 56, 57, 58], fun e x => [.box 4 0, .lst 50, .lst 55, .val (.list (.pair (.i .i64) (.pair (.i .i64) .bo))) s, .val (.i .i64) (((List.length s) : Nat) : Int), .val (.i .i64) x.2.2], fun e x => [(4, .slot 4, .cells [.val (.i .i64) hd, .val (.list (.i .i64)) rows] (some 26)), (50, .slot 6, .lst 3 (.i .i64) x.1 false), (55, .slot 7, .lst 4 .bo x.2.1 false)]⟩)]
set_option maxRecDepth 100000 in
theorem vq_eye_Hooks (d : (Int × List Int) × (Int × List Int) × List (Int × Int × Bool)) : gwp (cx_eye_Hooks) (lp_eye_Hooks d.1.1 d.1.2 d.2.1.1 d.2.1.2 d.2.2) c23 0 (gend [.tmp 6, .tmp 7, .tmp 8] (res_eye_Hooks d) (obs_eye_Hooks d)) (gstart 97 (AL.can al_eye_Hooks d)) = vc_eye_Hooks d.1.1 d.1.2 d.2.1.1 d.2.1.2 d.2.2 := by kernel_rfl
abbrev Ok_eye_Hooks : Prop := OkC Tryz.prog 23 s_eye_Hooks
theorem mk_eye_Hooks (h : ∀ (hk : Int) (lw : List Int) (hd : Int) (rows : List Int) (s : List (Int × Int × Bool)), (lw.length ≤ 110 ∧ rows.length ≤ 110 ∧ s.length ≤ 110) → vc_eye_Hooks hk lw hd rows s) : OkC Tryz.prog 23 s_eye_Hooks :=
 okC_vc fun23 mixed (C := cx_eye_Hooks) (V := fun (d : (Int × List Int) × (Int × List Int) × List (Int × Int × Bool)) => vc_eye_Hooks d.1.1 d.1.2 d.2.1.1 d.2.1.2 d.2.2) ⟨(.cons ok_eye_checkLoom (.cons ok_slices_ContainsFunc_api_FaultSight_api_FaultSight (.cons ok_eye_Hooks_1 (.cons ok_slices_Repeat_int_int (.cons ok_slices_Repeat_bool_bool .nil))))), XsOk.nil, ItsOk.nil⟩ (vq_eye_Hooks) fun d hp => h d.1.1 d.1.2 d.2.1.1 d.2.1.2 d.2.2 hp
theorem vandNot_nat {x y : Nat} (hx : x < 9223372036854775808) (hy : y < 9223372036854775808) : vbits .andNot .i64 x y = ((x ^^^ (x &&& y) : Nat) : Int) := by
 have hlt : x ^^^ (x &&& y) < 9223372036854775808 := xor_lt63 hx (and_lt63 hx)
 have e : (BitVec.ofInt 64 (x : Int) &&& ~~~ BitVec.ofInt 64 (y : Int)).toNat = x ^^^ (x &&& y) := by
  have h1 : (BitVec.ofNat 64 x &&& ~~~ BitVec.ofNat 64 y) = BitVec.ofNat 64 (x ^^^ (x &&& y)) := by
   apply BitVec.eq_of_getLsbD_eq
   intro i hi
   simp only [BitVec.getLsbD_and, BitVec.getLsbD_not, BitVec.getLsbD_ofNat, hi, decide_true, Bool.true_and, Nat.testBit_xor, Nat.testBit_and]
   cases x.testBit i <;> cases y.testBit i <;> rfl
  rw [ofInt_nat, ofInt_nat, h1, BitVec.toNat_ofNat, Nat.mod_eq_of_lt (by omega)]
 show IntKind.wrap .i64 ((BitVec.ofInt 64 (x : Int) &&& ~~~ BitVec.ofInt 64 (y : Int)).toNat : Int) = _
 rw [e, Go.V.wrap_small hlt]
theorem weaveErr_tie {hk : Int} {lw : List Int} {hd : Int} {rows : List Int} (h : weaveErr hk lw hd rows = 0) : tieErr hk lw = 0 := by
 unfold weaveErr at h
 split at h
 ·contradiction
 ·rename_i h1; simpa using h1
theorem allN_snoc (l : List Int) (x : Int) : allN (l ++ [x]) = allN l ||| 2 ^ x.toNat := by simp [allN]
theorem seeN_lt {rows : List Int} {w b : Nat} {x : SI} (h : b < 9223372036854775808) : seeN rows w b x < 9223372036854775808 := by
 unfold seeN
 split
 ·split
  ·exact and_lt63 h
  ·exact xor_lt63 h (and_lt63 h)
 ·exact h
theorem foldl_lt {rows : List Int} {w : Nat} : ∀ (s : List SI) (b : Nat), b < 9223372036854775808 → s.foldl (seeN rows w) b < 9223372036854775808
 | [], b, h => h
 | x :: s, b, h => foldl_lt s _ (seeN_lt h)
theorem hooksI_nil (lw rows : List Int) : hooksI lw rows [] = List.replicate lw.length ((allN lw : Nat) : Int) := by
 apply List.ext_getElem (by simp [hooksI])
 intro i h1 h2
 simp [hooksI, hookN]
theorem looseI_nil (lw : List Int) : looseI lw [] = List.replicate lw.length true := by
 apply List.ext_getElem (by simp [looseI])
 intro i h1 h2
 simp [looseI]
theorem hooksI_len (lw rows : List Int) (s : List SI) : (hooksI lw rows s).length = lw.length := by simp [hooksI]
theorem looseI_len (lw : List Int) (s : List SI) : (looseI lw s).length = lw.length := by simp [looseI]
theorem hooksI_snoc {lw rows : List Int} {s : List SI} {x : SI} {w : Nat} (hx : x.2.1 = w) : hooksI lw rows (s ++ [x]) = (hooksI lw rows s).set w ((seeN rows w (hookN lw rows s w) x : Nat) : Int) := by
 apply List.ext_getElem (by simp [hooksI])
 intro i h1 h2
 rw [List.getElem_set]
 by_cases e : w = i
 ·subst e; simp [hooksI, hookN]
 ·rw [if_neg e]
  have : ¬ (w : Int) = i := by omega
  simp [hooksI, hookN, seeN, hx, this]
theorem looseI_snoc {lw : List Int} {s : List SI} {x : SI} {w : Nat} (hx : x.2.1 = w) : looseI lw (s ++ [x]) = if x.2.2 then (looseI lw s).set w false else looseI lw s := by
 cases hu : x.2.2 with
 | true =>
  rw [if_pos rfl]
  apply List.ext_getElem (by simp [looseI])
  intro i h1 h2
  rw [List.getElem_set]
  by_cases e : w = i
  ·subst e; simp [looseI, hx, hu]
  ·rw [if_neg e]
   have : ¬ (w : Int) = i := by omega
   simp [looseI, hx, hu, this]
 | false =>
  rw [if_neg (by simp)]
  apply List.ext_getElem (by simp [looseI])
  intro i h1 h2
  simp [looseI, hu]
theorem ok_eye_Hooks : Ok_eye_Hooks := mk_eye_Hooks fun hk lw hd rows s h => by
 obtain ⟨h1, h2, h3⟩ := h
 unfold vc_eye_Hooks; (try delta lI gD sT I64); simp only [true_and, and_true, exists_const, decide_eq_true_eq, decide_eq_false_iff_not, bne_iff_ne, ne_eq, bne_eq_false_iff_eq, Int.toNat_natCast, gt_iff_lt, InK_i64, repL_one]
 refine ⟨⟨by omega, by omega⟩, fun he => ?_, fun he => ⟨fun h4 => ?_, fun h4 => ⟨⟨by omega, fun _ _ => by omega⟩, fun h5 => ?_, fun h5 => ?_⟩⟩⟩
 ·simp [hooksErr, hooksW, looseW, he]
 ·have h4 : 60 < s.length := by omega
  simp [hooksErr, hooksW, looseW, he, h4]
 ·have h4 : ¬ 60 < s.length := by omega
  have e0 : hooksErr hk lw hd rows s = 2 := by unfold hooksErr; rw [if_neg (by simp [he]), if_neg h4, if_pos h5]
  simp [hooksW, looseW, e0]
 have h4 : ¬ 60 < s.length := by omega
 have e0 : hooksErr hk lw hd rows s = 0 := by unfold hooksErr; rw [if_neg (by simp [he]), if_neg h4, if_neg (by simp [h5])]
 have e1 : hooksW hk lw hd rows s = hooksI lw rows s := by simp [hooksW, e0]
 have e2 : looseW hk lw hd rows s = looseI lw s := by simp [looseW, e0]
 obtain ⟨t1, t2, t3, t4, t5⟩ := tieErr_zero (weaveErr_tie he)
 obtain ⟨w1, w2⟩ := weaveErr_zero he
 obtain ⟨p1, p2, p3, p4, p5⟩ := pointErr_zero w1
 have hpw := pow_bound p1 p2
 have hs5 : ∀ x ∈ s, (0 ≤ x.1 ∧ x.1 ≤ 119) ∧ 0 ≤ x.2.1 ∧ x.2.1 < lw.length := fun x hx => by
  have := List.any_eq_false.1 h5 x hx
  simp only [Bool.or_eq_true, Bool.not_eq_true', inI, Bool.and_eq_false_iff, decide_eq_false_iff_not] at this
  omega
 have hbnd : ∀ k, k ≤ lw.length → allN (lw.take k) < 9223372036854775808 := fun k hk => by
  induction k with
  | zero => simp [allN]
  | succ k ih =>
   have hlt : k < lw.length := by omega
   rw [take_succ_eq hlt, allN_snoc]
   have hx := t5 _ (List.getElem_mem hlt)
   have hp3 : 2 ^ lw[k].toNat ≤ 2 ^ 24 := Nat.pow_le_pow_right (by omega) (by omega)
   exact or_lt63 (ih (by omega)) (by omega)
 rw [e0, e1, e2]
 refine ⟨(0, 0), (by and_intros <;> first | rfl | trivial | simp), ?_⟩
 refine LoopP.count2 lw.length (fun k x => x = ((allN (lw.take k) : Nat) : Int)) rfl fun k x hk hJ q hq => ?_
 dsimp only
 refine ⟨fun hlt => ?_, fun hge => ?_⟩
 ·have hlt : k < lw.length := by omega
  have hx := t5 _ (List.getElem_mem hlt)
  have hsh := shl_one (h := lw[k]) hx.1 (by omega)
  have hp2 : (2 : Int) ^ lw[k].toNat = ((2 ^ lw[k].toNat : Nat) : Int) := by norm_cast
  have hp3 : 2 ^ lw[k].toNat ≤ 2 ^ 24 := Nat.pow_le_pow_right (by omega) (by omega)
  have hp4 : (-9223372036854775808 : Int) ≤ ((2 ^ lw[k].toNat : Nat) : Int) ∧ ((2 ^ lw[k].toNat : Nat) : Int) ≤ 9223372036854775807 := ⟨by have := Int.natCast_nonneg (2 ^ lw[k].toNat); omega, by have := Int.ofNat_le.2 hp3; simp only [Nat.reducePow] at this; omega⟩
  simp only [Int.toNat_natCast, getD_nat hlt, hsh, hp2, hJ, vor_nat (hbnd k hk) (show 2 ^ lw[k].toNat < 9223372036854775808 by omega)]
  refine ⟨by omega, by omega, by omega, hp4, by omega, (((allN (lw.take k) ||| 2 ^ lw[k].toNat : Nat) : Int), (k : Int) + 1), (by and_intros <;> first | rfl | trivial | simp), hq _ hlt ?_⟩
  rw [take_succ_eq hlt, allN_snoc]
 ·have : k = lw.length := by omega
  subst this
  rw [List.take_length] at hJ
  have hb := hbnd _ (Nat.le_refl _)
  rw [List.take_length] at hb
  rw [hJ]
  simp only [List.length_singleton]
  and_intros
  all_goals try (first | omega | (intro h; simp at h; done))
  all_goals (try simp only [true_and])
  all_goals try (first | omega | (intro h; simp at h; done))
  rw [← hooksI_nil lw rows, ← looseI_nil lw]
  refine ⟨(hooksI lw rows [], looseI lw [], 0), (by and_intros <;> first | rfl | trivial | simp), ?_⟩
  refine ⟨fun d => ∃ i : Nat, i ≤ s.length ∧ d.2.2 = i ∧ d.1 = hooksI lw rows (s.take i) ∧ d.2.1 = looseI lw (s.take i), fun d => s.length - d.2.2.toNat, ⟨0, Nat.zero_le _, rfl, by simp, by simp⟩, ?_⟩
  rintro ⟨a, b, _⟩ ⟨i, hi, rfl, ha, hb2⟩
  dsimp only at ha hb2 ⊢
  subst ha hb2
  refine ⟨fun hlt => ?_, fun hge => ?_⟩
  ·have hlt : i < s.length := by omega
   obtain ⟨hx1, hx2⟩ := hs5 _ (List.getElem_mem hlt)
   obtain ⟨w, hw⟩ := Int.eq_ofNat_of_zero_le hx2.1
   obtain ⟨p, hp⟩ := Int.eq_ofNat_of_zero_le hx1.1
   have hpm : p % rows.length < rows.length := Nat.mod_lt _ (by omega)
   have hmod : Int.tmod (p : Int) (rows.length : Int) = ((p % rows.length : Nat) : Int) := rfl
   have hrow := p5 _ (List.getElem_mem hpm)
   obtain ⟨r, hr⟩ := Int.eq_ofNat_of_zero_le hrow.1
   have hra : rowAt rows s[i].1 = r := by unfold rowAt; rw [hp, Int.toNat_natCast, getD_nat hpm, hr]; rfl
   have hwl : w < lw.length := by omega
   have hgw : (hooksI lw rows (s.take i)).getD w 0 = ((hookN lw rows (s.take i) w : Nat) : Int) := by
    rw [getD_nat (by rw [hooksI_len]; exact hwl)]; simp [hooksI]
   have hbw : hookN lw rows (s.take i) w < 9223372036854775808 := foldl_lt _ _ hb
   simp only [Int.toNat_natCast, getD_nat hlt, hw, hp, hmod, getD_nat hpm, hr, hgw, hooksI_len, looseI_len, vand_nat hbw (show r < 9223372036854775808 by omega), vandNot_nat hbw (show r < 9223372036854775808 by omega)]
   refine ⟨by omega, by omega, by omega, by omega, by omega, fun hu => ?_, fun hu => ?_⟩
   ·refine ⟨by omega, by omega, by omega, by omega, by omega, by omega, by omega, ((hooksI lw rows (s.take i)).set w ((hookN lw rows (s.take i) w &&& r : Nat) : Int), (looseI lw (s.take i)).set w false, (i : Int) + 1), (by and_intros <;> first | rfl | trivial | simp), ⟨i + 1, by omega, rfl, ?_, ?_⟩, by dsimp only; omega⟩
    ·rw [take_succ_eq hlt, hooksI_snoc hw]; unfold seeN; rw [if_pos hw, if_pos hu, hra]
    ·rw [take_succ_eq hlt, looseI_snoc hw, if_pos hu]
   ·refine ⟨by omega, by omega, by omega, by omega, by omega, ((hooksI lw rows (s.take i)).set w ((hookN lw rows (s.take i) w ^^^ hookN lw rows (s.take i) w &&& r : Nat) : Int), looseI lw (s.take i), (i : Int) + 1), (by and_intros <;> first | rfl | trivial | simp), ⟨i + 1, by omega, rfl, ?_, ?_⟩, by dsimp only; omega⟩
    ·rw [take_succ_eq hlt, hooksI_snoc hw]; unfold seeN; rw [if_pos hw, if_neg (by simp [hu]), hra]
    ·rw [take_succ_eq hlt, looseI_snoc hw, if_neg (by simp [hu])]
  ·have : i = s.length := by omega
   subst this
   rw [List.take_length]
   have n1 : (hooksI lw rows s).isEmpty = false := by
    cases h : hooksI lw rows s with
    | nil => have := hooksI_len lw rows s; rw [h] at this; simp at this; omega
    | cons => rfl
   have n2 : (looseI lw s).isEmpty = false := by
    cases h : looseI lw s with
    | nil => have := looseI_len lw s; rw [h] at this; simp at this; omega
    | cons => rfl
   rw [n1, n2]
   exact (by and_intros <;> first | rfl | trivial | simp)
def al_ref03_First : AL ((Int × List Int) × Int) := (.cons (.agg (.cons (.k (.i .i64)) (.one (.k (.list (.i .i64)))))) (.one (.k (.i .i64))))
def pre_ref03_First (d : (Int × List Int) × Int) : Prop := d.1.2.length ≤ 1000000
def res_ref03_First (d : (Int × List Int) × Int) : SV := .val (.i .i64) (idxF d.1.2 (fun x => x == d.2))
def obs_ref03_First (d : (Int × List Int) × Int) : List OB := []
def s_ref03_First : CSp := mkSp al_ref03_First pre_ref03_First res_ref03_First obs_ref03_First
def vc_ref03_First (hk : Int) (lw : List Int) (k : Int) : Prop :=
 ∃ (e3 : Unit) (d30 : Int), ((k = k ∧ True ∧ (0 : Int) = d30 ∧ True) ∧ ((hk = hk ∧ lw = lw ∧ (([] : List SV) = [])) ∧ True)) ∧
 LoopP (fun (d3 : Int) (q3 : (Int) → Prop) =>
  ((decide (d3 < (lI lw))) = true →
   (0 ≤ d3) ∧ (d3 < (List.length lw)) ∧ (((gD lw d3 0) == k) = true →
    (d3 = (idxF lw (fun x => x == k)) ∧ (True))) ∧
   (((gD lw d3 0) == k) = false →
    (I64 (d3 + (1 : Int))) ∧ (∃ d4 : Int, ((k = k ∧ True ∧ (d3 + (1 : Int)) = d4 ∧ True) ∧ ((hk = hk ∧ lw = lw ∧ (([] : List SV) = [])) ∧ True)) ∧ q3 d4))) ∧
  ((decide (d3 < (lI lw))) = false →
   ((-1 : Int) = (idxF lw (fun x => x == k)) ∧ (True)))) d30
def cx_ref03_First : Cx := ⟨[], [], 21, [], 0, [], [], [], [], false⟩
def lp_ref03_First (hk : Int) (lw : List Int) (k : Int) : List (Nat × LoopAnn) := [(0, ⟨Unit, Int, [1, 2, 5], fun e x => [.val (.i .i64) k, .box 2 0, .val (.i .i64) x], fun e x => [(2, .slot 2, .cells [.val (.i .i64) hk, .val (.list (.i .i64)) lw] (some 24))]⟩)]
set_option maxRecDepth 100000 in
theorem vq_ref03_First (d : (Int × List Int) × Int) : gwp (cx_ref03_First) (lp_ref03_First d.1.1 d.1.2 d.2) c25 0 (gend [.tmp 4] (res_ref03_First d) (obs_ref03_First d)) (gstart 21 (AL.can al_ref03_First d)) = vc_ref03_First d.1.1 d.1.2 d.2 := by kernel_rfl
abbrev Ok_ref03_First : Prop := OkC Tryz.prog 25 s_ref03_First
theorem mk_ref03_First (h : ∀ (hk : Int) (lw : List Int) (k : Int), (lw.length ≤ 1000000) → vc_ref03_First hk lw k) : OkC Tryz.prog 25 s_ref03_First :=
 okC_vc fun25 mixed (C := cx_ref03_First) (V := fun (d : (Int × List Int) × Int) => vc_ref03_First d.1.1 d.1.2 d.2) ⟨.nil, XsOk.nil, ItsOk.nil⟩ (vq_ref03_First) fun d hp => h d.1.1 d.1.2 d.2 hp
theorem ok_ref03_First : Ok_ref03_First := mk_ref03_First fun hk lw c hlw => by
 unfold vc_ref03_First; (try delta lI gD sT I64); simp only [true_and, and_true, exists_eq_left', exists_const, decide_eq_true_eq, decide_eq_false_iff_not, beq_iff_eq, ne_eq, beq_eq_false_iff_ne]
 refine LoopP.count lw.length (fun k => (lw.take k).any (fun x => x == c) = false) (by simp) fun k hk1 hJ q hq => ?_
 simp only [Int.toNat_natCast, Int.ofNat_lt, InK_i64]
 refine ⟨fun hlt => ?_, fun hge => ?_⟩
 ·have hlt : k < lw.length := by omega
  rw [getD_nat hlt]
  refine ⟨by omega, by omega, fun hx => ?_, fun hx => ⟨by omega, hq hlt ?_⟩⟩
  ·rw [idxF_some hlt (by simp [hx]) hJ]
  ·rw [take_succ_eq hlt, List.any_append, hJ]; simp [hx]
 ·rw [List.take_of_length_le (by omega)] at hJ
  rw [idxF_none hJ]
def al_ref11_Sees : AL ((Int × List Int) × (List (Int × Int × Bool)) × Int × Int) := (.cons (.agg (.cons (.k (.i .i64)) (.one (.k (.list (.i .i64)))))) (.cons (.k (.list (.pair (.i .i64) (.pair (.i .i64) .bo)))) (.cons (.k (.i .i64)) (.one (.k (.i .i64))))))
def pre_ref11_Sees (d : (Int × List Int) × (List (Int × Int × Bool)) × Int × Int) : Prop := d.1.2 ≠ [] ∧ (∀ x ∈ d.1.2, 0 ≤ x ∧ x < 9223372036854775808) ∧ 0 ≤ d.1.1 ∧ d.1.1 ≤ 64 ∧ d.2.2.2 < d.1.1 ∧ d.1.2.length ≤ 110 ∧ d.2.1.length ≤ 1000000 ∧ ∀ x ∈ d.2.1, 0 ≤ x.1
def res_ref11_Sees (d : (Int × List Int) × (List (Int × Int × Bool)) × Int × Int) : SV := .val .bo (seesB d.1.2 d.2.1 d.2.2.1 d.2.2.2)
def obs_ref11_Sees (d : (Int × List Int) × (List (Int × Int × Bool)) × Int × Int) : List OB := []
def s_ref11_Sees : CSp := mkSp al_ref11_Sees pre_ref11_Sees res_ref11_Sees obs_ref11_Sees
def vc_ref11_Sees (hd : Int) (rows : List Int) (s : List (Int × Int × Bool)) (w : Int) (k : Int) : Prop :=
 ∃ (e3 : Unit) (d30 : Int), ((s = s ∧ w = w ∧ k = k ∧ True ∧ (0 : Int) = d30 ∧ True) ∧ ((hd = hd ∧ rows = rows ∧ (([] : List SV) = [])) ∧ True)) ∧
 LoopP (fun (d3 : Int) (q3 : (Int) → Prop) =>
  ((decide (d3 < (lI s))) = true →
   (0 ≤ d3) ∧ (d3 < (List.length s)) ∧ (((gD s d3 (0, (0, false))).2.1 != w) = true →
    (I64 (d3 + (1 : Int))) ∧ (∃ d4 : Int, ((s = s ∧ w = w ∧ k = k ∧ True ∧ (d3 + (1 : Int)) = d4 ∧ True) ∧ ((hd = hd ∧ rows = rows ∧ (([] : List SV) = [])) ∧ True)) ∧ q3 d4)) ∧
   (((gD s d3 (0, (0, false))).2.1 != w) = false →
    ((decide (k ≥ (0 : Int))) = true → (lI rows) ≠ 0) ∧ ((decide (k ≥ (0 : Int))) = true → 0 ≤ (Int.tmod (gD s d3 (0, (0, false))).1 (lI rows))) ∧ ((decide (k ≥ (0 : Int))) = true → (Int.tmod (gD s d3 (0, (0, false))).1 (lI rows)) < (List.length rows)) ∧ ((decide (k ≥ (0 : Int))) = true → 0 ≤ (gD rows (Int.tmod (gD s d3 (0, (0, false))).1 (lI rows)) 0) ∧ (gD rows (Int.tmod (gD s d3 (0, (0, false))).1 (lI rows)) 0) < 9223372036854775808 ∧ 0 ≤ hd ∧ hd ≤ 64) ∧ ((decide (k ≥ (0 : Int))) = true → false = true → (ptsL (gD rows (Int.tmod (gD s d3 (0, (0, false))).1 (lI rows)) 0) hd.toNat) = []) ∧ ((decide (k ≥ (0 : Int))) = true → 0 ≤ (gmax (0 : Int) k)) ∧ ((decide (k ≥ (0 : Int))) = true → (gmax (0 : Int) k) < (List.length (ptsL (gD rows (Int.tmod (gD s d3 (0, (0, false))).1 (lI rows)) 0) hd.toNat))) ∧ ((!(((decide (k ≥ (0 : Int))) && (gD (ptsL (gD rows (Int.tmod (gD s d3 (0, (0, false))).1 (lI rows)) 0) hd.toNat) (gmax (0 : Int) k) false)) == (gD s d3 (0, (0, false))).2.2)) = true →
     (false = (seesB rows s w k) ∧ (True))) ∧
    ((!(((decide (k ≥ (0 : Int))) && (gD (ptsL (gD rows (Int.tmod (gD s d3 (0, (0, false))).1 (lI rows)) 0) hd.toNat) (gmax (0 : Int) k) false)) == (gD s d3 (0, (0, false))).2.2)) = false →
     (I64 (d3 + (1 : Int))) ∧ (∃ d5 : Int, ((s = s ∧ w = w ∧ k = k ∧ True ∧ (d3 + (1 : Int)) = d5 ∧ True) ∧ ((hd = hd ∧ rows = rows ∧ (([] : List SV) = [])) ∧ True)) ∧ q3 d5)))) ∧
  ((decide (d3 < (lI s))) = false →
   (true = (seesB rows s w k) ∧ (True)))) d30
def cx_ref11_Sees : Cx := ⟨[], [(52, s_ref01_Points)], 51, [], 0, [], [], [], [], false⟩
def lp_ref11_Sees (hd : Int) (rows : List Int) (s : List (Int × Int × Bool)) (w : Int) (k : Int) : List (Nat × LoopAnn) := [(0, ⟨Unit, Int, [1, 2, 3, 4, 9], fun e x => [.val (.list (.pair (.i .i64) (.pair (.i .i64) .bo))) s, .val (.i .i64) w, .val (.i .i64) k, .box 4 0, .val (.i .i64) x], fun e x => [(4, .slot 4, .cells [.val (.i .i64) hd, .val (.list (.i .i64)) rows] (some 26))]⟩)]
set_option maxRecDepth 100000 in
theorem vq_ref11_Sees (d : (Int × List Int) × (List (Int × Int × Bool)) × Int × Int) : gwp (cx_ref11_Sees) (lp_ref11_Sees d.1.1 d.1.2 d.2.1 d.2.2.1 d.2.2.2) c26 0 (gend [.tmp 8] (res_ref11_Sees d) (obs_ref11_Sees d)) (gstart 51 (AL.can al_ref11_Sees d)) = vc_ref11_Sees d.1.1 d.1.2 d.2.1 d.2.2.1 d.2.2.2 := by kernel_rfl
abbrev Ok_ref11_Sees : Prop := OkC Tryz.prog 26 s_ref11_Sees
theorem mk_ref11_Sees (h : ∀ (hd : Int) (rows : List Int) (s : List (Int × Int × Bool)) (w : Int) (k : Int), (rows ≠ [] ∧ (∀ x ∈ rows, 0 ≤ x ∧ x < 9223372036854775808) ∧ 0 ≤ hd ∧ hd ≤ 64 ∧ k < hd ∧ rows.length ≤ 110 ∧ s.length ≤ 1000000 ∧ ∀ x ∈ s, 0 ≤ x.1) → vc_ref11_Sees hd rows s w k) : OkC Tryz.prog 26 s_ref11_Sees :=
 okC_vc fun26 mixed (C := cx_ref11_Sees) (V := fun (d : (Int × List Int) × (List (Int × Int × Bool)) × Int × Int) => vc_ref11_Sees d.1.1 d.1.2 d.2.1 d.2.2.1 d.2.2.2) ⟨(.cons ok_ref01_Points .nil), XsOk.nil, ItsOk.nil⟩ (vq_ref11_Sees) fun d hp => h d.1.1 d.1.2 d.2.1 d.2.2.1 d.2.2.2 hp
theorem seesB_app (rows : List Int) (a b : List SI) (w c : Int) : seesB rows (a ++ b) w c = (seesB rows a w c && seesB rows b w c) := List.all_append
theorem seesB_one (rows : List Int) (x : SI) (w c : Int) : seesB rows [x] w c = (x.2.1 != w || ((decide (0 ≤ c) && (rowAt rows x.1).testBit c.toNat) == x.2.2)) := Bool.and_true _
theorem ok_ref11_Sees : Ok_ref11_Sees := mk_ref11_Sees fun hd rows s w c h => by
 obtain ⟨h1, h2, h3, h4, h5, h6, h8, h7⟩ := h
 have hr0 : 0 < rows.length := List.length_pos_iff.2 h1
 unfold vc_ref11_Sees; (try delta lI gD sT I64); simp only [true_and, and_true, exists_eq_left', exists_const, decide_eq_true_eq, decide_eq_false_iff_not, beq_iff_eq, bne_iff_ne, ne_eq, beq_eq_false_iff_ne, bne_eq_false_iff_eq, Bool.not_eq_true', Bool.not_eq_false', ge_iff_le]
 refine LoopP.count s.length (fun k => seesB rows (s.take k) w c = true) (by simp [seesB]) fun k hk1 hJ q hq => ?_
 simp only [Int.toNat_natCast, Int.ofNat_lt, InK_i64]
 refine ⟨fun hlt => ?_, fun hge => ?_⟩
 ·have hlt : k < s.length := by omega
  have hx := h7 _ (List.getElem_mem hlt)
  obtain ⟨p, hp⟩ := Int.eq_ofNat_of_zero_le hx
  have hpm : p % rows.length < rows.length := Nat.mod_lt _ hr0
  have hmod : Int.tmod (p : Int) (rows.length : Int) = ((p % rows.length : Nat) : Int) := rfl
  have hrow := h2 _ (List.getElem_mem hpm)
  have hra : rowAt rows s[k].1 = rows[p % rows.length].toNat := by unfold rowAt; rw [hp, Int.toNat_natCast, getD_nat hpm]
  have hsn : seesB rows (s.take (k + 1)) w c = (s[k].2.1 != w || ((decide (0 ≤ c) && (rowAt rows s[k].1).testBit c.toNat) == s[k].2.2)) := by
   rw [take_succ_eq hlt, seesB_app, seesB_one, hJ, Bool.true_and]
  have hfalse : seesB rows (s.take (k + 1)) w c = false → seesB rows s w c = false := fun h => by
   rw [← List.take_append_drop (k + 1) s, seesB_app, h, Bool.false_and]
  have hval : (decide (c ≥ 0) && (ptsL rows[p % rows.length] hd.toNat).getD (gmax 0 c).toNat false) = (decide (0 ≤ c) && (rowAt rows s[k].1).testBit c.toNat) := by
   by_cases hc : 0 ≤ c
   ·have hg : gmax 0 c = c := by unfold gmax; split <;> omega
    rw [hg, ptsL_getD (show c.toNat < hd.toNat by omega), hra]
   ·have : ¬ c ≥ 0 := hc
    simp [hc]
  rw [getD_nat hlt, hp, hmod, Int.toNat_natCast, getD_nat hpm]
  simp only [ptsL_len]
  refine ⟨by omega, by omega, fun hne => ⟨by omega, hq hlt ?_⟩, fun heq => ?_⟩
  ·rw [hsn]; simp [hne]
  refine ⟨fun _ => by omega, fun _ => by omega, fun _ => by omega, fun _ => ⟨hrow.1, hrow.2, h3, h4⟩, fun _ h => by simp at h, fun hc => ?_, fun hc => ?_, fun hne => ?_, fun he => ⟨by omega, hq hlt ?_⟩⟩
  ·unfold gmax; split <;> omega
  ·unfold gmax; split <;> omega
  ·symm; apply hfalse; rw [hsn, ← hval]
   have : (s[k].2.1 != w) = false := by simp [heq]
   rw [this, Bool.false_or, beq_eq_false_iff_ne]; exact hne
  ·rw [hsn, ← hval]
   rw [Bool.or_eq_true, beq_iff_eq]; exact .inr he
 ·rw [List.take_of_length_le (by omega)] at hJ
  exact hJ.symm
end Go.Proofs.Tryz
namespace Go.V
open Go
theorem ret_true {P : Program} {σ : Heap} : Ret P σ (.val .bo true) [] (.bool true) σ :=
 ⟨⟨.refl _, Dead.refl _⟩, fun _ => rfl, noPl, fun j b hj => by simp at hj, fun j j' i hj => by simp at hj, by simp [SR, KC]⟩
theorem okC_true {P : Program} {f : Nat} (h : ∀ (σ : Heap) (K : Value → Heap → Prop), K (.bool true) σ → VCalled P f [] σ K) : OkC P f (mkSp (.nil : AL Unit) (fun _ => True) (fun _ => .val .bo true) (fun _ => [])) := by
 intro ap hap σ args vs c v bs hargs hs hv hbs hc
 unfold mkSp at hs
 split at hs
 ·rename_i d hd
  obtain ⟨rfl, rfl, rfl⟩ := (by simpa using hs : True = c ∧ SV.val .bo true = v ∧ [] = bs)
  have : vs = [] := by
   cases args with
   | nil => simpa [SRs] using hargs
   | cons a l => simp [AL.dec] at hd
  subst this
  refine ⟨h σ _ ret_true, fun _ _ => h σ _ ⟨rfl, ?_⟩⟩
  unfold canH
  cases σ
  simp only [List.length_nil, Nat.add_zero, List.getElem?_nil, Option.bind_none, Heap.mk.injEq, and_true]
  funext i
  split
  ·rfl
  ·rename_i wf hi; exact wf i (by simpa using hi)
 ·cases hs
end Go.V
namespace Go.V
open Go Go.ChangeShapes Go.WideShapes Go.RowKit Go.Deep Go.Joins
def Heap.RO (σ : Heap) : Prop := ∀ i b, σ.get i = some b → b.wr = false
structure View (w : World) (ρ : Plc) (σ : Heap) : Prop where
 rel : HRel ρ σ w
 ro : σ.RO
structure More (ρ : Plc) (σ : Heap) (ρ' : Plc) (σ' : Heap) : Prop where
 n : σ.n ≤ σ'.n
 pl : ∀ i, i < σ.n → ∀ p, ρ' i = some p → ρ i = some p
 ag : Agree σ σ'
theorem More.refl (ρ : Plc) (σ : Heap) : More ρ σ ρ σ := ⟨Nat.le_refl _, fun _ _ _ h => h, Agree.refl _⟩
theorem More.trans {ρ ρ' ρ'' : Plc} {σ σ' σ'' : Heap} (h : More ρ σ ρ' σ') (k : More ρ' σ' ρ'' σ'') : More ρ σ ρ'' σ'' :=
 ⟨Nat.le_trans h.n k.n, fun i hi p hp => h.pl i hi p (k.pl i (Nat.lt_of_lt_of_le hi h.n) p hp), h.ag.trans k.ag h.n⟩
theorem View.empty (w : World) : View w (fun _ => none) Heap.empty where
 rel := ⟨fun i b h => (by cases h), fun _ _ => rfl, fun i p h => (by cases h), fun i j p q b _ h => (by cases h)⟩
 ro := fun i b h => by cases h
theorem View.add {w : World} {ρ : Plc} {σ : Heap} (h : View w ρ σ) (p : Pl) (c : List Value) {C : Array Value} {e : TypeId} {f : Nat × Nat} (hb : w.heap[p.blk]? = some (.cells C e f)) (hs : p.shift + p.ext ≤ C.size) (hl : c.length ≤ p.ext) (ht : e = p.esz.ty)
  (hc : ∀ (k : Nat) (v : Value), c[k]? = some v → ∃ u, w.cell? ⟨p.blk, p.shift + k, none⟩ = some u ∧ VRel ρ σ.n v u) :
  View w (ρ.put σ.n (some p)) (σ.push (.cells c p.esz false p.tight)) ∧ More ρ σ (ρ.put σ.n (some p)) (σ.push (.cells c p.esz false p.tight)) := by
 have hpl : ∀ i, i < σ.n → ∀ q, (ρ.put σ.n (some p)) i = some q → ρ i = some q := fun i hi q hq => by
  unfold Plc.put at hq; rwa [if_neg (by omega)] at hq
 have hro : (σ.push (.cells c p.esz false p.tight)).RO := fun i b hi => by
  by_cases e : i = σ.n
  ·subst e; rw [Heap.get_push_self] at hi; obtain rfl := Option.some.inj hi; rfl
  ·rw [Heap.get_push_ne _ _ e] at hi; exact h.ro i b hi
 refine ⟨⟨⟨?_, ?_, ?_, ?_⟩, hro⟩, ⟨by simp, hpl, fun i hi => Heap.get_push_lt _ _ hi⟩⟩
 ·intro i b hi
  by_cases hin : i = σ.n
  ·subst hin
   rw [Heap.get_push_self] at hi
   obtain rfl := Option.some.inj hi
   refine ⟨p, by simp [Plc.put], rfl, rfl, hl, ⟨C, e, f, hb, hs, ht⟩, fun k v hk => ?_, fun h => by cases h⟩
   obtain ⟨u, hu, hv⟩ := hc k v hk
   exact ⟨u, hu, hv.mono (by simp) hpl⟩
  ·rw [Heap.get_push_ne _ _ hin] at hi
   obtain ⟨q, hq, hB⟩ := h.rel.live i b hi
   exact ⟨q, by simp [Plc.put, hin, hq], hB.mono (by simp) hpl rfl⟩
 ·intro i hi
  by_cases hin : i = σ.n
  ·subst hin; rw [Heap.get_push_self] at hi; cases hi
  ·rw [Heap.get_push_ne _ _ hin] at hi
   simp [Plc.put, hin, h.rel.dead i hi]
 ·intro i q hq
  by_cases hin : i = σ.n
  ·subst hin
   simp [Plc.put] at hq
   subst hq
   exact (Array.getElem?_eq_some_iff.1 hb).1
  ·simp [Plc.put, hin] at hq
   exact h.rel.lt i q hq
 ·intro i j q r b _ _ _ hb' hw _
  rw [hro i b hb'] at hw; cases hw
theorem rowAt_off {P : Program} {fits : TypeId → Bool} {d : Nat} {e : TypeId} {count off n : Nat} (h : rowAt P fits d e count off n = true) : off ≤ count * P.cellsOf e := by
 cases d with
 | zero => cases h
 | succ d =>
  unfold rowAt at h
  by_cases hs : P.cellsOf e = 0
  ·simp [hs] at h
  ·have hpos : 0 < P.cellsOf e := Nat.pos_of_ne_zero hs
   simp only [hs, if_false, Bool.or_eq_true, Bool.and_eq_true, beq_iff_eq, decide_eq_true_eq] at h
   have hd := Nat.div_add_mod off (P.cellsOf e)
   have hm := Nat.mod_lt off hpos
   rcases h with ⟨⟨h1, h2⟩, _⟩ | ⟨h1, _⟩
   ·have : P.cellsOf e * (off / P.cellsOf e) ≤ P.cellsOf e * count := Nat.mul_le_mul_left _ (by omega)
    rw [Nat.mul_comm count]; omega
   ·have : P.cellsOf e * (off / P.cellsOf e + 1) ≤ P.cellsOf e * count := Nat.mul_le_mul_left _ (by omega)
    rw [Nat.mul_add] at this
    rw [Nat.mul_comm count]; omega
theorem liesAt_off {P : Program} : ∀ {d : Nat} {e : TypeId} {count off : Nat} {u : TypeId} {n : Nat}, liesAt P d e count off u n = true → off ≤ count * P.cellsOf e
 | 0, _, _, _, _, _, h => by cases h
 | d + 1, e, count, off, u, n, h => by
  unfold liesAt at h
  rw [Bool.or_eq_true] at h
  rcases h with h | h
  ·exact rowAt_off h
  ·split at h
   ·exact liesAt_off h
   ·cases h
theorem has_block {P : Program} {w : World} {r : Reach} {base : Nat} {a : Addr} {e : TypeId} {n : Nat} (h : w.has P r base a e n) : ∃ C row f, w.heap[a.block]? = some (.cells C row f) ∧ a.off ≤ C.size ∧ a.spot = none := by
 obtain ⟨_, hs, row, cells, hsh, hl⟩ := h
 unfold World.shape? at hsh
 split at hsh
 ·rename_i C e' f hb
  obtain ⟨rfl, rfl⟩ := (by simpa using hsh : e' = row ∧ C.size = cells)
  exact ⟨C, e', f, hb, Nat.le_trans (liesAt_off hl) (Nat.div_mul_le_self _ _), hs⟩
 ·cases hsh
theorem okWide_slice {P : Program} {w : World} {r : Reach} {base : Nat} {t e : TypeId} {v : Value} (ht : P.underlying t = some (.slice e)) (h : Cell.okWide P w r base t v) :
  v = .slice none 0 0 ∨ ∃ a len cap, v = .slice (some a) len cap ∧ w.has P r base a e cap := by
 unfold Cell.okWide at h
 rw [ht] at h
 have h' : Cell.ok P w r base t v := by
  split at h <;> first | exact h | simp_all
 unfold Cell.ok at h'
 rw [ht] at h'
 split at h' <;> first | exact .inl rfl | (cases h'; done) | skip
 all_goals first | (rename_i h1 h2; simp_all; done) | skip
 all_goals first | (simp_all; exact ⟨_, _, _, ⟨rfl, rfl, rfl⟩, h'.2.2⟩) | (simp_all)
theorem int_wf {k : IntKind} {x : Int} (h : (Lit.int k x).wf = true) : k.min ≤ x ∧ x ≤ k.max := by
 simpa [Lit.wf] using h
theorem View.calls {P : Program} {f : FuncId} {w : World} {ρ : Plc} {σ : Heap} (h : View w ρ σ) {args : List Value} {cargs : Array Value} (hl : LRel ρ σ.n args cargs.toList) (hc : VCallsTo P f args σ fun v _ => v = .bool true) :
  Calls P f cargs w fun e w' => e = .returned (.bool true) ∧ Below w.heap.size w w' := by
 refine (hc ρ w cargs h.rel hl).mono fun e w' ⟨c, he, v, ρ', σ', hv, hr, _, hx⟩ => ?_
 subst hv
 have : c = .bool true := by cases hr; rfl
 subst this
 exact ⟨he, hx.os, hx.tape, hx.output, hx.size, fun B hB => hx.keep B hB fun ⟨i, p, b, _, hi, hw, _⟩ => by rw [h.ro i b hi] at hw; cases hw⟩
theorem trodAll_stays {H : Type} {enc : TypeId × Value → H} {P : Program} (hl : laidOutB P = true) {W W' : World} {sp : Nat → Bool} (hb : Below W.heap.size W W') :
  ∀ {ts : List TypeId} {vs : List Value} {ds : List (DataW H)} {ps : List MemPlace}, (∀ t ∈ ts, P.readableRec t = true ∧ t < P.types.size) → DataW.TrodAll enc P W 0 (fun _ => true) true ts vs ds ps → (∀ p ∈ ps, p.block < W.heap.size) → (∀ p ∈ ps, sp p.block = true) →
   DataW.TrodAll enc P W' 0 sp true ts vs ds ps
 | [], vs, ds, ps, _, h, _, _ => by
  obtain ⟨rfl, rfl, rfl⟩ := trodAll_nil h
  rfl
 | t :: ts, vs, ds, ps, ht, h, hlt, hs => by
  obtain ⟨v, vs', d, ds', p, q, rfl, rfl, rfl, h1, h2⟩ := trodAll_cons h
  obtain ⟨r1, r2⟩ := ht t (by simp)
  exact ⟨p, q, WideElems.Trod_stays hl r1 r2 h1 (fun x hx => hb.same (hlt x (by simp [hx]))) (fun x hx => hs x (by simp [hx])),
   trodAll_stays hl hb (fun t ht' => ht t (by simp [ht'])) h2 (fun x hx => hlt x (by simp [hx])) (fun x hx => hs x (by simp [hx])), rfl⟩
theorem post_true {H : Type} {enc : TypeId × Value → H} {P : Program} {f : Func} {s : ChangeSpec} {apart fresh handsOn again : Bool} {W W' : World} {args : Array Value} {ds gs : List (DataW H)} {before : List MemPlace} {tb : TypeId}
  (hl : laidOutB P = true) (hp : f.params.toList.all (fun t => P.readableRec t && decide (t < P.types.size)) = true) (hvars : s.vars = []) (hr : f.resultTypes = #[tb]) (hb1 : P.underlying tb = some .bool) (hs : s.fn H ds = { results := [.lit (.bool true)], args := ds })
  (hW : DataW.Whole enc P f.params.toList s.vars apart W args.toList ds gs before) (hb : Below W.heap.size W W') : s.post enc P f apart fresh handsOn again W args (.bool true) W' := by
 have hlt : ∀ p ∈ before, p.block < W.heap.size := fun p hp => hW.lt p hp
 have hW0 := hW
 obtain ⟨p, q, hA, hV, rfl, hz, hn⟩ := hW
 rw [hvars] at hV
 obtain ⟨rfl, rfl⟩ := trodVars_none hV
 have hp' : ∀ t ∈ f.params.toList, P.readableRec t = true ∧ t < P.types.size := fun t ht => by
  have := List.all_eq_true.1 hp t ht
  simpa using this
 have hsg : s.fn H (ds ++ []) = { results := [.lit (.bool true)], args := ds } := by rw [List.append_nil]; exact hs
 have hres : ∀ (b : Nat) (sp : Nat → Bool) (hd : Bool), DataW.TrodAll enc P W' b sp hd f.resultTypes.toList ((Value.bool true).resultList f.resultTypes.size) (s.fn H (ds ++ [])).results [] := fun b sp hd => by
  rw [hsg, hr]
  exact trodAll_mk1 (shut_bool hb1 _)
 have hargs : ∀ sp : Nat → Bool, (∀ x ∈ p ++ [], sp x.block = true) → DataW.TrodAll enc P W' 0 sp true f.params.toList args.toList (s.fn H (ds ++ [])).args p := fun sp hsp => by
  rw [hsg]
  exact trodAll_stays hl hb hp' hA (fun x hx => hlt x (by simp [hx])) (fun x hx => hsp x (by simp [hx]))
 have hvs : ∀ sp : Nat → Bool, DataW.TrodVars enc P W' sp s.vars (s.fn H (ds ++ [])).vars [] := fun sp => by
  rw [hsg, hvars]; rfl
 have hold : ∀ x ∈ p ++ [], (fun b => decide (b < W.heap.size)) x.block = true := fun x hx => by simpa using hlt x hx
 refine ⟨ds, [], p ++ [], [], p, [], hW0, hres _ _ _, hargs _ hold, hvs _, World.keptBut_mono (fun x hx => ⟨hx, ?_⟩) (hb.frame (· ∈ p ++ [])), fun _ => ?_⟩
 ·exact .inr (by simpa using hx)
 ·refine ⟨ok_one hr rfl (okWide_bool_mk hb1 _), _, _, ([] ++ p) ++ [], ⟨[] ++ p, [], trodAll_append (hargs _ (fun _ _ => rfl)) (hres _ _ _), hvs _, rfl, ?_, ?_⟩, ?_⟩
  ·intro b off hx
   have hin : MemPlace.cell b off ∈ p ++ [] := by simpa using hx
   rw [hb.frozen (hlt _ hin)]
   exact hz b off hin
  ·intro ha
   simpa using hn ha
  ·intro x hx _
   simpa using hx
end Go.V