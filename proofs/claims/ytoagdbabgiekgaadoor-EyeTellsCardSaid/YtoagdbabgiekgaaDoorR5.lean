/- A framework for walks, contracts of functions, and their proofs: part 5. -/
import Derived.Test.YtoagdbabgiekgaaDoorProg
import Derived.ProofKit
import Derived.OpenShut
import Derived.LaidMore
import Derived.Carry
import Derived.Lib.SmallJoins
import Derived.Deep.Slices
import Derived.Test.YtoagdbabgiekgaaDoorR4
namespace Go.V
open Go
structure FRel (e : ET) (env : Env) : Prop where
 m : e.m = List.length env
 sm : e.m ≤ 1000000
 get : ∀ i, env.getD i undef = e.get i
theorem ET.get_lt {e : ET} {i : Nat} (hi : i < e.m) : e.get i = e.t.get undef i := by
 unfold ET.get
 rw [show Nat.blt i e.m = true from Nat.ble_eq_true_of_le hi]
theorem ET.get_ge {e : ET} {i : Nat} (hi : e.m ≤ i) : e.get i = undef := by
 unfold ET.get
 cases hb : Nat.blt i e.m with
 | false => rfl
 | true => have := Nat.le_of_ble_eq_true hb; omega
theorem ET.set_lt {e : ET} {i : Nat} {v : Value} (hi : i < e.m) : e.set i v = ⟨e.t.set undef 32 i v, e.m⟩ := by
 unfold ET.set
 rw [show Nat.blt i e.m = true from Nat.ble_eq_true_of_le hi]
theorem ET.set_ge {e : ET} {i : Nat} {v : Value} (hi : e.m ≤ i) : e.set i v = e := by
 unfold ET.set
 cases hb : Nat.blt i e.m with
 | false => rfl
 | true => have := Nat.le_of_ble_eq_true hb; omega
theorem ET.set_m (e : ET) (i : Nat) (v : Value) : (e.set i v).m = e.m := by
 rcases Nat.lt_or_ge i e.m with h | h
 ·rw [ET.set_lt h]
 ·rw [ET.set_ge h]
theorem ET.get_set {e : ET} (hs : e.m ≤ 1000000) (i : Nat) (v : Value) (j : Nat) : (e.set i v).get j = if j = i ∧ i < e.m then v else e.get j := by
 rcases Nat.lt_or_ge i e.m with hi | hi
 ·rw [ET.set_lt hi]
  rcases Nat.lt_or_ge j e.m with hj | hj
  ·rw [ET.get_lt (e := ⟨e.t.set undef 32 i v, e.m⟩) hj, ET.get_lt hj]
   show (e.t.set undef 32 i v).get undef j = _
   rw [GT.get_set undef 32 _ _ _ _ (by omega)]
   by_cases h : j = i
   ·rw [if_pos h, if_pos ⟨h, hi⟩]
   ·rw [if_neg h, if_neg (fun e => h e.1)]
  ·rw [ET.get_ge (e := ⟨e.t.set undef 32 i v, e.m⟩) hj, ET.get_ge hj, if_neg (by rintro ⟨rfl, _⟩; omega)]
 ·rw [ET.set_ge hi, if_neg (by rintro ⟨_, h⟩; omega)]
theorem FRel.set {e : ET} {env : Env} (h : FRel e env) (i : Nat) (v : Value) : FRel (e.set i v) (env.set i v) := by
 refine ⟨by rw [ET.set_m, List.length_set]; exact h.m, by rw [ET.set_m]; exact h.sm, fun j => ?_⟩
 rw [ET.get_set h.sm, ← h.get, List.getD_eq_getElem?_getD, List.getD_eq_getElem?_getD, List.getElem?_set, h.m]
 by_cases hij : i = j
 ·subst hij
  rcases Nat.lt_or_ge i (List.length env) with hi | hi
  ·rw [if_pos rfl, if_pos hi, if_pos ⟨rfl, hi⟩]; rfl
  ·rw [if_pos rfl, if_neg (by omega), if_neg (by rintro ⟨_, h⟩; omega), List.getElem?_eq_none hi]
 ·rw [if_neg hij, if_neg (fun e => hij e.1.symm)]
theorem FRel.put {e : ET} {env : Env} (h : FRel e env) (d : Option Nat) (v : Value) : FRel (e.put d v) (putE env d v) := by
 cases d with
 | none => exact h
 | some d => exact h.set d v
theorem evalE_eq {e : ET} {env : Env} (h : FRel e env) : evalE e = evalO env := by
 funext x
 cases x with
 | tmp t => exact (h.get t).symm
 | _ => rfl
theorem ewant_eq {e : ET} {env : Env} (h : FRel e env) (g : Option (Nat × Bool)) : ewant e g = vwant env g := by
 cases g with
 | none => rfl
 | some p =>
  obtain ⟨d, w⟩ := p
  simp only [ewant, vwant, h.get]
  cases e.get d <;> rfl
theorem esetPs_rel : ∀ (ps : List Nat) (vs : List Value) {e : ET} {env : Env}, FRel e env → FRel (esetPs e ps vs) (setPs env ps vs)
 | [], vs, e, env, h => by cases vs <;> exact h
 | p :: ps, [], e, env, h => h
 | p :: ps, v :: vs, e, env, h => esetPs_rel ps vs (h.set p v)
theorem etL_get : ∀ (l : List Value) (i : Nat) (t : GT Value) (j : Nat), i + l.length ≤ 1000000 → (etL l i t).get undef j = if i ≤ j ∧ j < i + l.length then l.getD (j - i) undef else t.get undef j
 | [], i, t, j, _ => by rw [if_neg (by simp only [List.length_nil]; omega)]; rfl
 | v :: l, i, t, j, h => by
  have h : i + (l.length + 1) ≤ 1000000 := h
  show (etL l (i + 1) (t.set undef 32 i v)).get undef j = _
  rw [etL_get l (i + 1) _ j (by omega), GT.get_set undef 32 _ _ _ _ (by omega)]
  by_cases hji : j = i
  ·subst hji
   rw [if_neg (by omega), if_pos rfl, if_pos (by simp)]; simp
  ·by_cases hc : i + 1 ≤ j ∧ j < i + 1 + l.length
   ·rw [if_pos hc, if_pos (by simp; omega), show j - i = j - (i + 1) + 1 by omega]; rfl
   ·rw [if_neg hc, if_neg hji, if_neg (by simp; omega)]
theorem ET.of_rel {args : List Value} {nt : Nat} (h : (ET.of args nt).m ≤ 1000000) : FRel (ET.of args nt) (args ++ List.replicate (nt - args.length) undef) := by
 refine ⟨by simp [ET.of], h, fun i => ?_⟩
 have hm : (ET.of args nt).m = args.length + (nt - args.length) := rfl
 rw [hm] at h
 rcases Nat.lt_or_ge i (ET.of args nt).m with hi | hi
 ·rw [ET.get_lt hi]
  show _ = (etL args 0 .nil).get undef i
  rw [etL_get _ _ _ _ (by omega), List.getD_eq_getElem?_getD, List.getElem?_append]
  rw [hm] at hi
  by_cases hl : i < args.length
  ·rw [if_pos hl, if_pos (by omega)]
   simp [List.getD_eq_getElem?_getD]
  ·rw [if_neg hl, if_neg (by omega), List.getElem?_replicate, if_pos (by omega)]; rfl
 ·rw [ET.get_ge hi]
  rw [hm] at hi
  rw [List.getD_eq_getElem?_getD, List.getElem?_eq_none (by simp; omega)]; rfl
structure TabOk (P : Program) (T : Tab) : Prop where
 code : ∀ f vc rs nt, T f = some (.code vc rs nt) → Fun P f vc rs nt
 codeJ : ∀ f vc rs nt, T f = some (.codeJ vc rs nt) → Fun P f vc rs nt
 same : ∀ f, T f = some .same → ∀ (v : Value) (σ : Heap) (K : Value → Heap → Prop), K v σ → VCalled P f [v] σ K
section
variable {P : Program} {T : Tab} {ev : EvFn}
abbrev Recs := Nat → Env × Loop
def YOk (P : Program) (ys : Ys) (rs : Recs) (n : Nat) : Prop :=
 ∀ i c, ys.find i = some c → i < n ∧ FRel c.env (rs i).1 ∧ OkYield P i (roundY (vwp (semSpecs P) c.a (some i)) (vwp (semSpecs P) c.b (some i)) c.ps (rs i).1 (rs i).2 i)
theorem YOk.mono {ys : Ys} {rs rs' : Recs} {n n' : Nat} (h : YOk P ys rs n) (hn : n ≤ n') (hr : ∀ i, i < n → rs' i = rs i) : YOk P ys rs' n' := fun i c hc => by
 obtain ⟨h1, h2, h3⟩ := h i c hc
 rw [hr i h1]
 exact ⟨by omega, h2, h3⟩
def Cont {A : Type} (G : A → Prop) (rs : Recs) (h : CH) (k : Value → CH → A) (K : Value → Heap → Prop) : Prop :=
 ∀ v h' rs' σ', h.n ≤ h'.n → (∀ i, i < h.n → rs' i = rs i) → CSim rs' h' σ' → G (k v h') → K v σ'
def ContE {A : Type} (G : A → Prop) (rs : Recs) (h : CH) (m : Nat) (k : Exit → ET → CH → A) (Q : Exit → Env → Heap → Prop) : Prop :=
 ∀ e et' h' rs' σ' env', h.n ≤ h'.n → (∀ i, i < h.n → rs' i = rs i) → CSim rs' h' σ' → FRel et' env' → List.length env' = m → G (k e et' h') → Q e env' σ'
def ContN {A : Type} (G : A → Prop) (rs : Recs) (h : CH) (m : Nat) (k : ET → CH → A) (K : Env → Heap → Prop) : Prop :=
 ∀ et' h' rs' σ' env', h.n ≤ h'.n → (∀ i, i < h.n → rs' i = rs i) → CSim rs' h' σ' → FRel et' env' → List.length env' = m → G (k et' h') → K env' σ'
def Sd (P : Program) (ev : EvFn) : Prop := ∀ {A : Type} (R : AnsOps A) (G : A → Prop), Good R G → ∀ (ys : Ys) (c : VCode) (ro : Option Nat) (et : ET) (env : Env) (h : CH) (k : Exit → ET → CH → A) (rs : Recs) (σ : Heap) (Q : Exit → Env → Heap → Prop),
 YOk P ys rs h.n → CSim rs h σ → FRel et env → G (ev R ys c ro et h k) → ContE G rs h (List.length env) k Q → vwp (semSpecs P) c ro Q env σ
theorem eresult_sound {rs : Recs} {h : CH} {σ : Heap} (hs : CSim rs h σ) {et : ET} {env : Env} (hE : FRel et env) {r : VResult} {v : Value} (hr : eresult et h r = some v) : vresult env σ r = some v := by
 cases r with
 | tmp t => simp only [eresult] at hr; simp only [vresult, hE.get]; exact hr
 | cell a agg size =>
  simp only [eresult] at hr
  split at hr
  ·rename_i p hp
   rw [← hE.get] at hp
   obtain ⟨_, σ', h1, _⟩ := eactF_sound (o := .load agg size (.tmp a)) (ev := evalO env) hs hp
   simp only [vresult, h1, Option.map_some]
   exact hr
  ·cases hr
theorem eresultL_sound {rs : Recs} {h : CH} {σ : Heap} (hs : CSim rs h σ) {et : ET} {env : Env} (hE : FRel et env) : ∀ (l : List VResult) (vs : List Value), eresultL et h l = some vs → l.mapM (vresult env σ) = some vs
 | [], vs, hr => by simp [eresultL] at hr; subst hr; rfl
 | r :: l, vs, hr => by
  simp only [eresultL] at hr
  split at hr
  ·cases hr
  ·rename_i v hv
   split at hr
   ·cases hr
   ·rename_i ws hw
    obtain rfl := Option.some.inj hr
    rw [List.mapM_cons, eresult_sound hs hE hv]
    simp [eresultL_sound hs hE l ws hw]
theorem eresults_sound {rs : Recs} {h : CH} {σ : Heap} (hs : CSim rs h σ) {et : ET} {env : Env} (hE : FRel et env) {l : List VResult} {v : Value} (hr : eresults et h l = some v) : vresults env σ l = some v := by
 unfold eresults at hr
 split at hr
 ·exact eresult_sound hs hE hr
 ·rename_i hne
  split at hr
  ·rename_i vs hvs
   unfold vresults
   split
   ·rename_i r; exact absurd rfl (hne r)
   ·rw [eresultL_sound hs hE _ _ hvs]; exact hr
  ·cases hr
variable {A : Type} {R : AnsOps A} {G : A → Prop}
theorem eend_sound (hG : Good R G) {rl : List VResult} {k : Value → CH → A} {rs : Recs} {h : CH} {σ : Heap} {K : Value → Heap → Prop} {m : Nat} (hk : Cont G rs h k K) : ContE G rs h m (eend R.fail rl k) (EndK σ rl K) := by
 intro e et' h' rs' σ' env' hn hr hs' hE' _ hg
 have fin : G (match eresults et' h' rl with | some v => k v h' | none => R.fail) → obind (vresults env' σ' rl) fun v => ∃ v' σ'', DropTo σ v σ' v' σ'' ∧ K v' σ'' := by
  intro hg
  split at hg
  ·rename_i v hv
   rw [eresults_sound hs' hE' hv]
   exact ⟨v, σ', .refl _ _ _, hk v h' rs' σ' hn hr hs' hg⟩
  ·exact (hG.fail hg).elim
 cases e with
 | normal => exact fin hg
 | ret => exact fin hg
 | _ => exact (hG.fail hg).elim
noncomputable def CH.toHeap (rs : Recs) (h : CH) : Heap := ⟨fun i => (h.get i).map (EB.to (rs i)), h.n, fun i hi => by rw [CH.get_ge hi]; rfl⟩
theorem toHeap_sim {rs : Recs} {h : CH} (hr : h.n ≤ 1000000001) : CSim rs h (h.toHeap rs) := ⟨rfl, hr, fun _ => rfl⟩
theorem CSim.eq {rs : Recs} {h : CH} {σ : Heap} (hs : CSim rs h σ) : σ = h.toHeap rs := Heap.ext' (fun j => hs.get j) hs.n.symm
def JGood (x : Value × CH) (a : Option (Value × CH)) : Prop := ∃ y, a = some y ∧ y.1 = x.1 ∧ y.2.n = x.2.n ∧ ∀ i, y.2.get i = x.2.get i
theorem same_get {h h' : CH} (hs : h.same h' = true) : h.n = h'.n ∧ ∀ i, h.get i = h'.get i := by
 simp only [CH.same, Bool.and_eq_true, List.all_eq_true, List.mem_range, Nat.beq_eq] at hs
 refine ⟨hs.1, fun i => ?_⟩
 rcases Nat.lt_or_ge i h.n with hi | hi
 ·have := hs.2 i hi
  split at this
  ·rename_i h1 h2; rw [h1, h2]
  ·rename_i a b h1 h2; rw [h1, h2, EB.beq_eq this]
  ·cases this
 ·rw [CH.get_ge hi, CH.get_ge (by rw [← hs.1]; exact hi)]
theorem joinGood (x : Value × CH) : Good joinOps (JGood x) := by
 refine ⟨fun ⟨y, h, _⟩ => (by cases h), fun a b h => ?_⟩
 obtain ⟨y, h1, h2, h3, h4⟩ := h
 cases a with
 | none => cases h1
 | some xa =>
  cases b with
  | none => cases h1
  | some xb =>
   simp only [joinOps] at h1
   split at h1
   ·rename_i hc
    obtain rfl := Option.some.inj h1
    have e1 := vbeq_eq _ _ _ hc.1
    obtain ⟨e2, e3⟩ := same_get hc.2
    exact ⟨⟨xa, rfl, h2, h3, h4⟩, xb, rfl, by rw [← e1]; exact h2, by rw [← e2]; exact h3, fun i => by rw [← e3 i]; exact h4 i⟩
   ·cases h1
theorem plainE_to {b : EB} {q : Env × Loop} (h : b.plainE = true) : (b.to q).plain = true ∧ ∀ q', b.to q' = b.to q := by
 cases b <;> first | exact ⟨h, fun _ => rfl⟩ | cases h
def gcP (n0 : Nat) (refs : List Nat) (i : Nat) : Nat := if i < n0 then i else refs.getD (i - n0) 0
def RExt (n0 : Nat) (a b : List Nat) : Prop := (∃ t, b = a ++ t ∧ ∀ x ∈ t, n0 ≤ x) ∧ (a.Nodup → b.Nodup)
theorem RExt.refl (n0 : Nat) (a : List Nat) : RExt n0 a a := ⟨⟨[], by simp, fun x hx => by cases hx⟩, id⟩
theorem RExt.trans {n0 : Nat} {a b c : List Nat} (h : RExt n0 a b) (k : RExt n0 b c) : RExt n0 a c := by
 obtain ⟨⟨t, rfl, ht⟩, h2⟩ := h
 obtain ⟨⟨u, rfl, hu⟩, k2⟩ := k
 exact ⟨⟨t ++ u, by simp, fun x hx => (List.mem_append.1 hx).elim (ht x) (hu x)⟩, fun h => k2 (h2 h)⟩
def Sub (a b : List Nat) : Prop := ∃ t, b = a ++ t
theorem Sub.trans {a b c : List Nat} (h : Sub a b) (k : Sub b c) : Sub a c := by
 obtain ⟨t, rfl⟩ := h; obtain ⟨u, rfl⟩ := k; exact ⟨t ++ u, by simp⟩
theorem RExt.sub {n0 : Nat} {a b : List Nat} (h : RExt n0 a b) : Sub a b := by obtain ⟨⟨t, h, _⟩, _⟩ := h; exact ⟨t, h⟩
theorem gcI_spec (n0 : Nat) (refs : List Nat) (i : Nat) : RExt n0 refs (gcI n0 refs i).2 ∧ ∀ (all : List Nat), Sub (gcI n0 refs i).2 all → (gcI n0 refs i).1 < n0 + all.length ∧ gcP n0 all (gcI n0 refs i).1 = i := by
 unfold gcI
 split
 ·rename_i hi
  exact ⟨RExt.refl _ _, fun all _ => ⟨by simp only; omega, by simp [gcP, hi]⟩⟩
 ·rename_i hi
  split
  ·rename_i hc
   have hm : i ∈ refs := by simpa using hc
   have hlt := List.idxOf_lt_length_of_mem hm
   refine ⟨RExt.refl _ _, fun all ⟨t, ht⟩ => ?_⟩
   simp only at ht
   have hlt' : refs.idxOf i < all.length := by rw [ht, List.length_append]; omega
   refine ⟨by simp only; omega, ?_⟩
   simp only [gcP, if_neg (show ¬ n0 + refs.idxOf i < n0 by omega), show n0 + refs.idxOf i - n0 = refs.idxOf i by omega, List.getD_eq_getElem?_getD]
   rw [ht, List.getElem?_append_left hlt, List.getElem?_eq_getElem hlt]
   simp
  ·rename_i hc
   have hm : i ∉ refs := by simpa using hc
   refine ⟨⟨⟨[i], rfl, fun x hx => by simp at hx; omega⟩, fun h1 => List.nodup_append.2 ⟨h1, by simp, fun a ha b hb => by simp at hb; subst hb; rintro rfl; exact hm ha⟩⟩, fun all ⟨t, ht⟩ => ?_⟩
   simp only at ht
   have hlt : refs.length < all.length := by rw [ht]; simp
   refine ⟨by simp only; omega, ?_⟩
   simp only [gcP, if_neg (show ¬ n0 + refs.length < n0 by omega), show n0 + refs.length - n0 = refs.length by omega]
   simp [ht, List.getD_eq_getElem?_getD]
def XSpec (n0 : Nat) (refs refs' : List Nat) (v' v : Value) : Prop := RExt n0 refs refs' ∧ ∀ (all : List Nat), Sub refs' all → Ren (n0 + all.length) (gcP n0 all) v' v
def LSpec (n0 : Nat) (refs refs' : List Nat) (v' v : List Value) : Prop := RExt n0 refs refs' ∧ ∀ (all : List Nat), Sub refs' all → LRen (n0 + all.length) (gcP n0 all) v' v
theorem gcLs_spec {n0 : Nat} {g : List Nat → Value → Option (Value × List Nat)} (hg : ∀ refs v p, g refs v = some p → XSpec n0 refs p.2 p.1 v) : ∀ (vs : List Value) (refs : List Nat) (p : List Value × List Nat), gcLs g vs refs = some p → LSpec n0 refs p.2 p.1 vs
 | [], refs, p, h => by
  obtain rfl := Option.some.inj h
  exact ⟨RExt.refl _ _, fun all _ => ⟨rfl, fun i a b ha => by simp at ha⟩⟩
 | v :: vs, refs, p, h => by
  simp only [gcLs] at h
  split at h
  ·cases h
  ·rename_i p1 h1
   split at h
   ·cases h
   ·rename_i p2 h2
    obtain rfl := Option.some.inj h
    obtain ⟨a1, a2⟩ := hg _ _ _ h1
    obtain ⟨b1, b2⟩ := gcLs_spec hg vs _ _ h2
    refine ⟨a1.trans b1, fun all hall => ?_⟩
    have c1 := a2 all (b1.sub.trans hall)
    have c2 := b2 all hall
    refine ⟨by simp [c2.1], fun i a b ha hb => ?_⟩
    cases i with
    | zero => simp at ha hb; subst ha; subst hb; exact c1
    | succ i => exact c2.2 i a b (by simpa using ha) (by simpa using hb)
theorem LRen.agg {n : Nat} {π : Nat → Nat} {vs' : List Value} {cs : Array Value} (h : LRen n π vs' cs.toList) : Ren n π (.agg vs'.toArray) (.agg cs) :=
 .agg _ _ (by simpa using h.1) fun i h1 h2 => h.2 i _ _ (by simp) (by simp)
theorem LRen.tuple {n : Nat} {π : Nat → Nat} {vs' : List Value} {cs : Array Value} (h : LRen n π vs' cs.toList) : Ren n π (.tuple vs'.toArray) (.tuple cs) :=
 .tuple _ _ (by simpa using h.1) fun i h1 h2 => h.2 i _ _ (by simp) (by simp)
theorem gcX_spec (n0 : Nat) : ∀ (f : Nat) (refs : List Nat) (v : Value) (p : Value × List Nat), gcX n0 f refs v = some p → XSpec n0 refs p.2 p.1 v := by
 intro f
 induction f with
 | zero => intro refs v p h; cases h
 | succ f ih =>
  intro refs v p h
  unfold gcX at h
  split at h
  ·rename_i i o
   obtain rfl := Option.some.inj h
   obtain ⟨h1, h2⟩ := gcI_spec n0 refs i
   refine ⟨h1, fun all hall => ?_⟩
   obtain ⟨k1, k2⟩ := h2 all hall
   have := Ren.ptr (n := n0 + all.length) (π := gcP n0 all) (gcI n0 refs i).1 o k1
   rwa [k2] at this
  ·rename_i i o l c
   obtain rfl := Option.some.inj h
   obtain ⟨h1, h2⟩ := gcI_spec n0 refs i
   refine ⟨h1, fun all hall => ?_⟩
   obtain ⟨k1, k2⟩ := h2 all hall
   have := Ren.sl (n := n0 + all.length) (π := gcP n0 all) (gcI n0 refs i).1 o l c k1
   rwa [k2] at this
  ·rename_i i
   obtain rfl := Option.some.inj h
   obtain ⟨h1, h2⟩ := gcI_spec n0 refs i
   refine ⟨h1, fun all hall => ?_⟩
   obtain ⟨k1, k2⟩ := h2 all hall
   have := Ren.map (n := n0 + all.length) (π := gcP n0 all) (gcI n0 refs i).1 k1
   rwa [k2] at this
  ·obtain rfl := Option.some.inj h
   exact ⟨RExt.refl _ _, fun all _ => .poison _⟩
  ·split at h
   ·rename_i q hq
    obtain rfl := Option.some.inj h
    obtain ⟨h1, h2⟩ := ih _ _ _ hq
    exact ⟨h1, fun all hall => .iface _ _ _ (h2 all hall)⟩
   ·cases h
  ·split at h
   ·rename_i q hq
    obtain rfl := Option.some.inj h
    obtain ⟨h1, h2⟩ := gcLs_spec ih _ _ _ hq
    exact ⟨h1, fun all hall => (h2 all hall).agg⟩
   ·cases h
  ·split at h
   ·rename_i q hq
    obtain rfl := Option.some.inj h
    obtain ⟨h1, h2⟩ := gcLs_spec ih _ _ _ hq
    exact ⟨h1, fun all hall => (h2 all hall).tuple⟩
   ·cases h
  ·split at h
   ·rename_i q hq
    split at h
    ·rename_i q2 hq2
     obtain rfl := Option.some.inj h
     obtain ⟨h1, h2⟩ := gcLs_spec ih _ _ _ hq
     obtain ⟨h3, h4⟩ := gcLs_spec ih _ _ _ hq2
     refine ⟨h1.trans h3, fun all hall => ?_⟩
     have c1 := h2 all (h3.sub.trans hall)
     have c2 := h4 all hall
     exact .func _ _ _ _ _ (by simpa using c1.1) (by simpa using c2.1) (fun i h1 h2 => c1.2 i _ _ (by simp) (by simp)) (fun i h1 h2 => c2.2 i _ _ (by simp) (by simp))
    ·cases h
   ·cases h
  ·split at h
   ·rename_i hp
    obtain rfl := Option.some.inj h
    exact ⟨RExt.refl _ _, fun all _ => .plain _ hp⟩
   ·cases h
theorem gcEs_spec (n0 : Nat) : ∀ (es : List MEnt) (refs : List Nat) (p : List MEnt × List Nat), gcEs n0 es refs = some p → RExt n0 refs p.2 ∧ ∀ (all : List Nat), Sub p.2 all →
  p.1.length = es.length ∧ ∀ (k : Nat) (a b : MEnt), p.1[k]? = some a → es[k]? = some b → a.1 = b.1 ∧ a.2.2 = b.2.2 ∧ Ren (n0 + all.length) (gcP n0 all) a.2.1 b.2.1
 | [], refs, p, h => by
  obtain rfl := Option.some.inj h
  exact ⟨RExt.refl _ _, fun all _ => ⟨rfl, fun i a b ha => by simp at ha⟩⟩
 | e :: es, refs, p, h => by
  simp only [gcEs] at h
  split at h
  ·cases h
  ·rename_i p1 h1
   split at h
   ·cases h
   ·rename_i p2 h2
    obtain rfl := Option.some.inj h
    obtain ⟨a1, a2⟩ := gcX_spec n0 _ _ _ _ h1
    obtain ⟨b1, b2⟩ := gcEs_spec n0 es _ _ h2
    refine ⟨a1.trans b1, fun all hall => ?_⟩
    have c1 := a2 all (b1.sub.trans hall)
    obtain ⟨c2, c3⟩ := b2 all hall
    refine ⟨by simp [c2], fun i a b ha hb => ?_⟩
    cases i with
    | zero => simp at ha hb; subst ha; subst hb; exact ⟨rfl, rfl, c1⟩
    | succ i => exact c3 i a b (by simpa using ha) (by simpa using hb)
theorem gcB_spec {n0 : Nat} {refs : List Nat} {b : EB} {p : EB × List Nat} (h : gcB n0 refs b = some p) : RExt n0 refs p.2 ∧ ∀ (all : List Nat), Sub p.2 all → ∀ q q', BRen (n0 + all.length) (gcP n0 all) (p.1.to q') (b.to q) := by
 unfold gcB at h
 split at h
 ·split at h
  ·rename_i q hq
   obtain rfl := Option.some.inj h
   obtain ⟨h1, h2⟩ := gcLs_spec (gcX_spec n0 8) _ _ _ hq
   exact ⟨h1, fun all hall _ _ => ⟨rfl, rfl, rfl, h2 all hall⟩⟩
  ·cases h
 ·split at h
  ·rename_i q hq
   obtain rfl := Option.some.inj h
   obtain ⟨h1, h2⟩ := gcEs_spec n0 _ _ _ hq
   exact ⟨h1, fun all hall _ _ => ⟨rfl, rfl, (h2 all hall).1, (h2 all hall).2⟩⟩
  ·cases h
 ·cases h
theorem gcRun_spec {h' : CH} {n0 : Nat} : ∀ (f k : Nat) (refs : List Nat) (acc : CH) (r : CH × List Nat), gcRun h' n0 f k refs acc = some r → acc.n = n0 + k → acc.n ≤ 1000000001 →
  RExt n0 refs r.2 ∧ r.1.n = n0 + r.2.length ∧ r.1.n ≤ 1000000001 ∧ (∀ i, i < acc.n → r.1.get i = acc.get i) ∧
  ∀ j, k ≤ j → j < r.2.length → ∃ b b', h'.get (r.2.getD j 0) = some b ∧ r.1.get (n0 + j) = some b' ∧ ∀ q q', BRen (n0 + r.2.length) (gcP n0 r.2) (b'.to q') (b.to q) := by
 intro f
 induction f with
 | zero => intro k refs acc r h; cases h
 | succ f ih =>
  intro k refs acc r h hn hs
  simp only [gcRun] at h
  split at h
  ·split at h
   ·rename_i hk
    obtain rfl := Option.some.inj h
    exact ⟨RExt.refl _ _, by rw [hn, hk], hs, fun _ _ => rfl, fun j h1 h2 => by simp only at h2; omega⟩
   ·cases h
  ·rename_i hk
   split at h
   ·cases h
   ·rename_i b hb
    split at h
    ·cases h
    ·rename_i p hp
     split at h
     ·rename_i hroom
      have hroom : acc.n ≤ 1000000000 := Nat.le_of_ble_eq_true hroom
      obtain ⟨a1, a2⟩ := gcB_spec hp
      have hpn : (acc.push p.1).n = acc.n + 1 := rfl
      obtain ⟨b1, b2, b3, b4, b5⟩ := ih (k + 1) p.2 (acc.push p.1) r h (by rw [hpn]; omega) (by rw [hpn]; omega)
      refine ⟨a1.trans b1, b2, b3, fun i hi => ?_, fun j hj1 hj2 => ?_⟩
      ·rw [b4 i (by rw [hpn]; omega), CH.get_push hs, if_neg (by omega)]
      ·by_cases hjk : j = k
       ·subst hjk
        have hkl : j < refs.length := by omega
        obtain ⟨t, ht⟩ := (a1.trans b1).sub
        have hg : r.2.getD j 0 = refs.getD j 0 := by
         rw [ht, List.getD_eq_getElem?_getD, List.getD_eq_getElem?_getD, List.getElem?_append_left hkl]
        refine ⟨b, p.1, by rw [hg]; exact hb, ?_, a2 r.2 b1.sub⟩
        rw [← hn, b4 _ (by rw [hpn]; omega), CH.get_push hs, if_pos rfl]
       ·exact b5 j (by omega) hj2
     ·cases h
theorem gcDone_sound {rs rs' : Recs} {h h' : CH} {σ σ' : Heap} (hs : CSim rs h σ) (hs' : CSim rs' h' σ') (hr : ∀ i, i < h.n → rs' i = rs i) {v : Value} {y x : Value × CH} (hg : gcDone h h' v = some y) (h1 : y.1 = x.1) (h2 : y.2.n = x.2.n) (h3 : ∀ i, y.2.get i = x.2.get i) :
  DropTo σ v σ' x.1 (x.2.toHeap rs) := by
 unfold gcDone at hg
 split at hg
 ·cases hg
 ·rename_i p hp
  split at hg
  ·cases hg
  ·rename_i q hq
   obtain rfl := Option.some.inj hg
   simp only at h1 h2 h3
   obtain ⟨f1, f2⟩ := gcX_spec h.n 8 [] v p hp
   unfold gcHeap at hq
   split at hq
   ·rename_i hkeep
    simp only [CH.keepOk, Bool.and_eq_true, List.all_eq_true, List.mem_range] at hkeep
    obtain ⟨hle, hkeep⟩ := hkeep
    have hle : h.n ≤ h'.n := Nat.le_of_ble_eq_true hle
    have hsm := hs.sm
    obtain ⟨g0, g1, g2, g3, g4⟩ := gcRun_spec _ 0 p.2 ⟨h'.t, h.n⟩ q hq rfl hsm
    have hall := f1.trans g0
    have hnd : q.2.Nodup := hall.2 List.nodup_nil
    have hge : ∀ x ∈ q.2, h.n ≤ x := by
     obtain ⟨⟨t, ht, hx⟩, _⟩ := hall
     simpa [ht] using hx
    have hold : ∀ i, i < h.n → q.1.get i = h'.get i := fun i hi => by
     rw [g3 i hi, CH.get_lt (h := ⟨h'.t, h.n⟩) hi, CH.get_lt (by omega)]
    have hxn : (x.2.toHeap rs).n = h.n + q.2.length := by show x.2.n = _; rw [← h2, g1]
    have hxg : ∀ i, (x.2.toHeap rs).get i = (q.1.get i).map (EB.to (rs i)) := fun i => by show (x.2.get i).map _ = _; rw [← h3 i]
    rw [← h1]
    refine DropTo.rename (gcP h.n q.2) (by rw [hxn, ← hs.n]; omega) (fun i hi => ?_) (fun i hi1 hi2 => ?_) (fun i j hi1 hi2 hj1 hj2 he => ?_) (by rw [hxn]; exact f2 q.2 g0.sub)
    ·rw [← hs.n] at hi
     refine ⟨by simp [gcP, hi], by rw [hxg, hold i hi, hs'.get, hr i hi], ?_⟩
     have := hkeep i hi
     rw [hs'.get, hs.get]
     split at this
     ·rename_i e1 e2; rw [e1, e2]; exact .inl rfl
     ·rename_i a b e1 e2
      rw [e1, e2]
      rw [Bool.or_eq_true] at this
      rcases this with hb | hb
      ·exact .inr ⟨_, rfl, (plainE_to hb).1⟩
      ·rw [EB.beq_eq hb, hr i hi]; exact .inl rfl
     ·cases this
    ·rw [← hs.n] at hi1
     rw [hxn] at hi2
     obtain ⟨b, b', e1, e2, e3⟩ := g4 (i - h.n) (by omega) (by omega)
     have hpi : gcP h.n q.2 i = q.2.getD (i - h.n) 0 := by simp [gcP, Nat.not_lt.2 hi1]
     have hin : q.2.getD (i - h.n) 0 ∈ q.2 := by
      have : i - h.n < q.2.length := by omega
      simp [List.getD_eq_getElem?_getD, this]
     rw [show h.n + (i - h.n) = i by omega] at e2
     rw [hpi]
     refine ⟨by rw [← hs.n]; exact hge _ hin, b'.to (rs i), b.to (rs' (q.2.getD (i - h.n) 0)), by rw [hxg, e2]; rfl, by rw [hs'.get, e1]; rfl, by rw [hxn]; exact e3 _ _⟩
    ·rw [← hs.n] at hi1 hj1
     rw [hxn] at hi2 hj2
     simp only [gcP, Nat.not_lt.2 hi1, Nat.not_lt.2 hj1, if_false] at he
     have h1' : i - h.n < q.2.length := by omega
     have h2' : j - h.n < q.2.length := by omega
     simp only [List.getD_eq_getElem?_getD, List.getElem?_eq_getElem h1', List.getElem?_eq_getElem h2', Option.getD_some] at he
     have := (List.getElem_inj (h₀ := h1') (h₁ := h2') hnd).1 he
     omega
   ·cases hq
theorem ecall_sound (hm : P.follows .mixedOrders = true) (hT : TabOk P T) (hSd : Sd P ev) (hG : Good R G) {ys : Ys} {f : FuncId} {args : List Value} {h : CH} {k : Value → CH → A} {rs : Recs} {σ : Heap} {K : Value → Heap → Prop}
  (hY : YOk P ys rs h.n) (hs : CSim rs h σ) (he : G (ecall T ev R ys f args h k)) (hk : Cont G rs h k K) : VCalled P f args σ K := by
 unfold ecall at he
 split at he
 ·rename_i vc rl nt hf
  have hF := hT.code f vc rl nt hf
  split at he
  ·rename_i hb
   exact hF.calls hm okSem (hSd R G hG ys vc none _ _ h _ rs σ _ hY hs (ET.of_rel (Nat.le_of_ble_eq_true hb)) he (eend_sound hG hk))
  ·exact (hG.fail he).elim
 ·rename_i vc rl nt hf
  have hF := hT.codeJ f vc rl nt hf
  split at he
  ·rename_i hb
   split at he
   ·rename_i x hx
    split at he
    ·rename_i hc
     have hroom : x.2.n ≤ 1000000000 := Nat.le_of_ble_eq_true hc.1
     have hK := hk x.1 x.2 rs _ (Nat.le_of_ble_eq_true hc.2) (fun _ _ => rfl) (toHeap_sim (by omega)) he
     refine hF.calls hm okSem (hSd joinOps (JGood x) (joinGood x) ys vc none _ _ h _ rs σ _ hY hs (ET.of_rel (Nat.le_of_ble_eq_true hb)) (show JGood x _ from ⟨x, hx, rfl, rfl, fun _ => rfl⟩) ?_)
     intro e et' h' rs' σ' env' hn hr hs' hE' _ hg
     have fin : JGood x (match eresults et' h' rl with | some v => gcDone h h' v | none => none) → obind (vresults env' σ' rl) fun v => ∃ v' σ'', DropTo σ v σ' v' σ'' ∧ K v' σ'' := by
      rintro ⟨y, hy, h1, h2, h3⟩
      split at hy
      ·rename_i v hv
       rw [eresults_sound hs' hE' hv]
       exact ⟨_, _, gcDone_sound hs hs' hr hy h1 h2 h3, hK⟩
      ·cases hy
     cases e with
     | normal => exact fin hg
     | ret => exact fin hg
     | _ => obtain ⟨y, hy, _⟩ := hg; cases hy
    ·exact (hG.fail he).elim
   ·exact (hG.fail he).elim
  ·exact (hG.fail he).elim
 ·rename_i hf
  split at he
  ·rename_i v
   exact hT.same f hf v σ K (hk v h rs σ (Nat.le_refl _) (fun _ _ => rfl) hs he)
  ·exact (hG.fail he).elim
 ·exact (hG.fail he).elim
theorem ecallTo_sound (hm : P.follows .mixedOrders = true) (hSd : Sd P ev) (hG : Good R G) {ys : Ys} {f : FuncId} {vc : VCode} {rl : List VResult} {nt : Nat} (hf : T f = some (.code vc rl nt)) (hF : Fun P f vc rl nt) {args : List Value} {h : CH} {k : Value → CH → A} {rs : Recs} {σ : Heap} {K : Value → Heap → Prop}
  (hY : YOk P ys rs h.n) (hs : CSim rs h σ) (he : G (ecall T ev R ys f args h k)) (hk : Cont G rs h k K) : VCallsTo P f args σ K := by
 unfold ecall at he
 rw [hf] at he
 simp only at he
 split at he
 ·rename_i hb
  exact hF.callsTo hm okSem (hSd R G hG ys vc none _ _ h _ rs σ _ hY hs (ET.of_rel (Nat.le_of_ble_eq_true hb)) he (eend_sound hG hk))
 ·exact (hG.fail he).elim
theorem eyield_sound (hSd : Sd P ev) (hG : Good R G) {ys : Ys} {i : Nat} {args : List Value} {h : CH} {k : Value → CH → A} {rs : Recs} {σ : Heap} {K : Value → Heap → Prop}
  (hY : YOk P ys rs h.n) (hs : CSim rs h σ) (he : G (eyield ev R ys i args h k)) (hk : Cont G rs h k K) : VYields P i args σ K := by
 unfold eyield at he
 split at he
 ·rename_i c hc
  obtain ⟨hin, henv, hok⟩ := hY i c hc
  split at he
  ·rename_i hg
   split at he
   ·rename_i hlen
    refine hok args σ K ⟨hs.lp hg, hlen, ?_⟩
    refine hSd R G hG ys c.a (some i) _ _ h _ rs σ _ hY hs (esetPs_rel c.ps args henv) he ?_
    intro e et1 h1 rs1 σ1 env1 hn1 hr1 hs1 hE1 _ hg1
    cases e with
    | normal =>
     simp only [eround] at hg1
     split at hg1
     ·rename_i hgi
      have e1 : rs1 i = rs i := hr1 i hin
      have hlp := hs1.lp hgi
      rw [e1] at hlp
      refine ⟨hlp, ?_⟩
      have hi1 := hs1.lt hgi
      refine hSd R G hG ys c.b (some i) et1 env1 _ _ rs1 _ _ (hY.mono (n' := (h1.upd i (.lp .busy none)).n) hn1 hr1) (hs1.upd hi1 (b := .lp .busy none) (by rw [EB.to, e1])) hE1 hg1 ?_
      intro e2 et2 h2 rs2 σ2 env2 hn2 hr2 hs2 hE2 _ hg2
      have hn2' : h1.n ≤ h2.n := hn2
      have e2' : rs2 i = rs i := (hr2 i hi1).trans e1
      unfold eroundK at hg2
      split at hg2
      ·rename_i hgi2
       have hi2 := hs2.lt hgi2
       have hlp2 := hs2.lp hgi2
       rw [e2'] at hlp2
       refine ⟨hlp2, ?_⟩
       have agree : ∀ j, j < h.n → rs2 j = rs j := fun j hj => (hr2 j (Nat.lt_of_lt_of_le hj hn1)).trans (hr1 j hj)
       cases e2 with
       | normal => exact hk _ (h2.upd i (.lp .ready none)) rs2 _ (Nat.le_trans hn1 hn2') agree (hs2.upd hi2 (b := .lp .ready none) (by simp only [EB.to, e2'])) hg2
       | ret => exact hk _ (h2.upd i (.lp .done (some .ret))) rs2 _ (Nat.le_trans hn1 hn2') agree (hs2.upd hi2 (b := .lp .done (some .ret)) (by simp only [EB.to, e2'])) hg2
       | exit id => exact hk _ (h2.upd i (.lp .done (some (.exit id)))) rs2 _ (Nat.le_trans hn1 hn2') agree (hs2.upd hi2 (b := .lp .done (some (.exit id))) (by simp only [EB.to, e2'])) hg2
       | _ => exact (hG.fail hg2).elim
      ·exact (hG.fail hg2).elim
     ·exact (hG.fail hg1).elim
    | _ => exact (hG.fail hg1).elim
   ·exact (hG.fail he).elim
  ·exact (hG.fail he).elim
 ·exact (hG.fail he).elim
theorem enextC_sound (hG : Good R G) {i m since clock : Nat} {seen : List Nat} {h : CH} {k : Value → CH → A} : ∀ (es : List MEnt),
  (∀ e ∈ es, seen.contains e.2.2 = true) ∧ enextC R i m since clock seen h k es = none ∨
  ∃ a, enextC R i m since clock seen h k es = some a ∧ (G a → ∀ e ∈ es, seen.contains e.2.2 = false → G (k (.tuple #[.bool true, e.1, e.2.1]) (h.upd i (.iter m since (seen ++ [e.2.2]) clock))))
 | [] => .inl ⟨fun _ h => (by cases h), rfl⟩
 | e :: es => by
  have ih := enextC_sound hG (i := i) (m := m) (since := since) (clock := clock) (seen := seen) (h := h) (k := k) es
  by_cases hc : seen.contains e.2.2 = true
  ·have he : enextC R i m since clock seen h k (e :: es) = enextC R i m since clock seen h k es := by rw [enextC, if_pos hc]
   rw [he]
   rcases ih with ⟨h1, h2⟩ | ⟨a, h1, h2⟩
   ·exact .inl ⟨fun x hx => by rcases List.mem_cons.1 hx with rfl | hx; exact hc; exact h1 x hx, h2⟩
   ·refine .inr ⟨a, h1, fun hga x hx hxs => ?_⟩
    rcases List.mem_cons.1 hx with rfl | hx
    ·rw [hc] at hxs; cases hxs
    ·exact h2 hga x hx hxs
  ·rcases ih with ⟨h1, h2⟩ | ⟨a, h1, h2⟩
   ·refine .inr ⟨k (.tuple #[.bool true, e.1, e.2.1]) (h.upd i (.iter m since (seen ++ [e.2.2]) clock)), by rw [enextC, if_neg hc, h2], fun hga x hx hxs => ?_⟩
    rcases List.mem_cons.1 hx with rfl | hx
    ·exact hga
    ·rw [h1 x hx] at hxs; cases hxs
   ·refine .inr ⟨R.both (k (.tuple #[.bool true, e.1, e.2.1]) (h.upd i (.iter m since (seen ++ [e.2.2]) clock))) a, by rw [enextC, if_neg hc, h1], fun hga x hx hxs => ?_⟩
    obtain ⟨g1, g2⟩ := hG.both _ _ hga
    rcases List.mem_cons.1 hx with rfl | hx
    ·exact g1
    ·exact h2 g2 x hx hxs
theorem enext_sound (hG : Good R G) {x : Value} {h : CH} {k : Value → CH → A} {rs : Recs} {σ : Heap} {K : Value → Heap → Prop} (hs : CSim rs h σ) (he : G (enext R x h k)) (hk : Cont G rs h k K) : vnext x σ K := by
 unfold enext at he
 unfold vnext
 split at he
 ·rename_i i
  split at he
  ·rename_i m since seen last hg
   have hi := hs.lt hg
   simp only [hs.iter hg]
   split at he
   ·rename_i es clock wr hma
    obtain ⟨k1, _⟩ := hs.mapAt hma
    simp only [k1]
    split at he
    ·rename_i hc
     refine ⟨hc.1, hc.2, ?_⟩
     rcases enextC_sound hG (i := i) (m := m) (since := since) (clock := clock) (seen := seen) (h := h) (k := k) es with ⟨h1, h2⟩ | ⟨a, h1, h2⟩
     ·rw [h2] at he
      simp only at he
      split at he
      ·exact ⟨fun _ => hk _ _ rs σ (Nat.le_refl _) (fun _ _ => rfl) hs he, fun e hee hes => by rw [h1 e hee] at hes; cases hes⟩
      ·exact (hG.fail he).elim
     ·rw [h1] at he
      simp only at he
      have key : G a → ∀ e ∈ es, seen.contains e.2.2 = false → K (.tuple #[.bool true, e.1, e.2.1]) (σ.upd i (.obj (.iter m since (seen ++ [e.2.2]) clock) true)) := fun hga e hee hes =>
       hk _ (h.upd i (.iter m since (seen ++ [e.2.2]) clock)) rs _ (Nat.le_refl _) (fun _ _ => rfl) (hs.upd hi rfl) (h2 hga e hee hes)
      split at he
      ·obtain ⟨g1, g2⟩ := hG.both _ _ he
       exact ⟨fun _ => hk _ _ rs σ (Nat.le_refl _) (fun _ _ => rfl) hs g1, key g2⟩
      ·rename_i hn
       exact ⟨fun hh => absurd hh hn, key he⟩
    ·exact (hG.fail he).elim
   ·exact (hG.fail he).elim
  ·exact (hG.fail he).elim
 ·exact (hG.fail he).elim
theorem evop_sound (hm : P.follows .mixedOrders = true) (hT : TabOk P T) (hSd : Sd P ev) (hG : Good R G) {ys : Ys} {o : VOp} {et : ET} {env : Env} (hE : FRel et env) {h : CH} {k : Value → CH → A} {rs : Recs} {σ : Heap} {K : Value → Heap → Prop}
  (hY : YOk P ys rs h.n) (hs : CSim rs h σ) (he : G (evop T ev R ys o et h k)) (hk : Cont G rs h k K) : vop (semSpecs P) o env σ K := by
 have hev := evalE_eq hE
 have other : ∀ o' : VOp, G (eother R (eactF o' (evalE et) h) k) → obind (vact o' (evalO env) σ) fun p => K p.1 p.2 := by
  intro o' hg
  rw [hev] at hg
  unfold eother at hg
  split at hg
  ·rename_i p hp
   obtain ⟨h1, σ', h2, h3⟩ := eactF_sound hs hp
   rw [h2]
   exact hk _ _ rs σ' h1 (fun _ _ => rfl) h3 hg
  ·exact (hG.fail hg).elim
 cases o
 case callF f args =>
  simp only [evop, hev] at he
  exact ecall_sound hm hT hSd hG hY hs he hk
 case callV f args =>
  simp only [evop, hev] at he
  simp only [vop]
  unfold ecallV at he
  split at he
  ·rename_i g first cap hg
   simp only [hg]
   exact ecall_sound hm hT hSd hG hY hs he hk
  ·rename_i i first cap hg
   simp only [hg]
   exact eyield_sound hSd hG hY hs he hk
  ·exact (hG.fail he).elim
 case ext x =>
  cases x
  case nextMap x =>
   simp only [evop, hev] at he
   exact enext_sound hG hs he hk
  case delete a b c => exact other (.ext (.delete a b c)) he
  all_goals exact other _ he
 case move a => exact other (.move a) he
 case makeFunc a b c => exact other (.makeFunc a b c) he
 case bad => exact other .bad he
 all_goals exact other _ he
theorem evops_sound (hm : P.follows .mixedOrders = true) (hT : TabOk P T) (hSd : Sd P ev) (hG : Good R G) {ys : Ys} {k : ET → CH → A} {K : Env → Heap → Prop} : ∀ (ops : List VOper) (et : ET) (env : Env) (h : CH) (rs : Recs) (σ : Heap),
  YOk P ys rs h.n → CSim rs h σ → FRel et env → G (evops T ev R ys ops et h k) → ContN G rs h (List.length env) k K → vops (semSpecs P) ops env σ K := by
 intro ops
 induction ops with
 | nil => intro et env h rs σ hY hs hE he hk; exact hk et h rs σ env (Nat.le_refl _) (fun _ _ => rfl) hs hE rfl he
 | cons o rest ih =>
  intro et env h rs σ hY hs hE he hk
  have he : G (match ewant et o.guard with
   | none => R.fail
   | some true => evop T ev R ys o.op et h fun v h' => evops T ev R ys rest (et.put o.dst v) h' k
   | some false => evops T ev R ys rest (et.put o.dst undef) h k) := he
  rw [ewant_eq hE] at he
  simp only [vops]
  split at he
  ·exact (hG.fail he).elim
  ·rename_i hw
   rw [hw]
   refine ⟨fun _ => ?_, fun hh => by cases hh⟩
   refine evop_sound hm hT hSd hG hE hY hs he ?_
   intro v h' rs' σ' hn hr hs' hg
   refine ih _ _ h' rs' σ' (hY.mono hn hr) hs' (hE.put _ _) hg ?_
   intro et2 h2 rs2 σ2 env2 hn2 hr2 hs2 hE2 hl hg2
   exact hk et2 h2 rs2 σ2 env2 (Nat.le_trans hn hn2) (fun i hi => (hr2 i (by omega)).trans (hr i hi)) hs2 hE2 (by rw [hl, putE_length]) hg2
  ·rename_i hw
   rw [hw]
   refine ⟨fun hh => (by cases hh), fun _ => ?_⟩
   refine ih _ _ h rs σ hY hs (hE.put _ _) he ?_
   intro et2 h2 rs2 σ2 env2 hn2 hr2 hs2 hE2 hl hg2
   exact hk et2 h2 rs2 σ2 env2 hn2 hr2 hs2 hE2 (by rw [hl, putE_length]) hg2
def CSims (rs : Recs) (n : Nat) : List CH → List Heap → Prop
 | [], [] => True
 | h :: hs, σ :: σs => (CSim rs h σ ∧ h.n ≤ n) ∧ CSims rs n hs σs
 | _, _ => False
theorem CSims.mono {rs rs' : Recs} {n n' : Nat} (hn : n ≤ n') (hr : ∀ i, i < n → rs' i = rs i) : ∀ {hs : List CH} {σs : List Heap}, CSims rs n hs σs → CSims rs' n' hs σs
 | [], [], _ => trivial
 | h :: hs, σ :: σs, ⟨⟨h1, h2⟩, h3⟩ => ⟨⟨h1.rs fun i hi => hr i (by omega), by omega⟩, CSims.mono hn hr h3⟩
 | [], _ :: _, h => h.elim
 | _ :: _, [], h => h.elim
theorem CSims.snoc {rs : Recs} {n : Nat} {h : CH} {σ : Heap} (hs : CSim rs h σ) (hn : h.n ≤ n) : ∀ {hl : List CH} {σl : List Heap}, CSims rs n hl σl → CSims rs n (hl ++ [h]) (σl ++ [σ])
 | [], [], _ => ⟨⟨hs, hn⟩, trivial⟩
 | _ :: _, _ :: _, ⟨h1, h2⟩ => ⟨h1, CSims.snoc hs hn h2⟩
 | [], _ :: _, h => h.elim
 | _ :: _, [], h => h.elim
theorem CSims.get {rs : Recs} {n : Nat} {h : CH} {σ : Heap} (hs : CSim rs h σ) : ∀ {hl : List CH} {σl : List Heap} (j : Nat), CSims rs n hl σl → CSim rs (hl.getD j h) (σl.getD j σ)
 | [], [], _, _ => by simpa using hs
 | a :: l, b :: m, 0, ⟨h1, _⟩ => by simpa using h1.1
 | a :: l, b :: m, j + 1, ⟨_, h2⟩ => by simpa using CSims.get hs j h2
 | [], _ :: _, _, h => h.elim
 | _ :: _, [], _, h => h.elim
theorem ereads_sound {rs : Recs} {h : CH} {σ : Heap} (hs : CSim rs h σ) {op : VOp} {ev : Operand → Value} {v : Value} (hr : ereads op ev v h = true) : vreads op ev v σ := by
 unfold ereads at hr
 split at hr
 ·rename_i q hq
  obtain ⟨_, σ', h2, _⟩ := eactF_sound hs hq
  unfold vreads
  rw [h2]
  exact vbeq_eq _ _ _ hr
 ·cases hr
def PSims : List (Nat × (CH → Bool)) → List (Nat × (Heap → Prop)) → Prop
 | [], [] => True
 | c :: l, d :: m => (c.1 = d.1 ∧ ∀ rs h σ, CSim rs h σ → c.2 h = true → d.2 σ) ∧ PSims l m
 | _, _ => False
theorem epend_sound {rs : Recs} {h : CH} {σ : Heap} (hs : CSim rs h σ) {r : Nat} : ∀ {l : List (Nat × (CH → Bool))} {m : List (Nat × (Heap → Prop))}, PSims l m → epend r h l = true → vpend r σ m
 | [], [], _, _ => trivial
 | c :: l, d :: m, ⟨⟨h1, h2⟩, h3⟩, he => by
  simp only [epend, Bool.and_eq_true, Bool.or_eq_true, Bool.not_eq_true'] at he
  refine ⟨fun hr => h2 rs h σ hs ?_, epend_sound hs h3 he.2⟩
  rcases he.1 with h | h
  ·rw [h1, Nat.ble_eq_true_of_le hr] at h; cases h
  ·exact h
 | [], _ :: _, h, _ => h.elim
 | _ :: _, [], h, _ => h.elim
theorem CSims.mem {rs : Recs} {n : Nat} : ∀ {hl : List CH} {σl : List Heap}, CSims rs n hl σl → ∀ (f : CH → Bool) (Q : Heap → Prop), (∀ rs h σ, CSim rs h σ → f h = true → Q σ) → ∀ j, (hl.drop j).all f = true → ∀ τ ∈ σl.drop j, Q τ
 | [], [], _, _, _, _, _, _, τ, hτ => by simp at hτ
 | h :: hl, σ :: σl, ⟨h1, h2⟩, f, Q, hQ, 0, ha, τ, hτ => by
  simp only [List.drop_zero, List.all_cons, Bool.and_eq_true, List.mem_cons] at ha hτ
  rcases hτ with rfl | hτ
  ·exact hQ rs h τ h1.1 ha.1
  ·exact CSims.mem h2 f Q hQ 0 (by simpa using ha.2) τ (by simpa using hτ)
 | h :: hl, σ :: σl, ⟨h1, h2⟩, f, Q, hQ, j + 1, ha, τ, hτ => CSims.mem h2 f Q hQ j (by simpa using ha) τ (by simpa using hτ)
 | [], _ :: _, h, _, _, _, _, _, _, _ => h.elim
 | _ :: _, [], h, _, _, _, _, _, _, _ => h.elim
theorem CSims.length {rs : Recs} {n : Nat} : ∀ {hl : List CH} {σl : List Heap}, CSims rs n hl σl → hl.length = σl.length
 | [], [], _ => rfl
 | _ :: _, _ :: _, ⟨_, h⟩ => by simp [CSims.length h]
 | [], _ :: _, h => h.elim
 | _ :: _, [], h => h.elim
theorem evopsD_sound (hm : P.follows .mixedOrders = true) (hT : TabOk P T) (hSd : Sd P ev) (hG : Good R G) {ys : Ys} {k : ET → CH → A} {K : Env → Heap → Prop} : ∀ (ops : List DOper) (et : ET) (env : Env) (hl : List CH) (h : CH) (pe : List (Nat × (CH → Bool))) (rs : Recs) (σl : List Heap) (σ : Heap) (pv : List (Nat × (Heap → Prop))),
  YOk P ys rs h.n → CSim rs h σ → FRel et env → CSims rs h.n hl σl → PSims pe pv → G (evopsD T ev R ys ops et hl h pe k) → ContN G rs h (List.length env) k K → vopsD (semSpecs P) ops env σl σ pv K := by
 intro ops
 induction ops with
 | nil => intro et env hl h pe rs σl σ pv hY hs hE hss hp he hk; exact hk et h rs σ env (Nat.le_refl _) (fun _ _ => rfl) hs hE rfl he
 | cons o rest ih =>
  intro et env hl h pe rs σl σ pv hY hs hE hss hps he hk
  have hev := evalE_eq hE
  simp only [evopsD, ewant_eq hE, hev] at he
  simp only [vopsD]
  have hlen := hss.length
  split at he
  ·exact (hG.fail he).elim
  ·rename_i hw
   rw [hw]
   refine ⟨fun _ => ?_, fun hh => by cases hh⟩
   split at he
   ·rename_i hk2
    rw [if_pos hk2]
    split at he
    ·rename_i p hp
     split at he
     ·rename_i hchk
      obtain ⟨hnew, hpe⟩ := hchk
      simp only [CH.newOk, Bool.and_eq_true, List.all_eq_true] at hnew
      obtain ⟨n1, n2, n3⟩ := hnew
      have n1 : h.n ≤ p.2.n := Nat.le_of_ble_eq_true n1
      have n2 : p.2.n ≤ 1000000000 := Nat.le_of_ble_eq_true n2
      have hsim : CSim rs p.2 (p.2.toHeap rs) := toHeap_sim (by omega)
      refine ⟨p.1, p.2.toHeap rs, ?_, ?_, ?_⟩
      ·refine evop_sound hm hT hSd (oneGood p) hE hY hs hp ?_
       intro v h' rs' σ' hn hr hs' hg
       have hg : (v, h') = p := Option.some.inj hg
       subst hg
       refine ⟨rfl, ?_⟩
       have : CSim rs h' σ' := by
        refine ⟨hs'.n, hs'.sm, fun i => ?_⟩
        rw [hs'.get]
        cases hgi : h'.get i with
        | none => rfl
        | some b =>
         rcases Nat.lt_or_ge i h.n with hi | hi
         ·rw [hr i hi]
         ·have hin := hs'.lt hgi
          have := n3 i (List.mem_range'_1.2 ⟨hi, by simp at n1 ⊢; omega⟩)
          simp only [hgi] at this
          cases b <;> first | rfl | cases this
       exact this.eq
      ·rw [← hlen]; exact epend_sound hsim hps hpe
      ·refine ih _ _ _ p.2 pe rs _ _ pv (hY.mono n1 (fun _ _ => rfl)) hsim (hE.put _ _) ((hss.mono n1 (fun _ _ => rfl)).snoc hsim (Nat.le_refl _)) hps he ?_
       intro et2 h2 rs2 σ2 env2 hn2 hr2 hs2 hE2 hl2 hg2
       exact hk et2 h2 rs2 σ2 env2 (Nat.le_trans n1 hn2) (fun i hi => hr2 i (by omega)) hs2 hE2 (by rw [hl2, putE_length]) hg2
     ·exact (hG.fail he).elim
    ·exact (hG.fail he).elim
   ·rename_i hk2
    rw [if_neg hk2]
    have done : ∀ (u : Value) (pe' : List (Nat × (CH → Bool))) (pv' : List (Nat × (Heap → Prop))), PSims pe' pv' → G (evopsD T ev R ys rest (et.put o.dst u) hl h pe' k) → vopsD (semSpecs P) rest (putE env o.dst u) σl σ pv' K := by
     intro u pe' pv' hp' hg
     refine ih _ _ hl h pe' rs σl σ pv' hY hs (hE.put _ _) hss hp' hg ?_
     intro et2 h2 rs2 σ2 env2 hn2 hr2 hs2 hE2 hl2 hg2
     exact hk et2 h2 rs2 σ2 env2 hn2 hr2 hs2 hE2 (by rw [hl2, putE_length]) hg2
    split at he
    ·rename_i hk1
     rw [if_pos hk1]
     split at he
     ·rename_i p hp
      split at he
      ·rename_i hall
       obtain ⟨_, σ', h2, _⟩ := eactF_sound hs hp
       rw [h2]
       refine ⟨hss.mem _ _ (fun rs h σ hc hf => ereads_sound hc hf) _ hall, ?_⟩
       refine done _ _ _ ?_ he
       rw [← hlen]
       split
       ·exact ⟨⟨rfl, fun rs h σ hc hf => ereads_sound hc hf⟩, hps⟩
       ·exact hps
      ·exact (hG.fail he).elim
     ·exact (hG.fail he).elim
    ·rename_i hk1
     rw [if_neg hk1]
     split at he
     ·rename_i p hp
      obtain ⟨_, σ', h2, _⟩ := eactF_sound hs hp
      rw [h2]
      exact done _ _ _ hps he
     ·exact (hG.fail he).elim
  ·rename_i hw
   rw [hw]
   refine ⟨fun hh => (by cases hh), fun _ => ?_⟩
   split at he
   ·rename_i hk2
    rw [if_pos hk2]
    split at he
    ·rename_i hpe
     refine ⟨by rw [← hlen]; exact epend_sound hs hps hpe, ?_⟩
     refine ih _ _ _ h pe rs _ σ pv hY hs (hE.put _ _) (hss.snoc hs (Nat.le_refl _)) hps he ?_
     intro et2 h2 rs2 σ2 env2 hn2 hr2 hs2 hE2 hl2 hg2
     exact hk et2 h2 rs2 σ2 env2 hn2 hr2 hs2 hE2 (by rw [hl2, putE_length]) hg2
    ·exact (hG.fail he).elim
   ·rename_i hk2
    rw [if_neg hk2]
    refine ih _ _ _ h pe rs _ σ pv hY hs (hE.put _ _) hss hps he ?_
    intro et2 h2 rs2 σ2 env2 hn2 hr2 hs2 hE2 hl2 hg2
    exact hk et2 h2 rs2 σ2 env2 hn2 hr2 hs2 hE2 (by rw [hl2, putE_length]) hg2
theorem ET.list_eq {e : ET} {env : Env} (h : FRel e env) : e.list = env := by
 apply List.ext_getElem?
 intro i
 unfold ET.list
 rw [List.getElem?_map]
 rcases Nat.lt_or_ge i e.m with hi | hi
 ·rw [List.getElem?_range hi]
  have := h.get i
  rw [h.m] at hi
  rw [List.getD_eq_getElem?_getD, List.getElem?_eq_getElem hi] at this
  rw [List.getElem?_eq_getElem hi, Option.map_some, ← this]; rfl
 ·rw [List.getElem?_eq_none (by simpa using hi), List.getElem?_eq_none (by rw [← h.m]; exact hi)]; rfl
theorem tuple_rel_inv {ρ : Plc} {n : Nat} {vs : Array Value} {cs : List Value} (h : VRel ρ n (.tuple vs) (.tuple cs.toArray)) : LRel ρ n vs.toList cs := by
 obtain ⟨ds, he, hl⟩ := h.tuple_inv
 have : cs.toArray = ds := by injection he
 subst this
 simpa using hl
theorem evalts_sound (hm : P.follows .mixedOrders = true) (hT : TabOk P T) (hSd : Sd P ev) {ys : Ys} {x : Value × CH} {vs : Array Value} (hxv : x.1 = .tuple vs) {K : Env → Heap → Prop} {et : ET} {env : Env} {h : CH} {rs : Recs} {σ : Heap} (hY : YOk P ys rs h.n) (hs : CSim rs h σ) (hE : FRel et env)
  (hk : K vs.toList (x.2.toHeap rs)) : ∀ (alts : List (List DOper)), JGood x (evalts T ev ys et h alts) → ∀ ops ∈ alts, vopsD (semSpecs P) ops env [σ] σ [] fun env1 σ1 => ∃ env2 σ2, DropE σ env1 σ1 env2 σ2 ∧ K env2 σ2 := by
 have one : ∀ a : List DOper, JGood x (evalt T ev ys et h a) → vopsD (semSpecs P) a env [σ] σ [] fun env1 σ1 => ∃ env2 σ2, DropE σ env1 σ1 env2 σ2 ∧ K env2 σ2 := by
  intro a ha
  refine evopsD_sound hm hT hSd (joinGood x) a et env [h] h [] rs [σ] σ [] hY hs hE ⟨⟨hs, Nat.le_refl _⟩, trivial⟩ trivial ha ?_
  intro et' h' rs' σ' env' hn hr hs' hE' hl hg
  obtain ⟨y, hy, h1, h2, h3⟩ := hg
  unfold gcEnv at hy
  have hd := gcDone_sound hs hs' hr hy h1 h2 h3
  rw [ET.list_eq hE', hxv] at hd
  refine ⟨vs.toList, x.2.toHeap rs, ?_, hk⟩
  intro ρ0 w0 ρ w cs hH0 hE0 hH hL
  obtain ⟨ρ', d1, d2, d3⟩ := hd ρ0 w0 ρ w (.tuple cs.toArray) hH0 hE0 hH (VRel.tuple_of hL)
  exact ⟨ρ', tuple_rel_inv d1, d2, d3⟩
 intro alts
 induction alts with
 | nil => rintro ⟨y, hy, _⟩; cases hy
 | cons a l ih =>
  intro he ops ho
  cases l with
  | nil =>
   obtain rfl := List.mem_singleton.1 ho
   exact one _ he
  | cons b r =>
   obtain ⟨g1, g2⟩ := (joinGood x).both _ _ he
   rcases List.mem_cons.1 ho with rfl | ho
   ·exact one _ g1
   ·exact ih g2 ops ho
theorem evsegs_sound (hm : P.follows .mixedOrders = true) (hT : TabOk P T) (hSd : Sd P ev) (hG : Good R G) {ys : Ys} {k : ET → CH → A} {K : Env → Heap → Prop} : ∀ (segs : List DSeg) (et : ET) (env : Env) (h : CH) (rs : Recs) (σ : Heap),
  YOk P ys rs h.n → CSim rs h σ → FRel et env → G (evsegs T ev R ys segs et h k) → ContN G rs h (List.length env) k K → vsegs (semSpecs P) segs env σ K := by
 intro segs
 induction segs with
 | nil => intro et env h rs σ hY hs hE he hk; exact hk et h rs σ env (Nat.le_refl _) (fun _ _ => rfl) hs hE rfl he
 | cons x rest ih =>
  intro et env h rs σ hY hs hE he hk
  have next : ContN G rs h (List.length env) (fun et h => evsegs T ev R ys rest et h k) (fun env σ => vsegs (semSpecs P) rest env σ K) := by
   intro et1 h1 rs1 σ1 env1 hn1 hr1 hs1 hE1 hl1 hg1
   refine ih et1 env1 h1 rs1 σ1 (hY.mono hn1 hr1) hs1 hE1 hg1 ?_
   intro et2 h2 rs2 σ2 env2 hn2 hr2 hs2 hE2 hl2 hg2
   exact hk et2 h2 rs2 σ2 env2 (Nat.le_trans hn1 hn2) (fun i hi => (hr2 i (by omega)).trans (hr1 i hi)) hs2 hE2 (hl2.trans hl1) hg2
  cases x with
  | one o => exact evops_sound hm hT hSd hG [o] et env h rs σ hY hs hE he next
  | alts l =>
   have many : G (match evalts T ev ys et h l with
     | some x => (match x.1 with
      | .tuple vs => if x.2.room = true ∧ Nat.ble h.n x.2.n = true ∧ vs.toList.length = et.m then evsegs T ev R ys rest (ET.of vs.toList 0) x.2 k else R.fail
      | _ => R.fail)
     | none => R.fail) → vsegs (semSpecs P) (.alts l :: rest) env σ K := by
    intro he
    split at he
    ·rename_i x hx
     split at he
     ·rename_i vs hxv
      split at he
      ·rename_i hc
       obtain ⟨c1, c2, c3⟩ := hc
       have hroom : x.2.n ≤ 1000000000 := Nat.le_of_ble_eq_true c1
       have hof : FRel (ET.of vs.toList 0) vs.toList := by
        have := ET.of_rel (args := vs.toList) (nt := 0) (by show vs.toList.length + (0 - vs.toList.length) ≤ _; have := hE.sm; omega)
        simpa using this
       exact evalts_sound hm hT hSd hxv hY hs hE (next _ x.2 rs _ _ (Nat.le_of_ble_eq_true c2) (fun _ _ => rfl) (toHeap_sim (by omega)) hof (by rw [c3, hE.m]) he) l ⟨x, hx, rfl, rfl, fun _ => rfl⟩
      ·exact (hG.fail he).elim
     ·exact (hG.fail he).elim
    ·exact (hG.fail he).elim
   match l, he with
   | [], he => exact many he
   | [a], he =>
    intro ops ho
    obtain rfl := List.mem_singleton.1 ho
    refine evopsD_sound hm hT hSd hG ops et env [h] h [] rs [σ] σ [] hY hs hE ⟨⟨hs, Nat.le_refl _⟩, trivial⟩ trivial he ?_
    intro et' h' rs' σ' env' hn hr hs' hE' hl hg
    exact ⟨env', σ', .refl _ _ _, next et' h' rs' σ' env' hn hr hs' hE' hl hg⟩
   | a :: b :: r, he => exact many he
def CodeSd (P : Program) (T : Tab) (ev : EvFn) (c : VCode) : Prop := ∀ {A : Type} (R : AnsOps A) (G : A → Prop), Good R G → ∀ (ys : Ys) (ro : Option Nat) (et : ET) (env : Env) (h : CH) (k : Exit → ET → CH → A) (rs : Recs) (σ : Heap) (Q : Exit → Env → Heap → Prop),
 YOk P ys rs h.n → CSim rs h σ → FRel et env → G (evCode T ev R ys c ro et h k) → ContE G rs h (List.length env) k Q → vwp (semSpecs P) c ro Q env σ
theorem erange_sound (hm : P.follows .mixedOrders = true) (hT : TabOk P T) (hSd : Sd P ev) (hG : Good R G) {ys : Ys} {g : Operand} {ps : List Nat} {a b : VCode} {ro : Option Nat} {et : ET} {env : Env} {h : CH} {k : Exit → ET → CH → A} {rs : Recs} {σ : Heap} {Q : Exit → Env → Heap → Prop}
  (hY : YOk P ys rs h.n) (hs : CSim rs h σ) (hE : FRel et env) (he : G (erange T ev R ys (evalE et g) ps a b ro et h k)) (hk : ContE G rs h (List.length env) k Q) : vwp (semSpecs P) (.rangeF g ps a b) ro Q env σ := by
 rw [evalE_eq hE] at he
 unfold erange at he
 simp only [vwp, vrange]
 split at he
 ·rename_i f first cap hg
  simp only [hg]
  split at he
  ·rename_i vc rl nt hf
   have hF := hT.code f vc rl nt hf
   split at he
   ·rename_i hchk
    obtain ⟨hin, hroom⟩ := hchk
    have hit : (semSpecs P).it f = some fun i Y args σ K => OkYield P i Y → VCallsTo P f args σ K := by
     simp only [semSpecs]; rw [if_pos hF.enterable]
    rw [hit]
    refine ⟨?_, fun r hYi => ?_⟩
    ·cases ro with
     | none => trivial
     | some i =>
      simp only [inLpOk] at hin
      split at hin
      ·rename_i st pend hgi; exact ⟨_, _, _, _, hs.lp hgi⟩
      ·cases hin
    ·let rs1 : Recs := fun i => if i = h.n then (env, r) else rs i
     have hag : ∀ i, i < h.n → rs1 i = rs i := fun i hi => by simp only [rs1]; rw [if_neg (by omega)]
     have hs1 : CSim rs1 (h.push (.lp .ready none)) (σ.push (.obj (.lp env r .ready none) true)) :=
      (hs.rs hag).push hroom (by simp [EB.to, rs1])
     have hY1 : YOk P ((h.n, ⟨ps, a, b, et⟩) :: ys) rs1 (h.push (.lp .ready none)).n := by
      intro i c hc
      simp only [Ys.find] at hc
      split at hc
      ·rename_i hbi
       have hbi := Nat.eq_of_beq_eq_true hbi
       subst hbi
       obtain rfl := Option.some.inj hc
       refine ⟨Nat.lt_succ_self _, by simp only [rs1, if_true]; exact hE, ?_⟩
       rw [hs.n] at *
       simpa [rs1, hs.n] using hYi
      ·obtain ⟨h1, h2, h3⟩ := hY i c hc
       rw [hag i h1]
       exact ⟨Nat.lt_succ_of_lt h1, h2, h3⟩
     rw [← hs.n]
     refine ecallTo_sound hm hSd hG hf hF hY1 hs1 he ?_
     intro v h' rs' σ' hn hr hs' hg'
     have hn' : h.n + 1 ≤ h'.n := hn
     unfold eendR at hg'
     unfold endR
     split at hg'
     ·rename_i st pend hgi
      have hi := hs'.lt hgi
      simp only [hs'.lp hgi]
      split at hg'
      ·rename_i hnb
       refine ⟨(by rintro rfl; cases hnb), ?_⟩
       have agree : ∀ j, j < h.n → rs' j = rs j := fun j hj => (hr j (Nat.lt_succ_of_lt hj)).trans (hag j hj)
       have hkl := hs'.kill hi
       split at hg'
       ·exact hk _ _ _ rs' _ _ (by show h.n ≤ h'.n; omega) agree hkl hE rfl hg'
       ·exact hk _ _ _ rs' _ _ (by show h.n ≤ h'.n; omega) agree hkl hE rfl hg'
       ·exact hk _ _ _ rs' _ _ (by show h.n ≤ h'.n; omega) agree hkl hE rfl hg'
       ·exact (hG.fail hg').elim
      ·exact (hG.fail hg').elim
     ·exact (hG.fail hg').elim
   ·exact (hG.fail he).elim
  ·exact (hG.fail he).elim
 ·exact (hG.fail he).elim
theorem evCode_sound (hm : P.follows .mixedOrders = true) (hT : TabOk P T) (hSd : Sd P ev)
  (hloop : ∀ b, CodeSd P T ev b → CodeSd P T ev (.loop b)) : ∀ (c : VCode), CodeSd P T ev c := by
 intro c
 induction c with
 | skip => intro A R G hG ys ro et env h k rs σ Q hY hs hE he hk; exact hk _ _ _ rs σ _ (Nat.le_refl _) (fun _ _ => rfl) hs hE rfl he
 | region ops =>
  intro A R G hG ys ro et env h k rs σ Q hY hs hE he hk
  exact evops_sound hm hT hSd hG ops et env h rs σ hY hs hE he fun et' h' rs' σ' env' h1 h2 h3 h4 h5 h6 => hk _ _ _ _ _ _ h1 h2 h3 h4 h5 h6
 | regionD segs =>
  intro A R G hG ys ro et env h k rs σ Q hY hs hE he hk
  exact evsegs_sound hm hT hSd hG segs et env h rs σ hY hs hE he fun et' h' rs' σ' env' h1 h2 h3 h4 h5 h6 => hk _ _ _ _ _ _ h1 h2 h3 h4 h5 h6
 | rangeF g ps a b iha ihb =>
  intro A R G hG ys ro et env h k rs σ Q hY hs hE he hk
  exact erange_sound hm hT hSd hG hY hs hE he hk
 | seq a b iha ihb =>
  intro A R G hG ys ro et env h k rs σ Q hY hs hE he hk
  simp only [vwp]
  refine iha R G hG ys ro et env h _ rs σ _ hY hs hE he ?_
  intro e et' h' rs' σ' env' hn hr hs' hE' hl hg
  cases e with
  | normal =>
   refine ihb R G hG ys ro et' env' h' k rs' σ' Q (hY.mono hn hr) hs' hE' hg ?_
   intro e2 et2 h2 rs2 σ2 env2 hn2 hr2 hs2 hE2 hl2 hg2
   exact hk e2 et2 h2 rs2 σ2 env2 (Nat.le_trans hn hn2) (fun i hi => (hr2 i (by omega)).trans (hr i hi)) hs2 hE2 (hl2.trans hl) hg2
  | _ => exact hk _ et' h' rs' σ' env' hn hr hs' hE' hl hg
 | cond c a b iha ihb =>
  intro A R G hG ys ro et env h k rs σ Q hY hs hE he hk
  have he : G (econd R (evalE et c) (evCode T ev R ys a ro et h k) (evCode T ev R ys b ro et h k)) := he
  rw [evalE_eq hE] at he
  unfold econd at he
  simp only [vwp]
  split at he
  ·rename_i hc
   rw [hc]
   exact ⟨fun _ => iha R G hG ys ro et env h k rs σ Q hY hs hE he hk, fun hh => by cases hh⟩
  ·rename_i hc
   rw [hc]
   exact ⟨fun hh => (by cases hh), fun _ => ihb R G hG ys ro et env h k rs σ Q hY hs hE he hk⟩
  ·exact (hG.fail he).elim
 | block id b ih =>
  intro A R G hG ys ro et env h k rs σ Q hY hs hE he hk
  simp only [vwp]
  refine ih R G hG ys ro et env h _ rs σ _ hY hs hE he ?_
  intro e et' h' rs' σ' env' hn hr hs' hE' hl hg
  cases e with
  | exit id' =>
   simp only [eblockK] at hg
   simp only [blockK]
   split at hg
   ·rename_i hid; rw [if_pos hid]; exact hk _ et' h' rs' σ' env' hn hr hs' hE' hl hg
   ·rename_i hid; rw [if_neg hid]; exact hk _ et' h' rs' σ' env' hn hr hs' hE' hl hg
  | _ => exact hk _ et' h' rs' σ' env' hn hr hs' hE' hl hg
 | loop b ih =>
  intro A R G hG ys ro et env h k rs σ Q hY hs hE he hk
  exact hloop b ih R G hG ys ro et env h k rs σ Q hY hs hE he hk
 | exit id => intro A R G hG ys ro et env h k rs σ Q hY hs hE he hk; exact hk _ _ _ rs σ _ (Nat.le_refl _) (fun _ _ => rfl) hs hE rfl he
 | ret => intro A R G hG ys ro et env h k rs σ Q hY hs hE he hk; exact hk _ _ _ rs σ _ (Nat.le_refl _) (fun _ _ => rfl) hs hE rfl he
 | bad => intro A R G hG ys ro et env h k rs σ Q hY hs hE he hk; exact (hG.fail he).elim
theorem flat_cases {v : Value} (h : flatV v = true) : plainV v = true ∨ ∃ vs, v = .tuple vs ∧ vs.toList.all plainV = true := by
 unfold flatV at h
 split at h <;> first | exact .inl rfl | exact .inr ⟨_, rfl, h⟩ | cases h
theorem flat_eq2 {ρ : Plc} {n : Nat} {v c : Value} (h : flatV v = true) (hv : VRel ρ n v c) : c = v := by
 rcases flat_cases h with hp | ⟨vs, rfl, hall⟩
 ·exact flat_eq' hp hv
 ·obtain ⟨ds, rfl, hl⟩ := hv.tuple_inv
  have hall : ∀ x ∈ vs.toList, plainV x = true := List.all_eq_true.1 hall
  have : ds.toList = vs.toList := by
   apply List.ext_getElem?
   intro i
   rcases Nat.lt_or_ge i vs.toList.length with hi | hi
   ·have hi' : i < ds.toList.length := by rw [← hl.1]; exact hi
    rw [List.getElem?_eq_getElem hi, List.getElem?_eq_getElem hi']
    rw [flat_eq' (hall _ (List.getElem_mem hi)) (hl.2 i _ _ (List.getElem?_eq_getElem hi) (List.getElem?_eq_getElem hi'))]
   ·rw [List.getElem?_eq_none hi, List.getElem?_eq_none (by rw [← hl.1]; exact hi)]
  rw [arr_eq this]
theorem flat_rel2 {ρ : Plc} {n : Nat} {v : Value} (h : flatV v = true) : VRel ρ n v v := by
 rcases flat_cases h with hp | ⟨vs, rfl, hall⟩
 ·exact plain_rel hp
 ·exact .tuple _ _ rfl fun i h1 _ => plain_rel (List.all_eq_true.1 hall _ (by simp))
theorem pick_range (m : Nat) (env : Env) (h : List.length env = m) : pickE (List.range m) env = env := by
 apply List.ext_getElem?
 intro i
 simp only [pickE, List.getElem?_map]
 rcases Nat.lt_or_ge i m with hi | hi
 ·rw [List.getElem?_range hi]
  simp [List.getD_eq_getElem?_getD, h, hi]
 ·rw [List.getElem?_eq_none (by simpa using hi), List.getElem?_eq_none (by omega)]; rfl
theorem spread_get : ∀ (l : List Nat) (vs base : List Value) (i : Nat), l.Nodup → vs.length = l.length → (∀ x ∈ l, x < base.length) → (spreadE l vs base)[i]? = if i ∈ l then vs[l.idxOf i]? else base[i]?
 | [], [], base, i, _, _, _ => by simp [spreadE]
 | [], _ :: _, _, _, _, h, _ => by simp at h
 | _ :: _, [], _, _, _, h, _ => by simp at h
 | x :: l, v :: vs, base, i, hn, h, hb => by
  obtain ⟨h1, h2⟩ := List.nodup_cons.1 hn
  simp only [spreadE]
  rw [spread_get l vs _ i h2 (by simpa using h) (fun y hy => by rw [List.length_set]; exact hb y (by simp [hy]))]
  by_cases hix : i = x
  ·subst hix
   rw [if_neg h1, if_pos (by simp), List.getElem?_set_self (hb i (by simp))]
   simp
  ·by_cases hil : i ∈ l
   ·have e : (x :: l).idxOf i = l.idxOf i + 1 := by rw [List.idxOf_cons, show (x == i) = false from by simpa using Ne.symm hix]; rfl
    rw [if_pos hil, if_pos (by simp [hil]), e]; rfl
   ·rw [if_neg hil, if_neg (by simp [hix, hil]), List.getElem?_set_ne (Ne.symm hix)]
theorem spread_range (m : Nat) (vs : List Value) (h : vs.length = m) : spreadE (List.range m) vs (List.replicate m poison) = vs := by
 apply List.ext_getElem?
 intro i
 rw [spread_get _ _ _ _ List.nodup_range (by simpa using h) (fun x hx => by simpa using hx)]
 split
 ·rename_i hi
  have hi := List.mem_range.1 hi
  have : (List.range m).idxOf i = i := by
   have h1 : (List.range m).idxOf i < (List.range m).length := List.idxOf_lt_length_of_mem (List.mem_range.2 hi)
   have h2 := List.getElem_idxOf h1
   rw [List.getElem_range] at h2
   exact h2
  rw [this]
 ·rename_i hi
  have hi : m ≤ i := by simpa using hi
  rw [List.getElem?_eq_none (by simpa using hi), List.getElem?_eq_none (by omega)]
theorem code_sound (hm : P.follows .mixedOrders = true) (hT : TabOk P T) : ∀ (n : Nat) (c : VCode), CodeSd P T (veval T n) c := by
 intro n
 induction n using Nat.strongRecOn with
 | ind n ihn =>
  have hSd : Sd P (veval T n) := by
   cases n with
   | zero => intro A R G hG ys c ro et env h k rs σ Q hY hs hE he hk; exact (hG.fail he).elim
   | succ n => intro A R G hG ys c ro et env h k rs σ Q hY hs hE he hk; exact ihn n (Nat.lt_succ_self _) c R G hG ys ro et env h k rs σ Q hY hs hE he hk
  refine evCode_sound hm hT hSd fun b ihb => ?_
  intro A R G hG ys ro et env h k rs σ Q hY hs hE he hk
  have hbody : ∀ j, j ≤ n → CodeSd P T (veval T j) b := fun j hj => by
   rcases Nat.lt_or_ge j n with h' | h'
   ·exact ihn j h' b
   ·obtain rfl : j = n := by omega
    exact ihb
  simp only [vwp]
  refine ⟨List.range (List.length env), fun j vs σ1 => j ≤ n ∧ ∃ et1 h1 rs1, h.n ≤ h1.n ∧ (∀ i, i < h.n → rs1 i = rs i) ∧ CSim rs1 h1 σ1 ∧ FRel et1 vs ∧ List.length vs = List.length env ∧ G (evCode T (veval T j) R ys (.loop b) ro et1 h1 k), n, ?_, ?_⟩
  ·rw [pick_range _ _ rfl]
   exact ⟨Nat.le_refl _, et, h, rs, Nat.le_refl _, fun _ _ => rfl, hs, hE, rfl, he⟩
  ·rintro j vs σ1 ⟨hj, et1, h1, rs1, g1, g2, g3, gE, g4, g5⟩
   rw [spread_range _ _ g4]
   refine hbody j hj R G hG ys ro et1 vs h1 _ rs1 σ1 _ (hY.mono g1 g2) g3 gE g5 ?_
   intro e et' h' rs' σ' env' hn hr hs' hE' hl hg
   cases e with
   | normal =>
    cases j with
    | zero => exact (hG.fail hg).elim
    | succ j =>
     refine ⟨j, Nat.lt_succ_self _, by omega, et', h', rs', Nat.le_trans g1 hn, fun i hi => (hr i (by omega)).trans (g2 i hi), hs', ?_, ?_, ?_⟩
     ·rw [pick_range _ _ (hl.trans g4)]; exact hE'
     ·rw [pick_range _ _ (hl.trans g4)]; exact hl.trans g4
     ·exact hg
   | _ => exact hk _ et' h' rs' σ' env' (Nat.le_trans g1 hn) (fun i hi => (hr i (by omega)).trans (g2 i hi)) hs' hE' (hl.trans g4) hg
theorem veval_sound (hm : P.follows .mixedOrders = true) (hT : TabOk P T) (n : Nat) : Sd P (veval T n) := by
 cases n with
 | zero => intro A R G hG ys c ro et env h k rs σ Q hY hs hE he hk; exact (hG.fail he).elim
 | succ n => intro A R G hG ys c ro et env h k rs σ Q hY hs hE he hk; exact code_sound hm hT n c R G hG ys ro et env h k rs σ Q hY hs hE he hk
theorem HRel.forget {ρ : Plc} {σ : Heap} {w : World} (_ : HRel ρ σ w) : HRel (fun _ => none) Heap.empty w :=
 ⟨fun i b h => (by cases h), fun _ _ => rfl, fun i p h => (by cases h), fun i j p q b _ h => (by cases h)⟩
theorem called_empty {f : FuncId} {args : List Value} (ha : args.all plainV = true) {v : Value} (hv : flatV v = true) (he : Enterable P f) (h0 : VCallsTo P f args Heap.empty (fun u _ => u = v)) {σ : Heap} {K : Value → Heap → Prop} (hK : K v σ) : VCalled P f args σ K := by
 refine VCallsTo.called he ?_
 intro ρ w cargs hH hL
 refine (h0 (fun _ => none) w cargs hH.forget ?_).mono ?_
 ·refine ⟨hL.1, fun i a c ha' hc => ?_⟩
  have hp := List.all_eq_true.1 ha a (List.mem_of_getElem? ha')
  have := flat_eq' hp (hL.2 i a c ha' hc)
  subst this
  exact plain_rel hp
 ·rintro e w' ⟨c, rfl, u, ρ', σ', rfl, hvc, hH', hE⟩
  refine ⟨c, rfl, u, ρ, σ, hK, ?_, ?_, ?_⟩
  ·have : c = u := flat_eq2 hv hvc
   subst this
   exact flat_rel2 hv
  ·exact hH.world hE.size fun i p hp => hE.keep _ (hH.lt i p hp) (fun ⟨_, _, _, h, _⟩ => by cases h)
  ·exact ⟨hE.os, hE.tape, hE.output, hE.size, fun B hB _ => hE.keep B hB (fun ⟨_, _, _, h, _⟩ => by cases h), fun _ _ h => h, Nat.le_refl _, fun _ _ _ h => h⟩
theorem run_call (hm : P.follows .mixedOrders = true) (hT : TabOk P T) (n : Nat) {f : FuncId} {vc : VCode} {rl : List VResult} {nt : Nat} (hF : Fun P f vc rl nt) (args : List Value) (ha : args.all plainV = true) (v : Value) (hv : flatV v = true) (p : Value → Bool) (hp : ∀ u, p u = true → u = v)
  (hnt : Nat.ble (ET.of args nt).m 1000000 = true) (he : veval T n boolOps [] vc none (ET.of args nt) CH.empty (eend false rl fun v _ => p v) = true) {σ : Heap} {K : Value → Heap → Prop} (hK : K v σ) : VCalled P f args σ K := by
 refine called_empty ha hv hF.enterable ?_ hK
 refine hF.callsTo hm okSem ?_
 exact veval_sound hm hT n boolOps (· = true) boolGood [] vc none _ _ CH.empty _ (fun _ => ([], default)) Heap.empty _ (fun i c h => by cases h) ⟨rfl, by decide, fun i => rfl⟩ (ET.of_rel (Nat.le_of_ble_eq_true hnt)) he
  (eend_sound (R := boolOps) boolGood fun v' h' rs' σ' _ _ _ hg => hp v' hg)
end
end Go.V
namespace Go.V
open Go
def EntOk (P : Program) (f : FuncId) : Option FEnt → Prop
 | none => True
 | some (.code vc rs nt) => Fun P f vc rs nt
 | some (.codeJ vc rs nt) => Fun P f vc rs nt
 | some .same => ∀ (v : Value) (σ : Heap) (K : Value → Heap → Prop), K v σ → VCalled P f [v] σ K
def EntsOk (P : Program) : Nat → List (Option FEnt) → Prop
 | _, [] => True
 | i, e :: l => EntOk P i e ∧ EntsOk P (i + 1) l
theorem EntsOk.get {P : Program} : ∀ {l : List (Option FEnt)} {i j : Nat} {e : FEnt}, EntsOk P i l → l[j]? = some (some e) → EntOk P (i + j) (some e)
 | [], _, _, _, _, h => by simp at h
 | x :: l, i, 0, e, h, hj => by simp at hj; subst hj; exact h.1
 | x :: l, i, j + 1, e, h, hj => by
  have := EntsOk.get (l := l) (i := i + 1) (j := j) h.2 (by simpa using hj)
  rw [Nat.add_assoc, Nat.add_comm 1 j] at this
  exact this
theorem tabOk_of {P : Program} {l : List (Option FEnt)} (h : EntsOk P 0 l) : TabOk P (fun f => (l[f]?).join) := by
 have key : ∀ f e, (l[f]?).join = some e → EntOk P f (some e) := fun f e he => by
  have := EntsOk.get (j := f) (e := e) h (by
   cases hl : l[f]? with
   | none => rw [hl] at he; cases he
   | some x => rw [hl] at he; simp at he; rw [he])
  simpa using this
 exact ⟨fun f vc rs nt he => key f _ he, fun f vc rs nt he => key f _ he, fun f he => key f _ he⟩
theorem ext_same {P : Program} {f : FuncId} {fn : Func} {e : Array Value → Sem Value} (hf : P.funcs[f]? = some fn) (h1 : (fn.name == "runtime.NumGoroutine") = false) (h2 : fn.body.isNone = true) (h3 : Extern.findNext fn = none) (h4 : Extern.find fn = some e) (h5 : ∀ (c : Value) w, (e #[c]).run P w = .ok c w)
  (v : Value) (σ : Heap) (K : Value → Heap → Prop) (hK : K v σ) : VCalled P f [v] σ K := by
 intro ρ w cargs hH hL
 obtain ⟨c, hc⟩ : ∃ c, cargs = #[c] := by
  have hl := hL.1
  match cargs, hl with
  | ⟨[c]⟩, _ => exact ⟨c, rfl⟩
 subst hc
 refine .inr ⟨c, ⟨v, ρ, σ, hK, hL.2 0 v c rfl rfl, hH, Ext.refl _ _ _⟩, fun w' _ => ?_⟩
 have h2' : fn.body = none := by simpa using h2
 have h1' : ¬ fn.name = "runtime.NumGoroutine" := by simpa using h1
 simp [callFunc, hf, h1', h2', h3, h4, h5]
def isTrue : Value → Bool
 | .bool true => true
 | _ => false
theorem isTrue_eq {v : Value} (h : isTrue v = true) : v = .bool true := by
 unfold isTrue at h
 split at h
 ·rfl
 ·cases h
theorem run_true {P : Program} (hm : P.follows .mixedOrders = true) {T : Tab} (hT : TabOk P T) (n : Nat) {f : FuncId} {vc : VCode} {rl : List VResult} {nt : Nat} (hF : Fun P f vc rl nt) (hnt : Nat.ble (ET.of [] nt).m 1000000 = true)
  (he : veval T n boolOps [] vc none (ET.of [] nt) CH.empty (eend false rl fun v _ => isTrue v) = true) {σ : Heap} {K : Value → Heap → Prop} (hK : K (.bool true) σ) : VCalled P f [] σ K :=
 run_call hm hT n hF [] rfl (.bool true) rfl isTrue (fun _ h => isTrue_eq h) hnt he hK
end Go.V
namespace Go.Proofs.Tryd
open Go Go.V Go.Proofs
theorem mixed : Tryd.prog.follows .mixedOrders = true := by kernel_rfl
noncomputable def cof (fn : Func) : VCode := match fn.body.bind (comp Tryd.prog) with | some c => c | none => .bad
theorem cof_ok {fn : Func} (h : (fn.body.bind (comp Tryd.prog)).isSome = true) : fn.body.bind (comp Tryd.prog) = some (cof fn) := by
 unfold cof
 cases h2 : fn.body.bind (comp Tryd.prog) with
 | none => rw [h2] at h; cases h
 | some c => rfl
noncomputable def c2 : VCode := cof Tryd.f2
theorem fun2 : Fun Tryd.prog 2 c2 [] 1 := ⟨Tryd.f2, Tryd.func2, cof_ok (by kernel_rfl), by kernel_rfl, rfl, rfl⟩
noncomputable def c3 : VCode := cof Tryd.f3
theorem fun3 : Fun Tryd.prog 3 c3 [.tmp 4] 79 := ⟨Tryd.f3, Tryd.func3, cof_ok (by kernel_rfl), by kernel_rfl, rfl, rfl⟩
noncomputable def c4 : VCode := cof Tryd.f4
theorem fun4 : Fun Tryd.prog 4 c4 [.tmp 2] 114 := ⟨Tryd.f4, Tryd.func4, cof_ok (by kernel_rfl), by kernel_rfl, rfl, rfl⟩
noncomputable def c5 : VCode := cof Tryd.f5
theorem fun5 : Fun Tryd.prog 5 c5 [.tmp 2] 167 := ⟨Tryd.f5, Tryd.func5, cof_ok (by kernel_rfl), by kernel_rfl, rfl, rfl⟩
noncomputable def c6 : VCode := cof Tryd.f6
theorem fun6 : Fun Tryd.prog 6 c6 [.tmp 4] 270 := ⟨Tryd.f6, Tryd.func6, cof_ok (by kernel_rfl), by kernel_rfl, rfl, rfl⟩
noncomputable def c7 : VCode := cof Tryd.f7
theorem fun7 : Fun Tryd.prog 7 c7 [.tmp 4] 232 := ⟨Tryd.f7, Tryd.func7, cof_ok (by kernel_rfl), by kernel_rfl, rfl, rfl⟩
noncomputable def c8 : VCode := cof Tryd.f8
theorem fun8 : Fun Tryd.prog 8 c8 [.tmp 2] 434 := ⟨Tryd.f8, Tryd.func8, cof_ok (by kernel_rfl), by kernel_rfl, rfl, rfl⟩
noncomputable def c9 : VCode := cof Tryd.f9
theorem fun9 : Fun Tryd.prog 9 c9 [.tmp 6] 235 := ⟨Tryd.f9, Tryd.func9, cof_ok (by kernel_rfl), by kernel_rfl, rfl, rfl⟩
noncomputable def c10 : VCode := cof Tryd.f10
theorem fun10 : Fun Tryd.prog 10 c10 [.tmp 4] 380 := ⟨Tryd.f10, Tryd.func10, cof_ok (by kernel_rfl), by kernel_rfl, rfl, rfl⟩
noncomputable def c11 : VCode := cof Tryd.f11
theorem fun11 : Fun Tryd.prog 11 c11 [.tmp 6] 22 := ⟨Tryd.f11, Tryd.func11, cof_ok (by kernel_rfl), by kernel_rfl, rfl, rfl⟩
noncomputable def c12 : VCode := cof Tryd.f12
theorem fun12 : Fun Tryd.prog 12 c12 [.tmp 0] 240 := ⟨Tryd.f12, Tryd.func12, cof_ok (by kernel_rfl), by kernel_rfl, rfl, rfl⟩
noncomputable def c13 : VCode := cof Tryd.f13
theorem fun13 : Fun Tryd.prog 13 c13 [.cell 2 true 2] 9 := ⟨Tryd.f13, Tryd.func13, cof_ok (by kernel_rfl), by kernel_rfl, rfl, rfl⟩
noncomputable def c14 : VCode := cof Tryd.f14
theorem fun14 : Fun Tryd.prog 14 c14 [.tmp 2] 6 := ⟨Tryd.f14, Tryd.func14, cof_ok (by kernel_rfl), by kernel_rfl, rfl, rfl⟩
noncomputable def c15 : VCode := cof Tryd.f15
theorem fun15 : Fun Tryd.prog 15 c15 [.cell 4 false 1, .tmp 5, .tmp 6] 86 := ⟨Tryd.f15, Tryd.func15, cof_ok (by kernel_rfl), by kernel_rfl, rfl, rfl⟩
noncomputable def c16 : VCode := cof Tryd.f16
theorem fun16 : Fun Tryd.prog 16 c16 [.tmp 4] 38 := ⟨Tryd.f16, Tryd.func16, cof_ok (by kernel_rfl), by kernel_rfl, rfl, rfl⟩
noncomputable def c17 : VCode := cof Tryd.f17
theorem fun17 : Fun Tryd.prog 17 c17 [.tmp 4] 26 := ⟨Tryd.f17, Tryd.func17, cof_ok (by kernel_rfl), by kernel_rfl, rfl, rfl⟩
noncomputable def c18 : VCode := cof Tryd.f18
theorem fun18 : Fun Tryd.prog 18 c18 [.tmp 4] 34 := ⟨Tryd.f18, Tryd.func18, cof_ok (by kernel_rfl), by kernel_rfl, rfl, rfl⟩
noncomputable def c19 : VCode := cof Tryd.f19
theorem fun19 : Fun Tryd.prog 19 c19 [.tmp 4, .tmp 5] 125 := ⟨Tryd.f19, Tryd.func19, cof_ok (by kernel_rfl), by kernel_rfl, rfl, rfl⟩
noncomputable def c20 : VCode := cof Tryd.f20
theorem fun20 : Fun Tryd.prog 20 c20 [.tmp 2] 19 := ⟨Tryd.f20, Tryd.func20, cof_ok (by kernel_rfl), by kernel_rfl, rfl, rfl⟩
noncomputable def c21 : VCode := cof Tryd.f21
theorem fun21 : Fun Tryd.prog 21 c21 [.tmp 2] 22 := ⟨Tryd.f21, Tryd.func21, cof_ok (by kernel_rfl), by kernel_rfl, rfl, rfl⟩
noncomputable def c22 : VCode := cof Tryd.f22
theorem fun22 : Fun Tryd.prog 22 c22 [.tmp 2, .tmp 3] 40 := ⟨Tryd.f22, Tryd.func22, cof_ok (by kernel_rfl), by kernel_rfl, rfl, rfl⟩
noncomputable def c23 : VCode := cof Tryd.f23
theorem fun23 : Fun Tryd.prog 23 c23 [.tmp 2, .tmp 3] 75 := ⟨Tryd.f23, Tryd.func23, cof_ok (by kernel_rfl), by kernel_rfl, rfl, rfl⟩
noncomputable def c24 : VCode := cof Tryd.f24
theorem fun24 : Fun Tryd.prog 24 c24 [.tmp 2, .tmp 3] 55 := ⟨Tryd.f24, Tryd.func24, cof_ok (by kernel_rfl), by kernel_rfl, rfl, rfl⟩
noncomputable def c25 : VCode := cof Tryd.f25
theorem fun25 : Fun Tryd.prog 25 c25 [.tmp 2, .tmp 3] 87 := ⟨Tryd.f25, Tryd.func25, cof_ok (by kernel_rfl), by kernel_rfl, rfl, rfl⟩
noncomputable def c26 : VCode := cof Tryd.f26
theorem fun26 : Fun Tryd.prog 26 c26 [.tmp 2] 27 := ⟨Tryd.f26, Tryd.func26, cof_ok (by kernel_rfl), by kernel_rfl, rfl, rfl⟩
noncomputable def c27 : VCode := cof Tryd.f27
theorem fun27 : Fun Tryd.prog 27 c27 [.tmp 2, .tmp 3] 52 := ⟨Tryd.f27, Tryd.func27, cof_ok (by kernel_rfl), by kernel_rfl, rfl, rfl⟩
noncomputable def c28 : VCode := cof Tryd.f28
theorem fun28 : Fun Tryd.prog 28 c28 [.tmp 8] 67 := ⟨Tryd.f28, Tryd.func28, cof_ok (by kernel_rfl), by kernel_rfl, rfl, rfl⟩
noncomputable def c29 : VCode := cof Tryd.f29
theorem fun29 : Fun Tryd.prog 29 c29 [.tmp 6] 15 := ⟨Tryd.f29, Tryd.func29, cof_ok (by kernel_rfl), by kernel_rfl, rfl, rfl⟩
noncomputable def c30 : VCode := cof Tryd.f30
theorem fun30 : Fun Tryd.prog 30 c30 [.tmp 6] 32 := ⟨Tryd.f30, Tryd.func30, cof_ok (by kernel_rfl), by kernel_rfl, rfl, rfl⟩
noncomputable def c31 : VCode := cof Tryd.f31
theorem fun31 : Fun Tryd.prog 31 c31 [.cell 2 true 2] 48 := ⟨Tryd.f31, Tryd.func31, cof_ok (by kernel_rfl), by kernel_rfl, rfl, rfl⟩
noncomputable def c32 : VCode := cof Tryd.f32
theorem fun32 : Fun Tryd.prog 32 c32 [.cell 2 true 2] 51 := ⟨Tryd.f32, Tryd.func32, cof_ok (by kernel_rfl), by kernel_rfl, rfl, rfl⟩
noncomputable def c33 : VCode := cof Tryd.f33
theorem fun33 : Fun Tryd.prog 33 c33 [.tmp 4] 40 := ⟨Tryd.f33, Tryd.func33, cof_ok (by kernel_rfl), by kernel_rfl, rfl, rfl⟩
noncomputable def c34 : VCode := cof Tryd.f34
theorem fun34 : Fun Tryd.prog 34 c34 [.tmp 6, .tmp 7] 61 := ⟨Tryd.f34, Tryd.func34, cof_ok (by kernel_rfl), by kernel_rfl, rfl, rfl⟩
noncomputable def c35 : VCode := cof Tryd.f35
theorem fun35 : Fun Tryd.prog 35 c35 [.cell 2 true 2] 9 := ⟨Tryd.f35, Tryd.func35, cof_ok (by kernel_rfl), by kernel_rfl, rfl, rfl⟩
noncomputable def c36 : VCode := cof Tryd.f36
theorem fun36 : Fun Tryd.prog 36 c36 [.tmp 4, .tmp 5] 43 := ⟨Tryd.f36, Tryd.func36, cof_ok (by kernel_rfl), by kernel_rfl, rfl, rfl⟩
noncomputable def c37 : VCode := cof Tryd.f37
theorem fun37 : Fun Tryd.prog 37 c37 [.tmp 4, .tmp 5] 31 := ⟨Tryd.f37, Tryd.func37, cof_ok (by kernel_rfl), by kernel_rfl, rfl, rfl⟩
noncomputable def c38 : VCode := cof Tryd.f38
theorem fun38 : Fun Tryd.prog 38 c38 [.tmp 4] 26 := ⟨Tryd.f38, Tryd.func38, cof_ok (by kernel_rfl), by kernel_rfl, rfl, rfl⟩
noncomputable def c39 : VCode := cof Tryd.f39
theorem fun39 : Fun Tryd.prog 39 c39 [.tmp 6, .tmp 7, .tmp 8] 97 := ⟨Tryd.f39, Tryd.func39, cof_ok (by kernel_rfl), by kernel_rfl, rfl, rfl⟩
noncomputable def c40 : VCode := cof Tryd.f40
theorem fun40 : Fun Tryd.prog 40 c40 [.tmp 2] 6 := ⟨Tryd.f40, Tryd.func40, cof_ok (by kernel_rfl), by kernel_rfl, rfl, rfl⟩
noncomputable def c41 : VCode := cof Tryd.f41
theorem fun41 : Fun Tryd.prog 41 c41 [.tmp 4] 67 := ⟨Tryd.f41, Tryd.func41, cof_ok (by kernel_rfl), by kernel_rfl, rfl, rfl⟩
noncomputable def c42 : VCode := cof Tryd.f42
theorem fun42 : Fun Tryd.prog 42 c42 [.tmp 6, .tmp 7, .tmp 8] 106 := ⟨Tryd.f42, Tryd.func42, cof_ok (by kernel_rfl), by kernel_rfl, rfl, rfl⟩
noncomputable def c43 : VCode := cof Tryd.f43
theorem fun43 : Fun Tryd.prog 43 c43 [.tmp 6, .tmp 7] 50 := ⟨Tryd.f43, Tryd.func43, cof_ok (by kernel_rfl), by kernel_rfl, rfl, rfl⟩
noncomputable def c44 : VCode := cof Tryd.f44
theorem fun44 : Fun Tryd.prog 44 c44 [.cell 0 true 2] 3 := ⟨Tryd.f44, Tryd.func44, cof_ok (by kernel_rfl), by kernel_rfl, rfl, rfl⟩
noncomputable def c45 : VCode := cof Tryd.f45
theorem fun45 : Fun Tryd.prog 45 c45 [.tmp 4] 26 := ⟨Tryd.f45, Tryd.func45, cof_ok (by kernel_rfl), by kernel_rfl, rfl, rfl⟩
noncomputable def c46 : VCode := cof Tryd.f46
theorem fun46 : Fun Tryd.prog 46 c46 [.tmp 2] 8 := ⟨Tryd.f46, Tryd.func46, cof_ok (by kernel_rfl), by kernel_rfl, rfl, rfl⟩
noncomputable def c47 : VCode := cof Tryd.f47
theorem fun47 : Fun Tryd.prog 47 c47 [.tmp 2] 4 := ⟨Tryd.f47, Tryd.func47, cof_ok (by kernel_rfl), by kernel_rfl, rfl, rfl⟩
noncomputable def c48 : VCode := cof Tryd.f48
theorem fun48 : Fun Tryd.prog 48 c48 [.tmp 4] 28 := ⟨Tryd.f48, Tryd.func48, cof_ok (by kernel_rfl), by kernel_rfl, rfl, rfl⟩
noncomputable def c49 : VCode := cof Tryd.f49
theorem fun49 : Fun Tryd.prog 49 c49 [] 28 := ⟨Tryd.f49, Tryd.func49, cof_ok (by kernel_rfl), by kernel_rfl, rfl, rfl⟩
noncomputable def c50 : VCode := cof Tryd.f50
theorem fun50 : Fun Tryd.prog 50 c50 [.tmp 2] 33 := ⟨Tryd.f50, Tryd.func50, cof_ok (by kernel_rfl), by kernel_rfl, rfl, rfl⟩
noncomputable def c51 : VCode := cof Tryd.f51
theorem fun51 : Fun Tryd.prog 51 c51 [.tmp 6] 28 := ⟨Tryd.f51, Tryd.func51, cof_ok (by kernel_rfl), by kernel_rfl, rfl, rfl⟩
noncomputable def c52 : VCode := cof Tryd.f52
theorem fun52 : Fun Tryd.prog 52 c52 [.tmp 2] 11 := ⟨Tryd.f52, Tryd.func52, cof_ok (by kernel_rfl), by kernel_rfl, rfl, rfl⟩
noncomputable def c53 : VCode := cof Tryd.f53
theorem fun53 : Fun Tryd.prog 53 c53 [.tmp 2] 22 := ⟨Tryd.f53, Tryd.func53, cof_ok (by kernel_rfl), by kernel_rfl, rfl, rfl⟩
noncomputable def c54 : VCode := cof Tryd.f54
theorem fun54 : Fun Tryd.prog 54 c54 [.tmp 4] 10 := ⟨Tryd.f54, Tryd.func54, cof_ok (by kernel_rfl), by kernel_rfl, rfl, rfl⟩
noncomputable def c55 : VCode := cof Tryd.f55
theorem fun55 : Fun Tryd.prog 55 c55 [.tmp 4] 9 := ⟨Tryd.f55, Tryd.func55, cof_ok (by kernel_rfl), by kernel_rfl, rfl, rfl⟩
noncomputable def c56 : VCode := cof Tryd.f56
theorem fun56 : Fun Tryd.prog 56 c56 [.tmp 4] 48 := ⟨Tryd.f56, Tryd.func56, cof_ok (by kernel_rfl), by kernel_rfl, rfl, rfl⟩
noncomputable def c57 : VCode := cof Tryd.f57
theorem fun57 : Fun Tryd.prog 57 c57 [.tmp 2] 7 := ⟨Tryd.f57, Tryd.func57, cof_ok (by kernel_rfl), by kernel_rfl, rfl, rfl⟩
noncomputable def c58 : VCode := cof Tryd.f58
theorem fun58 : Fun Tryd.prog 58 c58 [.tmp 4] 40 := ⟨Tryd.f58, Tryd.func58, cof_ok (by kernel_rfl), by kernel_rfl, rfl, rfl⟩
noncomputable def c59 : VCode := cof Tryd.f59
theorem fun59 : Fun Tryd.prog 59 c59 [.tmp 6] 34 := ⟨Tryd.f59, Tryd.func59, cof_ok (by kernel_rfl), by kernel_rfl, rfl, rfl⟩
noncomputable def c60 : VCode := cof Tryd.f60
theorem fun60 : Fun Tryd.prog 60 c60 [.tmp 4] 19 := ⟨Tryd.f60, Tryd.func60, cof_ok (by kernel_rfl), by kernel_rfl, rfl, rfl⟩
noncomputable def c61 : VCode := cof Tryd.f61
theorem fun61 : Fun Tryd.prog 61 c61 [.tmp 3] 8 := ⟨Tryd.f61, Tryd.func61, cof_ok (by kernel_rfl), by kernel_rfl, rfl, rfl⟩
noncomputable def c62 : VCode := cof Tryd.f62
theorem fun62 : Fun Tryd.prog 62 c62 [.tmp 2] 27 := ⟨Tryd.f62, Tryd.func62, cof_ok (by kernel_rfl), by kernel_rfl, rfl, rfl⟩
noncomputable def c63 : VCode := cof Tryd.f63
theorem fun63 : Fun Tryd.prog 63 c63 [.tmp 2] 28 := ⟨Tryd.f63, Tryd.func63, cof_ok (by kernel_rfl), by kernel_rfl, rfl, rfl⟩
noncomputable def c64 : VCode := cof Tryd.f64
theorem fun64 : Fun Tryd.prog 64 c64 [.tmp 4] 22 := ⟨Tryd.f64, Tryd.func64, cof_ok (by kernel_rfl), by kernel_rfl, rfl, rfl⟩
noncomputable def c65 : VCode := cof Tryd.f65
theorem fun65 : Fun Tryd.prog 65 c65 [.tmp 3] 20 := ⟨Tryd.f65, Tryd.func65, cof_ok (by kernel_rfl), by kernel_rfl, rfl, rfl⟩
noncomputable def c66 : VCode := cof Tryd.f66
theorem fun66 : Fun Tryd.prog 66 c66 [.tmp 6] 11 := ⟨Tryd.f66, Tryd.func66, cof_ok (by kernel_rfl), by kernel_rfl, rfl, rfl⟩
noncomputable def c67 : VCode := cof Tryd.f67
theorem fun67 : Fun Tryd.prog 67 c67 [.tmp 4] 22 := ⟨Tryd.f67, Tryd.func67, cof_ok (by kernel_rfl), by kernel_rfl, rfl, rfl⟩
noncomputable def c68 : VCode := cof Tryd.f68
theorem fun68 : Fun Tryd.prog 68 c68 [.tmp 4] 9 := ⟨Tryd.f68, Tryd.func68, cof_ok (by kernel_rfl), by kernel_rfl, rfl, rfl⟩
noncomputable def c69 : VCode := cof Tryd.f69
theorem fun69 : Fun Tryd.prog 69 c69 [.tmp 4] 48 := ⟨Tryd.f69, Tryd.func69, cof_ok (by kernel_rfl), by kernel_rfl, rfl, rfl⟩
noncomputable def c70 : VCode := cof Tryd.f70
theorem fun70 : Fun Tryd.prog 70 c70 [.tmp 4] 48 := ⟨Tryd.f70, Tryd.func70, cof_ok (by kernel_rfl), by kernel_rfl, rfl, rfl⟩
noncomputable def c71 : VCode := cof Tryd.f71
theorem fun71 : Fun Tryd.prog 71 c71 [.cell 6 true 4, .tmp 7] 50 := ⟨Tryd.f71, Tryd.func71, cof_ok (by kernel_rfl), by kernel_rfl, rfl, rfl⟩
noncomputable def c72 : VCode := cof Tryd.f72
theorem fun72 : Fun Tryd.prog 72 c72 [.tmp 2, .tmp 3] 46 := ⟨Tryd.f72, Tryd.func72, cof_ok (by kernel_rfl), by kernel_rfl, rfl, rfl⟩
noncomputable def c73 : VCode := cof Tryd.f73
theorem fun73 : Fun Tryd.prog 73 c73 [.tmp 4] 16 := ⟨Tryd.f73, Tryd.func73, cof_ok (by kernel_rfl), by kernel_rfl, rfl, rfl⟩
noncomputable def c74 : VCode := cof Tryd.f74
theorem fun74 : Fun Tryd.prog 74 c74 [.tmp 9] 45 := ⟨Tryd.f74, Tryd.func74, cof_ok (by kernel_rfl), by kernel_rfl, rfl, rfl⟩
noncomputable def c75 : VCode := cof Tryd.f75
theorem fun75 : Fun Tryd.prog 75 c75 [] 19 := ⟨Tryd.f75, Tryd.func75, cof_ok (by kernel_rfl), by kernel_rfl, rfl, rfl⟩
noncomputable def c76 : VCode := cof Tryd.f76
theorem fun76 : Fun Tryd.prog 76 c76 [.tmp 6] 15 := ⟨Tryd.f76, Tryd.func76, cof_ok (by kernel_rfl), by kernel_rfl, rfl, rfl⟩
noncomputable def c77 : VCode := cof Tryd.f77
theorem fun77 : Fun Tryd.prog 77 c77 [.tmp 2] 4 := ⟨Tryd.f77, Tryd.func77, cof_ok (by kernel_rfl), by kernel_rfl, rfl, rfl⟩
noncomputable def c78 : VCode := cof Tryd.f78
theorem fun78 : Fun Tryd.prog 78 c78 [.tmp 2] 25 := ⟨Tryd.f78, Tryd.func78, cof_ok (by kernel_rfl), by kernel_rfl, rfl, rfl⟩
noncomputable def c79 : VCode := cof Tryd.f79
theorem fun79 : Fun Tryd.prog 79 c79 [.tmp 6] 11 := ⟨Tryd.f79, Tryd.func79, cof_ok (by kernel_rfl), by kernel_rfl, rfl, rfl⟩
noncomputable def c80 : VCode := cof Tryd.f80
theorem fun80 : Fun Tryd.prog 80 c80 [.tmp 6] 11 := ⟨Tryd.f80, Tryd.func80, cof_ok (by kernel_rfl), by kernel_rfl, rfl, rfl⟩
noncomputable def c81 : VCode := cof Tryd.f81
theorem fun81 : Fun Tryd.prog 81 c81 [.tmp 4] 17 := ⟨Tryd.f81, Tryd.func81, cof_ok (by kernel_rfl), by kernel_rfl, rfl, rfl⟩
noncomputable def c82 : VCode := cof Tryd.f82
theorem fun82 : Fun Tryd.prog 82 c82 [.tmp 2] 4 := ⟨Tryd.f82, Tryd.func82, cof_ok (by kernel_rfl), by kernel_rfl, rfl, rfl⟩
noncomputable def c83 : VCode := cof Tryd.f83
theorem fun83 : Fun Tryd.prog 83 c83 [.tmp 6] 17 := ⟨Tryd.f83, Tryd.func83, cof_ok (by kernel_rfl), by kernel_rfl, rfl, rfl⟩
noncomputable def c84 : VCode := cof Tryd.f84
theorem fun84 : Fun Tryd.prog 84 c84 [.tmp 2] 14 := ⟨Tryd.f84, Tryd.func84, cof_ok (by kernel_rfl), by kernel_rfl, rfl, rfl⟩
noncomputable def c85 : VCode := cof Tryd.f85
theorem fun85 : Fun Tryd.prog 85 c85 [.tmp 4] 9 := ⟨Tryd.f85, Tryd.func85, cof_ok (by kernel_rfl), by kernel_rfl, rfl, rfl⟩
noncomputable def c86 : VCode := cof Tryd.f86
theorem fun86 : Fun Tryd.prog 86 c86 [.tmp 4] 13 := ⟨Tryd.f86, Tryd.func86, cof_ok (by kernel_rfl), by kernel_rfl, rfl, rfl⟩
noncomputable def c87 : VCode := cof Tryd.f87
theorem fun87 : Fun Tryd.prog 87 c87 [.tmp 4] 19 := ⟨Tryd.f87, Tryd.func87, cof_ok (by kernel_rfl), by kernel_rfl, rfl, rfl⟩
noncomputable def c88 : VCode := cof Tryd.f88
theorem fun88 : Fun Tryd.prog 88 c88 [.tmp 4, .tmp 5] 30 := ⟨Tryd.f88, Tryd.func88, cof_ok (by kernel_rfl), by kernel_rfl, rfl, rfl⟩
noncomputable def c89 : VCode := cof Tryd.f89
theorem fun89 : Fun Tryd.prog 89 c89 [.tmp 3] 15 := ⟨Tryd.f89, Tryd.func89, cof_ok (by kernel_rfl), by kernel_rfl, rfl, rfl⟩
noncomputable def c90 : VCode := cof Tryd.f90
theorem fun90 : Fun Tryd.prog 90 c90 [.tmp 4] 43 := ⟨Tryd.f90, Tryd.func90, cof_ok (by kernel_rfl), by kernel_rfl, rfl, rfl⟩
noncomputable def c91 : VCode := cof Tryd.f91
theorem fun91 : Fun Tryd.prog 91 c91 [.tmp 4] 9 := ⟨Tryd.f91, Tryd.func91, cof_ok (by kernel_rfl), by kernel_rfl, rfl, rfl⟩
noncomputable def c92 : VCode := cof Tryd.f92
theorem fun92 : Fun Tryd.prog 92 c92 [.tmp 4] 30 := ⟨Tryd.f92, Tryd.func92, cof_ok (by kernel_rfl), by kernel_rfl, rfl, rfl⟩
noncomputable def c93 : VCode := cof Tryd.f93
theorem fun93 : Fun Tryd.prog 93 c93 [] 19 := ⟨Tryd.f93, Tryd.func93, cof_ok (by kernel_rfl), by kernel_rfl, rfl, rfl⟩
noncomputable def c94 : VCode := cof Tryd.f94
theorem fun94 : Fun Tryd.prog 94 c94 [.tmp 4] 13 := ⟨Tryd.f94, Tryd.func94, cof_ok (by kernel_rfl), by kernel_rfl, rfl, rfl⟩
noncomputable def c95 : VCode := cof Tryd.f95
theorem fun95 : Fun Tryd.prog 95 c95 [.tmp 4] 13 := ⟨Tryd.f95, Tryd.func95, cof_ok (by kernel_rfl), by kernel_rfl, rfl, rfl⟩
noncomputable def c96 : VCode := cof Tryd.f96
theorem fun96 : Fun Tryd.prog 96 c96 [] 20 := ⟨Tryd.f96, Tryd.func96, cof_ok (by kernel_rfl), by kernel_rfl, rfl, rfl⟩
noncomputable def c97 : VCode := cof Tryd.f97
theorem fun97 : Fun Tryd.prog 97 c97 [.tmp 4] 19 := ⟨Tryd.f97, Tryd.func97, cof_ok (by kernel_rfl), by kernel_rfl, rfl, rfl⟩
noncomputable def c98 : VCode := cof Tryd.f98
theorem fun98 : Fun Tryd.prog 98 c98 [.tmp 4, .tmp 5] 17 := ⟨Tryd.f98, Tryd.func98, cof_ok (by kernel_rfl), by kernel_rfl, rfl, rfl⟩
noncomputable def c99 : VCode := cof Tryd.f99
theorem fun99 : Fun Tryd.prog 99 c99 [.tmp 4, .tmp 5] 51 := ⟨Tryd.f99, Tryd.func99, cof_ok (by kernel_rfl), by kernel_rfl, rfl, rfl⟩
noncomputable def c100 : VCode := cof Tryd.f100
theorem fun100 : Fun Tryd.prog 100 c100 [.tmp 4] 17 := ⟨Tryd.f100, Tryd.func100, cof_ok (by kernel_rfl), by kernel_rfl, rfl, rfl⟩
noncomputable def c101 : VCode := cof Tryd.f101
theorem fun101 : Fun Tryd.prog 101 c101 [.tmp 4] 23 := ⟨Tryd.f101, Tryd.func101, cof_ok (by kernel_rfl), by kernel_rfl, rfl, rfl⟩
noncomputable def c102 : VCode := cof Tryd.f102
theorem fun102 : Fun Tryd.prog 102 c102 [.cell 2 true 256, .tmp 3] 21 := ⟨Tryd.f102, Tryd.func102, cof_ok (by kernel_rfl), by kernel_rfl, rfl, rfl⟩
noncomputable def c103 : VCode := cof Tryd.f103
theorem fun103 : Fun Tryd.prog 103 c103 [.tmp 4] 16 := ⟨Tryd.f103, Tryd.func103, cof_ok (by kernel_rfl), by kernel_rfl, rfl, rfl⟩
noncomputable def c104 : VCode := cof Tryd.f104
theorem fun104 : Fun Tryd.prog 104 c104 [.tmp 4] 22 := ⟨Tryd.f104, Tryd.func104, cof_ok (by kernel_rfl), by kernel_rfl, rfl, rfl⟩
noncomputable def c105 : VCode := cof Tryd.f105
theorem fun105 : Fun Tryd.prog 105 c105 [.tmp 4] 23 := ⟨Tryd.f105, Tryd.func105, cof_ok (by kernel_rfl), by kernel_rfl, rfl, rfl⟩
noncomputable def c106 : VCode := cof Tryd.f106
theorem fun106 : Fun Tryd.prog 106 c106 [.tmp 4] 34 := ⟨Tryd.f106, Tryd.func106, cof_ok (by kernel_rfl), by kernel_rfl, rfl, rfl⟩
noncomputable def c107 : VCode := cof Tryd.f107
theorem fun107 : Fun Tryd.prog 107 c107 [.tmp 4] 19 := ⟨Tryd.f107, Tryd.func107, cof_ok (by kernel_rfl), by kernel_rfl, rfl, rfl⟩
noncomputable def c109 : VCode := cof Tryd.f109
theorem fun109 : Fun Tryd.prog 109 c109 [.tmp 4] 10 := ⟨Tryd.f109, Tryd.func109, cof_ok (by kernel_rfl), by kernel_rfl, rfl, rfl⟩
noncomputable def c110 : VCode := cof Tryd.f110
theorem fun110 : Fun Tryd.prog 110 c110 [.tmp 2, .tmp 3] 19 := ⟨Tryd.f110, Tryd.func110, cof_ok (by kernel_rfl), by kernel_rfl, rfl, rfl⟩
noncomputable def c111 : VCode := cof Tryd.f111
theorem fun111 : Fun Tryd.prog 111 c111 [.tmp 4] 9 := ⟨Tryd.f111, Tryd.func111, cof_ok (by kernel_rfl), by kernel_rfl, rfl, rfl⟩
noncomputable def c112 : VCode := cof Tryd.f112
theorem fun112 : Fun Tryd.prog 112 c112 [.tmp 2, .tmp 3] 51 := ⟨Tryd.f112, Tryd.func112, cof_ok (by kernel_rfl), by kernel_rfl, rfl, rfl⟩
noncomputable def c113 : VCode := cof Tryd.f113
theorem fun113 : Fun Tryd.prog 113 c113 [.tmp 2, .tmp 3] 117 := ⟨Tryd.f113, Tryd.func113, cof_ok (by kernel_rfl), by kernel_rfl, rfl, rfl⟩
noncomputable def c114 : VCode := cof Tryd.f114
theorem fun114 : Fun Tryd.prog 114 c114 [.tmp 4] 187 := ⟨Tryd.f114, Tryd.func114, cof_ok (by kernel_rfl), by kernel_rfl, rfl, rfl⟩
noncomputable def c115 : VCode := cof Tryd.f115
theorem fun115 : Fun Tryd.prog 115 c115 [.tmp 2] 6 := ⟨Tryd.f115, Tryd.func115, cof_ok (by kernel_rfl), by kernel_rfl, rfl, rfl⟩
noncomputable def c116 : VCode := cof Tryd.f116
theorem fun116 : Fun Tryd.prog 116 c116 [.tmp 4] 8 := ⟨Tryd.f116, Tryd.func116, cof_ok (by kernel_rfl), by kernel_rfl, rfl, rfl⟩
noncomputable def c117 : VCode := cof Tryd.f117
theorem fun117 : Fun Tryd.prog 117 c117 [.tmp 2] 17 := ⟨Tryd.f117, Tryd.func117, cof_ok (by kernel_rfl), by kernel_rfl, rfl, rfl⟩
noncomputable def c118 : VCode := cof Tryd.f118
theorem fun118 : Fun Tryd.prog 118 c118 [.tmp 2] 6 := ⟨Tryd.f118, Tryd.func118, cof_ok (by kernel_rfl), by kernel_rfl, rfl, rfl⟩
noncomputable def c120 : VCode := cof Tryd.f120
theorem fun120 : Fun Tryd.prog 120 c120 [.tmp 4] 8 := ⟨Tryd.f120, Tryd.func120, cof_ok (by kernel_rfl), by kernel_rfl, rfl, rfl⟩
theorem same108 : EntOk Tryd.prog 108 (some .same) := ext_same (e := Extern.AbiNoEscape.same) Tryd.func108 (by kernel_rfl) (by kernel_rfl) (by kernel_rfl) (by kernel_rfl) (fun _ _ => rfl)
end Go.Proofs.Tryd
namespace Go.V
open Go
theorem wrap_small {x : Nat} (h : x < 9223372036854775808) : IntKind.wrap .i64 (x : Int) = x := by
 have e : ((x : Int) % (18446744073709551616 : Int)) = x := by omega
 have : ¬ ((x : Int) ≥ 9223372036854775808) := by omega
 show (if (true && decide ((x : Int) % (18446744073709551616 : Int) ≥ 9223372036854775808)) = true then (x : Int) % (18446744073709551616 : Int) - 18446744073709551616 else (x : Int) % (18446744073709551616 : Int)) = x
 simp only [e, this, decide_false, Bool.and_false, Bool.false_eq_true, if_false]
theorem and_lt63 {x y : Nat} (h : x < 9223372036854775808) : x &&& y < 9223372036854775808 := Nat.lt_of_le_of_lt Nat.and_le_left h
theorem ofInt_nat (x : Nat) : BitVec.ofInt 64 (x : Int) = BitVec.ofNat 64 x := by
 apply BitVec.eq_of_toNat_eq; simp
theorem toNat_ofInt {x : Nat} (h : x < 9223372036854775808) : (BitVec.ofInt 64 (x : Int)).toNat = x := by
 rw [ofInt_nat, BitVec.toNat_ofNat, Nat.mod_eq_of_lt (by omega)]
theorem vand_nat {x y : Nat} (hx : x < 9223372036854775808) (hy : y < 9223372036854775808) : vbits .and .i64 x y = ((x &&& y : Nat) : Int) := by
 have e : (BitVec.ofInt 64 (x : Int) &&& BitVec.ofInt 64 (y : Int)).toNat = x &&& y := by rw [BitVec.toNat_and, toNat_ofInt hx, toNat_ofInt hy]
 show IntKind.wrap .i64 ((BitVec.ofInt 64 (x : Int) &&& BitVec.ofInt 64 (y : Int)).toNat : Int) = _
 rw [e, wrap_small (and_lt63 hx)]
theorem shr_nat {x i : Nat} (hi : i ≤ 64) : shrI .i64 x i = ((x >>> i : Nat) : Int) := by
 have : Nat.min i 64 = i := Nat.min_eq_left hi
 simp only [shrI, Int.toNat_natCast, IntKind.bits, this]
 rw [Nat.shiftRight_eq_div_pow, Int.fdiv_eq_ediv_of_nonneg _ (Int.le_of_lt (Int.pow_pos (by omega)))]
 norm_cast
theorem shr_bit {x i : Nat} (hx : x < 9223372036854775808) (hi : i ≤ 64) : (vbits .and .i64 (shrI .i64 x i) 1 == 1) = x.testBit i := by
 have h1 : x >>> i < 9223372036854775808 := Nat.lt_of_le_of_lt (by rw [Nat.shiftRight_eq_div_pow]; exact Nat.div_le_self _ _) hx
 rw [shr_nat hi, show (1 : Int) = ((1 : Nat) : Int) from rfl, vand_nat h1 (by omega), Nat.testBit]
 rw [Bool.eq_iff_iff]
 simp only [beq_iff_eq, bne_iff_ne, ne_eq]
 rw [Nat.and_comm, Nat.one_and_eq_mod_two]
 omega
end Go.V
set_option linter.unusedVariables false
namespace Go.Proofs.Tryd
open Go Go.V Go.Proofs
def inI (n a b : Int) : Bool := decide (a ≤ n) && decide (n ≤ b)
def tieErr (hk : Int) (lw : List Int) : Int := if !inI hk 1 24 then 2 else if 96 < lw.length then 5 else if lw.length = 0 then 7 else if lw.any (fun x => !inI x 0 (hk - 1)) then 2 else 0
def eyeErr (hk : Int) (lw l : List Int) : Int := if tieErr hk lw ≠ 0 then tieErr hk lw else if l.length ≠ lw.length then 4 else if l.any (fun x => !inI x (-1) (lw.length - 1)) then 2 else 0
def isRight (lw l : List Int) (w : Int) : Bool := let e := l.getD w.toNat 0; e != -1 && lw.getD e.toNat 0 == lw.getD w.toNat 0
def idxF (l : List Int) (p : Int → Bool) : Int := match l.findIdx? p with | some i => (i : Int) | none => -1
section
variable {α : Type} (R : α → α → Bool)
def best (a : α) : List α → Nat
 | [] => 0
 | x :: r => if R a x then max (best x r + 1) (best a r) else best a r
def outG (a : α) : List α → List α
 | [] => []
 | x :: r => if best R a (x :: r) ≤ best R a r then x :: outG a r else outG x r
def tanG (a : α) : List α → List α
 | [] => []
 | x :: r => if R a x && decide (best R x r + 1 = best R a (x :: r)) then x :: tanG x r else tanG a r
end
def pkI {α : Type} (b : Nat) : List α → List α
 | [] => []
 | x :: r => if b % 2 = 1 then x :: pkI (b / 2) r else pkI (b / 2) r
def pkN {α : Type} (b : Nat) : List α → List α
 | [] => []
 | x :: r => if b % 2 = 1 then pkN (b / 2) r else x :: pkN (b / 2) r
def pairs {α : Type} (p : α → α → Bool) : List α → Nat
 | [] => 0
 | a :: r => (r.filter (p a)).length + pairs p r
def thr (l : List Int) : List (Int × Int) := ((List.range l.length).map fun (w : Nat) => ((w : Int), l.getD w 0)).filter fun p => p.2 != -1
def refThr (l : List Int) : List Int := ((List.range l.length).filter fun w => decide (0 ≤ l.getD w 0)).map fun (w : Nat) => (w : Int)
def crossB (l : List Int) (a b : Int) : Bool := (decide (l.getD a.toNat 0 ≥ 0) && decide (l.getD b.toNat 0 ≥ 0)) && decide (l.getD (gmin a b).toNat 0 ≥ l.getD (gmax a b).toNat 0)
def crossingsI (l : List Int) : Int := (pairs (fun (a b : Nat) => crossB l a b) (List.range l.length) : Nat)
def eachB (l s : List Int) (c : Bool) : Bool := (List.range s.length).all fun i => (List.range i).all fun k => crossB l (s.getD i 0) (s.getD k 0) == c
def apartR (x y : Int × Int) : Bool := decide (x.2 < y.2)
def crossR (x y : Int × Int) : Bool := decide (x.2 ≥ y.2)
def outW (l : List Int) : List Int := (outG apartR (-1, -1) (thr l)).map (·.1)
def tangleW (l : List Int) : List Int := (tanG crossR (-1, 96) (thr l)).map (·.1)
def idxG {α : Type} (l : List α) (p : α → Bool) : Int := match l.findIdx? p with | some i => (i : Int) | none => -1
def layStep (s : List (List Int) × List (Int × Int)) (a : Int × Int) : List (List Int) × List (Int × Int) := match s.2.findIdx? (fun x => !(decide (x.2 ≥ a.2))) with
 | some i => (s.1.set i (s.1.getD i [] ++ [a.1]), s.2.set i a)
 | none => (s.1 ++ [[a.1]], s.2 ++ [a])
def layF (t : List (Int × Int)) : List (List Int) × List (Int × Int) := t.foldl layStep ([], [])
def layersW (l : List Int) : List (List Int) := (layF (thr l)).1
def putG (g : List (List Int)) (i : Nat) (w : Int) : List (List Int) := if i = g.length then g ++ [[w]] else g.set i (g.getD i [] ++ [w])
def layR (l : List Int) (n : Nat) : List Int → List (List Int) → Int
 | [], g => g.length
 | w :: r, g => (List.range (g.length + 1)).foldl (fun b i => if eachB l ((putG g i w).getD i []) false then gmin b (layR l n r (putG g i w)) else b) (n + 1)
def u8s (l : List Int) : Prop := ∀ x ∈ l, 0 ≤ x ∧ x ≤ 255
def u16s (l : List Int) : Prop := ∀ x ∈ l, 0 ≤ x ∧ x ≤ 65535
def bOk (h8 : Int) (ws rs ds : List Int) : Prop := 0 ≤ h8 ∧ h8 ≤ 255 ∧ u8s ws ∧ u16s rs ∧ u8s ds
def hkN (m h8 : Int) : Int := 1 + Int.tmod h8 m
def warpsN (hk : Int) (cap : Nat) (ws : List Int) : List Int := if ws = [] then [0] else (ws.take cap).map fun x => Int.tmod x hk
def rowsN (hk : Int) (cap : Nat) (rs : List Int) : List Int := if rs = [] then [21 % 2 ^ hk.toNat] else (rs.take cap).map fun x => x % 2 ^ hk.toNat
def bHk (h8 : Int) : Int := hkN 10 h8
def bWarps (h8 : Int) (ws : List Int) : List Int := warpsN (bHk h8) 24 ws
def bRows (h8 : Int) (rs : List Int) : List Int := rowsN (bHk h8) 8 rs
def bDraw (ds : List Int) (n : Nat) : List Int := (List.range n).map fun w => if w < ds.length then (if Int.tmod (ds.getD w 0) 16 = 15 then -1 else if ds.getD w 0 ≥ 80 then Int.tmod (ds.getD w 0) n else w) else w
section
variable {α : Type} {R : α → α → Bool}
theorem best_le : ∀ {l s : List α} {a : α}, s.Sublist l → (a :: s).Pairwise (fun x y => R x y = true) → s.length ≤ best R a l
 | [], s, a, h, _ => by rw [List.sublist_nil.1 h]; exact Nat.zero_le _
 | x :: r, s, a, h, hp => by
  rcases List.sublist_cons_iff.1 h with h' | ⟨s', rfl, h'⟩
  ·have := best_le h' hp
   simp only [best]; split
   ·exact Nat.le_trans this (Nat.le_max_right _ _)
   ·exact this
  ·rw [List.pairwise_cons] at hp
   have hax : R a x = true := hp.1 x List.mem_cons_self
   have := best_le (s := s') (a := x) h' hp.2
   simp only [best, hax, if_true, List.length_cons]
   omega
theorem best_tail {x : α} {r : List α} {a : α} : best R a r ≤ best R a (x :: r) := by
 simp only [best]; split
 ·exact Nat.le_max_right _ _
 ·exact Nat.le_refl _
theorem best_step {x : α} {r : List α} {a : α} (h : best R a r < best R a (x :: r)) : R a x = true ∧ best R a (x :: r) = best R x r + 1 := by
 simp only [best] at h ⊢
 split at h
 ·rename_i hx
  refine ⟨hx, ?_⟩
  rw [if_pos hx]; omega
 ·omega
theorem outG_len {l : List α} : ∀ {a : α}, (outG R a l).length + best R a l = l.length := by
 induction l with
 | nil => intro a; rfl
 | cons x r ih =>
  intro a
  simp only [outG]
  split
  ·rename_i h
   have h1 := ih (a := a)
   have h2 := best_tail (R := R) (x := x) (r := r) (a := a)
   simp only [List.length_cons]; omega
  ·rename_i h
   have h1 := ih (a := x)
   have := best_step (Nat.lt_of_not_le h)
   simp only [List.length_cons]; omega
theorem tanG_len {l : List α} : ∀ {a : α}, (tanG R a l).length = best R a l := by
 induction l with
 | nil => intro a; rfl
 | cons x r ih =>
  intro a
  simp only [tanG]
  split
  ·rename_i h
   simp only [Bool.and_eq_true, decide_eq_true_eq] at h
   simp only [List.length_cons, ih (a := x)]; exact h.2
  ·rename_i h
   rw [ih]
   simp only [Bool.and_eq_true, decide_eq_true_eq, not_and] at h
   apply Nat.le_antisymm best_tail
   apply Nat.le_of_not_lt
   intro hlt
   obtain ⟨h1, h2⟩ := best_step hlt
   exact h h1 h2.symm
theorem pkI_sub {l : List α} : ∀ {b : Nat}, (pkI b l).Sublist l := by
 induction l with
 | nil => intro b; exact .slnil
 | cons x r ih =>
  intro b
  by_cases hb : b % 2 = 1
  ·simp only [pkI, if_pos hb]; exact ih.cons_cons x
  ·simp only [pkI, if_neg hb]; exact ih.cons x
theorem pkN_sub {l : List α} : ∀ {b : Nat}, (pkN b l).Sublist l := by
 induction l with
 | nil => intro b; exact .slnil
 | cons x r ih =>
  intro b
  by_cases hb : b % 2 = 1
  ·simp only [pkN, if_pos hb]; exact ih.cons x
  ·simp only [pkN, if_neg hb]; exact ih.cons_cons x
theorem outG_pk (ht : ∀ x y z, R x y = true → R y z = true → R x z = true) : ∀ {l : List α} {a : α}, ∃ b, b < 2 ^ l.length ∧ pkN b l = outG R a l ∧ (a :: pkI b l).Pairwise (fun x y => R x y = true)
 | [], a => ⟨0, by simp, rfl, by simp [pkI]⟩
 | x :: r, a => by
  simp only [outG]
  split
  ·obtain ⟨b, h0, h1, h2⟩ := outG_pk ht (l := r) (a := a)
   have e1 : ¬ (2 * b % 2 = 1) := by omega
   have e2 : 2 * b / 2 = b := by omega
   refine ⟨2 * b, by rw [List.length_cons, Nat.pow_succ]; omega, ?_, ?_⟩
   ·simp only [pkN, e1, if_false, e2, h1]
   ·simp only [pkI, e1, if_false, e2]; exact h2
  ·rename_i h
   obtain ⟨k1, _⟩ := best_step (Nat.lt_of_not_le h)
   obtain ⟨b, h0, h1, h2⟩ := outG_pk ht (l := r) (a := x)
   have e1 : (2 * b + 1) % 2 = 1 := by omega
   have e2 : (2 * b + 1) / 2 = b := by omega
   refine ⟨2 * b + 1, by rw [List.length_cons, Nat.pow_succ]; omega, ?_, ?_⟩
   ·simp only [pkN, e1, if_true, e2, h1]
   ·simp only [pkI, e1, if_true, e2]
    refine List.pairwise_cons.2 ⟨fun y hy => ?_, h2⟩
    rcases List.mem_cons.1 hy with rfl | hy
    ·exact k1
    ·exact ht _ _ _ k1 ((List.pairwise_cons.1 h2).1 y hy)
theorem tanG_pk (ht : ∀ x y z, R x y = true → R y z = true → R x z = true) : ∀ {l : List α} {a : α}, ∃ b, b < 2 ^ l.length ∧ pkI b l = tanG R a l ∧ (a :: pkI b l).Pairwise (fun x y => R x y = true)
 | [], a => ⟨0, by simp, rfl, by simp [pkI]⟩
 | x :: r, a => by
  simp only [tanG]
  split
  ·rename_i h
   simp only [Bool.and_eq_true, decide_eq_true_eq] at h
   obtain ⟨b, h0, h1, h2⟩ := tanG_pk ht (l := r) (a := x)
   have e1 : (2 * b + 1) % 2 = 1 := by omega
   have e2 : (2 * b + 1) / 2 = b := by omega
   refine ⟨2 * b + 1, by rw [List.length_cons, Nat.pow_succ]; omega, ?_, ?_⟩
   ·simp only [pkI, e1, if_true, e2, h1]
   ·simp only [pkI, e1, if_true, e2]
    refine List.pairwise_cons.2 ⟨fun y hy => ?_, h2⟩
    rcases List.mem_cons.1 hy with rfl | hy
    ·exact h.1
    ·exact ht _ _ _ h.1 ((List.pairwise_cons.1 h2).1 y hy)
  ·obtain ⟨b, h0, h1, h2⟩ := tanG_pk ht (l := r) (a := a)
   have e1 : ¬ (2 * b % 2 = 1) := by omega
   have e2 : 2 * b / 2 = b := by omega
   refine ⟨2 * b, by rw [List.length_cons, Nat.pow_succ]; omega, ?_, ?_⟩
   ·simp only [pkI, e1, if_false, e2, h1]
   ·simp only [pkI, e1, if_false, e2]; exact h2
end
theorem thr_mem {l : List Int} {p : Int × Int} : p ∈ thr l ↔ ∃ w : Nat, w < l.length ∧ p = ((w : Int), l.getD w 0) ∧ p.2 ≠ -1 := by
 simp only [thr, List.mem_filter, List.mem_map, List.mem_range, bne_iff_ne, ne_eq]
 constructor
 ·rintro ⟨⟨w, h1, rfl⟩, h2⟩; exact ⟨w, h1, rfl, h2⟩
 ·rintro ⟨w, h1, rfl, h2⟩; exact ⟨⟨w, h1, rfl⟩, h2⟩
theorem thr_sorted (l : List Int) : (thr l).Pairwise (fun x y => x.1 < y.1) := by
 unfold thr
 refine List.Pairwise.filter _ ?_
 rw [List.pairwise_map]
 exact List.pairwise_lt_range.imp fun h => by simpa using h
theorem refThr_eq {l : List Int} (h : ∀ x ∈ l, -1 ≤ x) : refThr l = (thr l).map (·.1) := by
 simp only [refThr, thr, List.filter_map, List.map_map]
 have : (List.range l.length).filter (fun w => decide (0 ≤ l.getD w 0)) = (List.range l.length).filter ((fun p : Int × Int => p.2 != -1) ∘ fun (w : Nat) => ((w : Int), l.getD w 0)) := by
  refine List.filter_congr fun w hw => ?_
  have hw := List.mem_range.1 hw
  have := h _ (List.getElem_mem hw)
  simp only [Function.comp, getD_nat hw]
  by_cases hx : l[w] = -1
  ·simp [hx]
  ·have h1 : 0 ≤ l[w] := by omega
   simp [hx, h1]
 rw [this]; rfl
theorem thr_eyes {l : List Int} (h : ∀ x ∈ l, -1 ≤ x ∧ x ≤ 95) {p : Int × Int} (hp : p ∈ thr l) : 0 ≤ p.1 ∧ p.1 < l.length ∧ l.getD p.1.toNat 0 = p.2 ∧ 0 ≤ p.2 ∧ p.2 ≤ 95 := by
 obtain ⟨w, h1, rfl, h2⟩ := thr_mem.1 hp
 have := h _ (List.getElem_mem h1)
 dsimp only at h2 ⊢
 rw [getD_nat h1] at h2 ⊢
 exact ⟨by omega, by omega, by rw [Int.toNat_natCast, getD_nat h1], by omega, by omega⟩
theorem cross_eq {l : List Int} (h : ∀ x ∈ l, -1 ≤ x ∧ x ≤ 95) {x y : Int × Int} (hx : x ∈ thr l) (hy : y ∈ thr l) (hlt : x.1 < y.1) : crossB l y.1 x.1 = decide (x.2 ≥ y.2) := by
 obtain ⟨a1, a2, a3, a4, a5⟩ := thr_eyes h hx
 obtain ⟨b1, b2, b3, b4, b5⟩ := thr_eyes h hy
 have e1 : gmin y.1 x.1 = x.1 := by unfold gmin; rw [if_pos hlt]
 have e2 : gmax y.1 x.1 = y.1 := by unfold gmax; rw [if_neg (by omega)]
 have c1 : y.2 ≥ 0 := b4
 have c2 : x.2 ≥ 0 := a4
 simp only [crossB, e1, e2, a3, b3, c1, c2, decide_true, Bool.true_and, Bool.and_self]
theorem each_eq {l : List Int} (h : ∀ x ∈ l, -1 ≤ x ∧ x ≤ 95) {s : List (Int × Int)} (hs : s.Sublist (thr l)) (c : Bool) : eachB l (s.map (·.1)) c = true ↔ s.Pairwise (fun x y => decide (x.2 ≥ y.2) = c) := by
 have hsort := (thr_sorted l).sublist hs
 rw [List.pairwise_iff_getElem] at hsort ⊢
 simp only [eachB, List.all_eq_true, List.mem_range, List.length_map, beq_iff_eq]
 have get : ∀ i (hi : i < s.length), (s.map (·.1)).getD i 0 = s[i].1 := fun i hi => by rw [getD_nat (by simpa using hi)]; simp
 constructor
 ·intro hh i j hi hj hij
  have := hh j hj i hij
  rw [get i hi, get j hj, cross_eq h (hs.subset (List.getElem_mem hi)) (hs.subset (List.getElem_mem hj)) (hsort i j hi hj hij)] at this
  exact this
 ·intro hh i hi k hk
  have hk' : k < s.length := by omega
  rw [get i hi, get k hk', cross_eq h (hs.subset (List.getElem_mem hk')) (hs.subset (List.getElem_mem hi)) (hsort k i hk' hi hk)]
  exact hh k i hk' hi hk
theorem first_apart {l : List Int} (h : ∀ x ∈ l, -1 ≤ x ∧ x ≤ 95) : ∀ x ∈ thr l, apartR (-1, -1) x = true := fun x hx => by
 have := thr_eyes h hx
 simp only [apartR, decide_eq_true_eq]; omega
theorem first_cross {l : List Int} (h : ∀ x ∈ l, -1 ≤ x ∧ x ≤ 95) : ∀ x ∈ thr l, crossR (-1, 96) x = true := fun x hx => by
 have := thr_eyes h hx
 simp only [crossR, decide_eq_true_eq]; omega
theorem apart_trans (x y z : Int × Int) (h1 : apartR x y = true) (h2 : apartR y z = true) : apartR x z = true := by
 simp only [apartR, decide_eq_true_eq] at *; omega
theorem cross_trans (x y z : Int × Int) (h1 : crossR x y = true) (h2 : crossR y z = true) : crossR x z = true := by
 simp only [crossR, decide_eq_true_eq] at *; omega
theorem pairs_map {α β : Type} (p : β → β → Bool) (f : α → β) (l : List α) : pairs p (l.map f) = pairs (fun a b => p (f a) (f b)) l := by
 induction l with
 | nil => rfl
 | cons a r ih => simp only [List.map_cons, pairs, ih, List.filter_map, List.length_map]; rfl
theorem pairs_filter {α : Type} (p : α → α → Bool) (q : α → Bool) (l : List α) (h : ∀ a b, a ∈ l → b ∈ l → p a b = true → q a = true ∧ q b = true) : pairs p l = pairs p (l.filter q) := by
 induction l with
 | nil => rfl
 | cons a r ih =>
  have ih := ih fun x y hx hy => h x y (List.mem_cons_of_mem _ hx) (List.mem_cons_of_mem _ hy)
  have e : (r.filter (p a)).length = if q a then ((r.filter q).filter (p a)).length else 0 := by
   split
   ·rename_i hq
    congr 1
    rw [List.filter_filter]
    refine List.filter_congr fun y hy => ?_
    cases hp : p a y with
    | false => simp
    | true => simp [(h a y List.mem_cons_self (List.mem_cons_of_mem _ hy) hp).2]
   ·rename_i hq
    rw [List.length_eq_zero_iff, List.filter_eq_nil_iff]
    intro y hy hp
    exact hq (h a y List.mem_cons_self (List.mem_cons_of_mem _ hy) hp).1
  simp only [pairs, List.filter_cons, e, ih]
  split <;> simp [pairs]
theorem pairs_congr {α : Type} {p p' : α → α → Bool} {l : List α} {S : α → α → Prop} (hs : l.Pairwise S) (h : ∀ a b, a ∈ l → b ∈ l → S a b → p a b = p' a b) : pairs p l = pairs p' l := by
 induction l with
 | nil => rfl
 | cons a r ih =>
  rw [List.pairwise_cons] at hs
  simp only [pairs, ih hs.2 fun x y hx hy => h x y (List.mem_cons_of_mem _ hx) (List.mem_cons_of_mem _ hy)]
  rw [List.filter_congr fun y hy => h a y List.mem_cons_self (List.mem_cons_of_mem _ hy) (hs.1 y hy)]
theorem cross_comm (l : List Int) (a b : Int) : crossB l a b = crossB l b a := by
 have e1 : gmin a b = gmin b a := by unfold gmin; split <;> split <;> omega
 have e2 : gmax a b = gmax b a := by unfold gmax; split <;> split <;> omega
 simp only [crossB, e1, e2, Bool.and_comm (decide (l.getD a.toNat 0 ≥ 0))]
theorem crossings_eq {l : List Int} (h : ∀ x ∈ l, -1 ≤ x ∧ x ≤ 95) : crossingsI l = (pairs crossR (thr l) : Nat) := by
 have e : thr l = ((List.range l.length).filter fun w => l.getD w 0 != -1).map fun (w : Nat) => ((w : Int), l.getD w 0) := by
  simp only [thr, List.filter_map]; rfl
 have hp : pairs (fun (a b : Nat) => crossB l a b) (List.range l.length) = pairs (fun (a b : Nat) => crossB l a b) ((List.range l.length).filter fun w => l.getD w 0 != -1) := by
  refine pairs_filter _ _ _ fun a b _ _ hc => ?_
  simp only [crossB, Int.toNat_natCast, Bool.and_eq_true, decide_eq_true_eq] at hc
  simp only [bne_iff_ne, ne_eq]; omega
 unfold crossingsI
 rw [hp, e, pairs_map]
 congr 1
 refine pairs_congr (S := fun a b => a < b) (List.Pairwise.filter _ List.pairwise_lt_range) fun a b ha hb hab => ?_
 have ha' : ((a : Int), l.getD a 0) ∈ thr l := by rw [e]; exact List.mem_map.2 ⟨a, ha, rfl⟩
 have hb' : ((b : Int), l.getD b 0) ∈ thr l := by rw [e]; exact List.mem_map.2 ⟨b, hb, rfl⟩
 rw [cross_comm]
 exact cross_eq h ha' hb' (by simpa using hab)
end Go.Proofs.Tryd
set_option linter.unusedVariables false
namespace Go.Proofs.Tryd
open Go Go.V Go.Proofs
def al_law11_ints : AL (List Int) := (.one (.k (.list (.i .i64))))
def pre_law11_ints (d : List Int) : Prop := d.length ≤ 110
def res_law11_ints (d : List Int) : SV := .lst 0
def obs_law11_ints (d : List Int) : List OB := [.lst 3 (.i .i64) d false]
def s_law11_ints : CSp := mkSp al_law11_ints pre_law11_ints res_law11_ints obs_law11_ints
def vc_law11_ints (l : List Int) : Prop :=
 (((List.length ([] : List Int)) + (List.length l)) * 8 ≤ 70368744177664) ∧ (True ∧ (((([] : List Int) ++ l) = l ∧ ((List.isEmpty l) && false) = false) ∧ True))
def cx_law11_ints : Cx := ⟨[(3, (.i .i64))], [], 6, [], 0, [], [], [], [], false⟩
def lp_law11_ints (l : List Int) : List (Nat × LoopAnn) := []
set_option maxRecDepth 100000 in
theorem vq_law11_ints (d : List Int) : gwp (cx_law11_ints) (lp_law11_ints d) c14 0 (gend [.tmp 2] (res_law11_ints d) (obs_law11_ints d)) (gstart 6 (AL.can al_law11_ints d)) = vc_law11_ints d := by kernel_rfl
abbrev Ok_law11_ints : Prop := OkC Tryd.prog 14 s_law11_ints
theorem mk_law11_ints (h : ∀ (l : List Int), (l.length ≤ 110) → vc_law11_ints l) : OkC Tryd.prog 14 s_law11_ints :=
 okC_vc fun14 mixed (C := cx_law11_ints) (V := fun (d : List Int) => vc_law11_ints d) ⟨.nil, XsOk.nil, ItsOk.nil⟩ (vq_law11_ints) fun d hp => h d hp
theorem ok_law11_ints : Ok_law11_ints := mk_law11_ints fun l h => by
 (unfold vc_law11_ints; (try delta lI gD sT I64); simp); omega
def al_law11_own : AL (Int × List Int) := (.one (.agg (.cons (.k (.i .i64)) (.one (.k (.list (.i .i64)))))))
def pre_law11_own (d : Int × List Int) : Prop := d.2.length ≤ 110
def res_law11_own (d : Int × List Int) : SV := .agg [.val (.i .i64) d.1, .lst 0]
def obs_law11_own (d : Int × List Int) : List OB := [.lst 3 (.i .i64) d.2 false]
def s_law11_own : CSp := mkSp al_law11_own pre_law11_own res_law11_own obs_law11_own
def vc_law11_own (hk : Int) (lw : List Int) : Prop :=
 (lw.length ≤ 110) ∧ (false = true → lw = []) ∧ ((hk = hk ∧ True ∧ (([] : List SV) = [])) ∧ ((lw = lw ∧ false = false) ∧ True))
def cx_law11_own : Cx := ⟨[], [(14, s_law11_ints)], 9, [], 0, [], [], [], [], false⟩
def lp_law11_own (hk : Int) (lw : List Int) : List (Nat × LoopAnn) := []
set_option maxRecDepth 100000 in
theorem vq_law11_own (d : Int × List Int) : gwp (cx_law11_own) (lp_law11_own d.1 d.2) c13 0 (gend [.cell 2 true 2] (res_law11_own d) (obs_law11_own d)) (gstart 9 (AL.can al_law11_own d)) = vc_law11_own d.1 d.2 := by kernel_rfl
abbrev Ok_law11_own : Prop := OkC Tryd.prog 13 s_law11_own
theorem mk_law11_own (h : ∀ (hk : Int) (lw : List Int), (lw.length ≤ 110) → vc_law11_own hk lw) : OkC Tryd.prog 13 s_law11_own :=
 okC_vc fun13 mixed (C := cx_law11_own) (V := fun (d : Int × List Int) => vc_law11_own d.1 d.2) ⟨(.cons ok_law11_ints .nil), XsOk.nil, ItsOk.nil⟩ (vq_law11_own) fun d hp => h d.1 d.2 hp
theorem ok_law11_own : Ok_law11_own := mk_law11_own fun hk lw h => by
 simp [vc_law11_own, h]
def al_eye_board_isRight : AL ((Int × List Int × List Int) × Int) := (.cons (.agg (.cons (.k (.i .i64)) (.cons (.k (.list (.i .i64))) (.one (.k (.list (.i .i64))))))) (.one (.k (.i .i64))))
def pre_eye_board_isRight (d : (Int × List Int × List Int) × Int) : Prop := 0 ≤ d.2 ∧ d.2 < d.1.2.2.length ∧ d.1.2.2.length ≤ d.1.2.1.length ∧ ∀ x ∈ d.1.2.2, -1 ≤ x ∧ x < d.1.2.1.length
def res_eye_board_isRight (d : (Int × List Int × List Int) × Int) : SV := .val .bo (isRight d.1.2.1 d.1.2.2 d.2)
def obs_eye_board_isRight (d : (Int × List Int × List Int) × Int) : List OB := []
def s_eye_board_isRight : CSp := mkSp al_eye_board_isRight pre_eye_board_isRight res_eye_board_isRight obs_eye_board_isRight
def vc_eye_board_isRight (hk : Int) (lw : List Int) (l : List Int) (w : Int) : Prop :=
 (0 ≤ w) ∧ (w < (List.length l)) ∧ (((gD l w 0) != (-1 : Int)) = true → 0 ≤ (gD l w 0)) ∧ (((gD l w 0) != (-1 : Int)) = true → (gD l w 0) < (List.length lw)) ∧ (((gD l w 0) != (-1 : Int)) = true → 0 ≤ w) ∧ (((gD l w 0) != (-1 : Int)) = true → w < (List.length lw)) ∧ ((((gD l w 0) != (-1 : Int)) && ((gD lw (gD l w 0) 0) == (gD lw w 0))) = (isRight lw l w) ∧ (True))
def cx_eye_board_isRight : Cx := ⟨[], [], 28, [], 0, [], [], [], [], false⟩
def lp_eye_board_isRight (hk : Int) (lw : List Int) (l : List Int) (w : Int) : List (Nat × LoopAnn) := []
set_option maxRecDepth 100000 in
theorem vq_eye_board_isRight (d : (Int × List Int × List Int) × Int) : gwp (cx_eye_board_isRight) (lp_eye_board_isRight d.1.1 d.1.2.1 d.1.2.2 d.2) c48 0 (gend [.tmp 4] (res_eye_board_isRight d) (obs_eye_board_isRight d)) (gstart 28 (AL.can al_eye_board_isRight d)) = vc_eye_board_isRight d.1.1 d.1.2.1 d.1.2.2 d.2 := by kernel_rfl
abbrev Ok_eye_board_isRight : Prop := OkC Tryd.prog 48 s_eye_board_isRight
theorem mk_eye_board_isRight (h : ∀ (hk : Int) (lw : List Int) (l : List Int) (w : Int), (0 ≤ w ∧ w < l.length ∧ l.length ≤ lw.length ∧ ∀ x ∈ l, -1 ≤ x ∧ x < lw.length) → vc_eye_board_isRight hk lw l w) : OkC Tryd.prog 48 s_eye_board_isRight :=
 okC_vc fun48 mixed (C := cx_eye_board_isRight) (V := fun (d : (Int × List Int × List Int) × Int) => vc_eye_board_isRight d.1.1 d.1.2.1 d.1.2.2 d.2) ⟨.nil, XsOk.nil, ItsOk.nil⟩ (vq_eye_board_isRight) fun d hp => h d.1.1 d.1.2.1 d.1.2.2 d.2 hp
theorem ok_eye_board_isRight : Ok_eye_board_isRight := mk_eye_board_isRight fun hk lw l w h => by
 obtain ⟨h1, h2, h3, h4⟩ := h
 obtain ⟨n, rfl⟩ := Int.eq_ofNat_of_zero_le h1
 have hn : n < l.length := by omega
 have := h4 _ (List.getElem_mem hn)
 unfold vc_eye_board_isRight; (try delta lI gD sT I64); simp only [and_true, bne_iff_ne, ne_eq, Int.toNat_natCast, Int.ofNat_lt, getD_nat hn]
 refine ⟨by omega, by omega, fun h => by omega, fun h => by omega, fun _ => by omega, fun _ => by omega, ?_⟩
 simp only [isRight, Int.toNat_natCast, getD_nat hn]
def al_slices_IndexFunc_int_int : AL (List Int × ((Int → Prop) × (Int → Bool))) := (.cons (.k (.list (.i .i64))) (.one (.fn [(.i .i64)] .bo)))
def pre_slices_IndexFunc_int_int (d : List Int × ((Int → Prop) × (Int → Bool))) : Prop := d.1.length ≤ 1000000 ∧ ∀ x ∈ d.1, d.2.1 x
def res_slices_IndexFunc_int_int (d : List Int × ((Int → Prop) × (Int → Bool))) : SV := .val (.i .i64) (idxF d.1 d.2.2)
def obs_slices_IndexFunc_int_int (d : List Int × ((Int → Prop) × (Int → Bool))) : List OB := []
def s_slices_IndexFunc_int_int : CSp := mkSp al_slices_IndexFunc_int_int pre_slices_IndexFunc_int_int res_slices_IndexFunc_int_int obs_slices_IndexFunc_int_int
def vc_slices_IndexFunc_int_int (l : List Int) (p : (Int → Prop) × (Int → Bool)) : Prop :=
 ∃ (e2 : Unit) (d20 : Int), ((l = l ∧ (SV.pf [(.i .i64)] .bo p.1 p.2 = SV.pf [(.i .i64)] .bo p.1 p.2) ∧ (lI l) = (lI l) ∧ (0 : Int) = d20 ∧ True) ∧ (True)) ∧
 LoopP (fun (d2 : Int) (q2 : (Int) → Prop) =>
  ((decide (d2 < (lI l))) = true →
   (0 ≤ d2) ∧ (d2 < (List.length l)) ∧ (p.1 (gD l d2 0)) ∧ ((p.2 (gD l d2 0)) = true →
    (d2 = (idxF l p.2) ∧ (True))) ∧
   ((p.2 (gD l d2 0)) = false →
    (I64 (d2 + (1 : Int))) ∧ (∃ d3 : Int, ((l = l ∧ (SV.pf [(.i .i64)] .bo p.1 p.2 = SV.pf [(.i .i64)] .bo p.1 p.2) ∧ (lI l) = (lI l) ∧ (d2 + (1 : Int)) = d3 ∧ True) ∧ (True)) ∧ q2 d3))) ∧
  ((decide (d2 < (lI l))) = false →
   ((-1 : Int) = (idxF l p.2) ∧ (True)))) d20
def cx_slices_IndexFunc_int_int : Cx := ⟨[], [], 19, [], 0, [], [], [], [], false⟩
def lp_slices_IndexFunc_int_int (l : List Int) (p : (Int → Prop) × (Int → Bool)) : List (Nat × LoopAnn) := [(0, ⟨Unit, Int, [0, 1, 7, 8], fun e x => [.val (.list (.i .i64)) l, .pf [(.i .i64)] .bo p.1 p.2, .val (.i .i64) (((List.length l) : Nat) : Int), .val (.i .i64) x], fun e x => []⟩)]
set_option maxRecDepth 100000 in
theorem vq_slices_IndexFunc_int_int (d : List Int × ((Int → Prop) × (Int → Bool))) : gwp (cx_slices_IndexFunc_int_int) (lp_slices_IndexFunc_int_int d.1 d.2) c97 0 (gend [.tmp 4] (res_slices_IndexFunc_int_int d) (obs_slices_IndexFunc_int_int d)) (gstart 19 (AL.can al_slices_IndexFunc_int_int d)) = vc_slices_IndexFunc_int_int d.1 d.2 := by kernel_rfl
abbrev Ok_slices_IndexFunc_int_int : Prop := OkC Tryd.prog 97 s_slices_IndexFunc_int_int
theorem mk_slices_IndexFunc_int_int (h : ∀ (l : List Int) (p : (Int → Prop) × (Int → Bool)), (l.length ≤ 1000000 ∧ ∀ x ∈ l, p.1 x) → vc_slices_IndexFunc_int_int l p) : OkC Tryd.prog 97 s_slices_IndexFunc_int_int :=
 okC_vc fun97 mixed (C := cx_slices_IndexFunc_int_int) (V := fun (d : List Int × ((Int → Prop) × (Int → Bool))) => vc_slices_IndexFunc_int_int d.1 d.2) ⟨.nil, XsOk.nil, ItsOk.nil⟩ (vq_slices_IndexFunc_int_int) fun d hp => h d.1 d.2 hp
theorem idxF_some {l : List Int} {p : Int → Bool} {k : Nat} (hk : k < l.length) (h : p l[k] = true) (hJ : (l.take k).any p = false) : idxF l p = k := by
 have : l.findIdx? p = some k := by
  rw [List.findIdx?_eq_some_iff_getElem]
  refine ⟨hk, h, fun j hj => ?_⟩
  have hn := List.any_eq_false.1 hJ l[j] (List.mem_take_iff_getElem.2 ⟨j, by omega, rfl⟩)
  simpa using hn
 simp [idxF, this]
theorem idxF_none {l : List Int} {p : Int → Bool} (hJ : l.any p = false) : idxF l p = -1 := by
 have : l.findIdx? p = none := by
  rw [List.findIdx?_eq_none_iff]
  intro x hx
  have := List.any_eq_false.1 hJ x hx
  simpa using this
 simp [idxF, this]
theorem idxF_nonneg (l : List Int) (p : Int → Bool) : decide (idxF l p ≥ 0) = l.any p := by
 unfold idxF
 cases h : l.findIdx? p with
 | none =>
  have := List.findIdx?_eq_none_iff.1 h
  have : l.any p = false := by rw [List.any_eq_false]; intro x hx; simp [this x hx]
  rw [this]; rfl
 | some i =>
  obtain ⟨h1, h2, _⟩ := List.findIdx?_eq_some_iff_getElem.1 h
  rw [List.any_eq_true.2 ⟨l[i], List.getElem_mem h1, h2⟩]
  simp
theorem ok_slices_IndexFunc_int_int : Ok_slices_IndexFunc_int_int := mk_slices_IndexFunc_int_int fun l p hp => by
 unfold vc_slices_IndexFunc_int_int; (try delta lI gD sT I64); simp only [true_and, and_true, exists_eq_left', exists_const, decide_eq_true_eq, decide_eq_false_iff_not]
 refine LoopP.count l.length (fun k => (l.take k).any p.2 = false) (by simp) fun k hk1 hJ q hq => ?_
 simp only [Int.toNat_natCast, Int.ofNat_lt, InK_i64]
 refine ⟨fun hlt => ?_, fun hge => ?_⟩
 ·rw [getD_nat hlt]
  refine ⟨by omega, hlt, hp.2 _ (List.getElem_mem hlt), fun hx => ?_, fun hx => ⟨by omega, hq hlt ?_⟩⟩
  ·rw [idxF_some hlt hx hJ]
  ·rw [take_succ_eq hlt, List.any_append, hJ]; simp [hx]
 ·rw [List.take_of_length_le (by omega)] at hJ
  rw [idxF_none hJ]
def al_slices_ContainsFunc_int_int : AL (List Int × ((Int → Prop) × (Int → Bool))) := (.cons (.k (.list (.i .i64))) (.one (.fn [(.i .i64)] .bo)))
def pre_slices_ContainsFunc_int_int (d : List Int × ((Int → Prop) × (Int → Bool))) : Prop := d.1.length ≤ 1000000 ∧ ∀ x ∈ d.1, d.2.1 x
def res_slices_ContainsFunc_int_int (d : List Int × ((Int → Prop) × (Int → Bool))) : SV := .val .bo (d.1.any d.2.2)
def obs_slices_ContainsFunc_int_int (d : List Int × ((Int → Prop) × (Int → Bool))) : List OB := []
def s_slices_ContainsFunc_int_int : CSp := mkSp al_slices_ContainsFunc_int_int pre_slices_ContainsFunc_int_int res_slices_ContainsFunc_int_int obs_slices_ContainsFunc_int_int
def vc_slices_ContainsFunc_int_int (l : List Int) (p : (Int → Prop) × (Int → Bool)) : Prop :=
 (l.length ≤ 1000000 ∧ ∀ x ∈ l, (fun (x1 : Int) => p.1 x1) x) ∧ ((decide ((idxF l (fun (x1 : Int) => (p.2 x1))) ≥ (0 : Int))) = (l.any p.2) ∧ (True))
def cx_slices_ContainsFunc_int_int : Cx := ⟨[], [(97, s_slices_IndexFunc_int_int)], 9, [], 0, [], [], [], [], false⟩
def lp_slices_ContainsFunc_int_int (l : List Int) (p : (Int → Prop) × (Int → Bool)) : List (Nat × LoopAnn) := []
set_option maxRecDepth 100000 in
theorem vq_slices_ContainsFunc_int_int (d : List Int × ((Int → Prop) × (Int → Bool))) : gwp (cx_slices_ContainsFunc_int_int) (lp_slices_ContainsFunc_int_int d.1 d.2) c85 0 (gend [.tmp 4] (res_slices_ContainsFunc_int_int d) (obs_slices_ContainsFunc_int_int d)) (gstart 9 (AL.can al_slices_ContainsFunc_int_int d)) = vc_slices_ContainsFunc_int_int d.1 d.2 := by kernel_rfl
abbrev Ok_slices_ContainsFunc_int_int : Prop := OkC Tryd.prog 85 s_slices_ContainsFunc_int_int
theorem mk_slices_ContainsFunc_int_int (h : ∀ (l : List Int) (p : (Int → Prop) × (Int → Bool)), (l.length ≤ 1000000 ∧ ∀ x ∈ l, p.1 x) → vc_slices_ContainsFunc_int_int l p) : OkC Tryd.prog 85 s_slices_ContainsFunc_int_int :=
 okC_vc fun85 mixed (C := cx_slices_ContainsFunc_int_int) (V := fun (d : List Int × ((Int → Prop) × (Int → Bool))) => vc_slices_ContainsFunc_int_int d.1 d.2) ⟨(.cons ok_slices_IndexFunc_int_int .nil), XsOk.nil, ItsOk.nil⟩ (vq_slices_ContainsFunc_int_int) fun d hp => h d.1 d.2 hp
theorem ok_slices_ContainsFunc_int_int : Ok_slices_ContainsFunc_int_int := mk_slices_ContainsFunc_int_int fun l p hp => by
 exact ⟨hp, idxF_nonneg l p.2, trivial⟩
def al_eye_within_1 : AL (Int × Int × Int) := (.cons (.k (.i .i64)) (.cons (.ptr (.one (.k (.i .i64)))) (.one (.ptr (.one (.k (.i .i64)))))))
def pre_eye_within_1 (d : Int × Int × Int) : Prop := True
def res_eye_within_1 (d : Int × Int × Int) : SV := .val .bo (decide (d.1 < d.2.1) || decide (d.2.2 < d.1))
def obs_eye_within_1 (d : Int × Int × Int) : List OB := []
def s_eye_within_1 : CSp := mkSp al_eye_within_1 pre_eye_within_1 res_eye_within_1 obs_eye_within_1
def vc_eye_within_1 (n : Int) (a : Int) (b : Int) : Prop :=
 (((decide (n < a)) || (decide (n > b))) = (decide (n < a) || decide (b < n)) ∧ (True))
def cx_eye_within_1 : Cx := ⟨[], [], 13, [], 0, [], [], [], [], false⟩
def lp_eye_within_1 (n : Int) (a : Int) (b : Int) : List (Nat × LoopAnn) := []
set_option maxRecDepth 100000 in
theorem vq_eye_within_1 (d : Int × Int × Int) : gwp (cx_eye_within_1) (lp_eye_within_1 d.1 d.2.1 d.2.2) c86 0 (gend [.tmp 4] (res_eye_within_1 d) (obs_eye_within_1 d)) (gstart 13 (AL.can al_eye_within_1 d)) = vc_eye_within_1 d.1 d.2.1 d.2.2 := by kernel_rfl
abbrev Ok_eye_within_1 : Prop := OkC Tryd.prog 86 s_eye_within_1
theorem mk_eye_within_1 (h : ∀ (n : Int) (a : Int) (b : Int), (True) → vc_eye_within_1 n a b) : OkC Tryd.prog 86 s_eye_within_1 :=
 okC_vc fun86 mixed (C := cx_eye_within_1) (V := fun (d : Int × Int × Int) => vc_eye_within_1 d.1 d.2.1 d.2.2) ⟨.nil, XsOk.nil, ItsOk.nil⟩ (vq_eye_within_1) fun d hp => h d.1 d.2.1 d.2.2 hp
theorem ok_eye_within_1 : Ok_eye_within_1 := mk_eye_within_1 fun n a b _ => by
 exact ⟨rfl, trivial⟩
def al_tie_within_1 : AL (Int × Int × Int) := (.cons (.k (.i .i64)) (.cons (.ptr (.one (.k (.i .i64)))) (.one (.ptr (.one (.k (.i .i64)))))))
def pre_tie_within_1 (d : Int × Int × Int) : Prop := True
def res_tie_within_1 (d : Int × Int × Int) : SV := .val .bo (decide (d.1 < d.2.1) || decide (d.2.2 < d.1))
def obs_tie_within_1 (d : Int × Int × Int) : List OB := []
def s_tie_within_1 : CSp := mkSp al_tie_within_1 pre_tie_within_1 res_tie_within_1 obs_tie_within_1
def vc_tie_within_1 (n : Int) (a : Int) (b : Int) : Prop :=
 (((decide (n < a)) || (decide (n > b))) = (decide (n < a) || decide (b < n)) ∧ (True))
def cx_tie_within_1 : Cx := ⟨[], [], 13, [], 0, [], [], [], [], false⟩
def lp_tie_within_1 (n : Int) (a : Int) (b : Int) : List (Nat × LoopAnn) := []
set_option maxRecDepth 100000 in
theorem vq_tie_within_1 (d : Int × Int × Int) : gwp (cx_tie_within_1) (lp_tie_within_1 d.1 d.2.1 d.2.2) c94 0 (gend [.tmp 4] (res_tie_within_1 d) (obs_tie_within_1 d)) (gstart 13 (AL.can al_tie_within_1 d)) = vc_tie_within_1 d.1 d.2.1 d.2.2 := by kernel_rfl
abbrev Ok_tie_within_1 : Prop := OkC Tryd.prog 94 s_tie_within_1
theorem mk_tie_within_1 (h : ∀ (n : Int) (a : Int) (b : Int), (True) → vc_tie_within_1 n a b) : OkC Tryd.prog 94 s_tie_within_1 :=
 okC_vc fun94 mixed (C := cx_tie_within_1) (V := fun (d : Int × Int × Int) => vc_tie_within_1 d.1 d.2.1 d.2.2) ⟨.nil, XsOk.nil, ItsOk.nil⟩ (vq_tie_within_1) fun d hp => h d.1 d.2.1 d.2.2 hp
theorem ok_tie_within_1 : Ok_tie_within_1 := mk_tie_within_1 fun n a b _ => by
 exact ⟨rfl, trivial⟩
def al_tie_within : AL (Int × Int × List Int) := (.cons (.k (.i .i64)) (.cons (.k (.i .i64)) (.one (.k (.list (.i .i64))))))
def pre_tie_within (d : Int × Int × List Int) : Prop := d.2.2.length ≤ 1000000
def res_tie_within (d : Int × Int × List Int) : SV := .val .bo (!(d.2.2.any fun n => decide (n < d.1) || decide (d.2.1 < n)))
def obs_tie_within (d : Int × Int × List Int) : List OB := []
def s_tie_within : CSp := mkSp al_tie_within pre_tie_within res_tie_within obs_tie_within
def vc_tie_within (a : Int) (b : Int) (l : List Int) : Prop :=
 (l.length ≤ 1000000 ∧ ∀ x ∈ l, (fun (x1 : Int) => True) x) ∧ ((!(l.any (fun (x1 : Int) => (decide (x1 < a) || decide (b < x1))))) = (!(l.any fun n => decide (n < a) || decide (b < n))) ∧ (True))
def cx_tie_within : Cx := ⟨[], [(85, s_slices_ContainsFunc_int_int), (94, s_tie_within_1)], 11, [], 0, [], [], [], [], false⟩
def lp_tie_within (a : Int) (b : Int) (l : List Int) : List (Nat × LoopAnn) := []
set_option maxRecDepth 100000 in
theorem vq_tie_within (d : Int × Int × List Int) : gwp (cx_tie_within) (lp_tie_within d.1 d.2.1 d.2.2) c79 0 (gend [.tmp 6] (res_tie_within d) (obs_tie_within d)) (gstart 11 (AL.can al_tie_within d)) = vc_tie_within d.1 d.2.1 d.2.2 := by kernel_rfl
abbrev Ok_tie_within : Prop := OkC Tryd.prog 79 s_tie_within
theorem mk_tie_within (h : ∀ (a : Int) (b : Int) (l : List Int), (l.length ≤ 1000000) → vc_tie_within a b l) : OkC Tryd.prog 79 s_tie_within :=
 okC_vc fun79 mixed (C := cx_tie_within) (V := fun (d : Int × Int × List Int) => vc_tie_within d.1 d.2.1 d.2.2) ⟨(.cons ok_slices_ContainsFunc_int_int (.cons ok_tie_within_1 .nil)), XsOk.nil, ItsOk.nil⟩ (vq_tie_within) fun d hp => h d.1 d.2.1 d.2.2 hp
theorem ok_tie_within : Ok_tie_within := mk_tie_within fun a b l h => by
 exact ⟨⟨h, fun _ _ => trivial⟩, rfl, trivial⟩
def al_eye_within : AL (Int × Int × List Int) := (.cons (.k (.i .i64)) (.cons (.k (.i .i64)) (.one (.k (.list (.i .i64))))))
def pre_eye_within (d : Int × Int × List Int) : Prop := d.2.2.length ≤ 1000000
def res_eye_within (d : Int × Int × List Int) : SV := .val .bo (!(d.2.2.any fun n => decide (n < d.1) || decide (d.2.1 < n)))
def obs_eye_within (d : Int × Int × List Int) : List OB := []
def s_eye_within : CSp := mkSp al_eye_within pre_eye_within res_eye_within obs_eye_within
def vc_eye_within (a : Int) (b : Int) (l : List Int) : Prop :=
 (l.length ≤ 1000000 ∧ ∀ x ∈ l, (fun (x1 : Int) => True) x) ∧ ((!(l.any (fun (x1 : Int) => (decide (x1 < a) || decide (b < x1))))) = (!(l.any fun n => decide (n < a) || decide (b < n))) ∧ (True))
def cx_eye_within : Cx := ⟨[], [(85, s_slices_ContainsFunc_int_int), (86, s_eye_within_1)], 11, [], 0, [], [], [], [], false⟩
def lp_eye_within (a : Int) (b : Int) (l : List Int) : List (Nat × LoopAnn) := []
set_option maxRecDepth 100000 in
theorem vq_eye_within (d : Int × Int × List Int) : gwp (cx_eye_within) (lp_eye_within d.1 d.2.1 d.2.2) c66 0 (gend [.tmp 6] (res_eye_within d) (obs_eye_within d)) (gstart 11 (AL.can al_eye_within d)) = vc_eye_within d.1 d.2.1 d.2.2 := by kernel_rfl
abbrev Ok_eye_within : Prop := OkC Tryd.prog 66 s_eye_within
theorem mk_eye_within (h : ∀ (a : Int) (b : Int) (l : List Int), (l.length ≤ 1000000) → vc_eye_within a b l) : OkC Tryd.prog 66 s_eye_within :=
 okC_vc fun66 mixed (C := cx_eye_within) (V := fun (d : Int × Int × List Int) => vc_eye_within d.1 d.2.1 d.2.2) ⟨(.cons ok_slices_ContainsFunc_int_int (.cons ok_eye_within_1 .nil)), XsOk.nil, ItsOk.nil⟩ (vq_eye_within) fun d hp => h d.1 d.2.1 d.2.2 hp
theorem ok_eye_within : Ok_eye_within := mk_eye_within fun a b l h => by
 exact ⟨⟨h, fun _ _ => trivial⟩, rfl, trivial⟩
def al_tie_Check : AL (Int × List Int) := (.one (.agg (.cons (.k (.i .i64)) (.one (.k (.list (.i .i64)))))))
def pre_tie_Check (d : Int × List Int) : Prop := d.2.length ≤ 1000000
def res_tie_Check (d : Int × List Int) : SV := .val (.i .i64) (tieErr d.1 d.2)
def obs_tie_Check (d : Int × List Int) : List OB := []
def s_tie_Check : CSp := mkSp al_tie_Check pre_tie_Check res_tie_Check obs_tie_Check
def vc_tie_Check (hk : Int) (lw : List Int) : Prop :=
 ([hk].length ≤ 1000000) ∧ ((!(!([hk].any fun n => decide (n < (1 : Int)) || decide ((24 : Int) < n)))) = true →
  ((2 : Int) = (tieErr hk lw) ∧ (True))) ∧
 ((!(!([hk].any fun n => decide (n < (1 : Int)) || decide ((24 : Int) < n)))) = false →
  ((decide ((lI lw) > (96 : Int))) = true →
   ((5 : Int) = (tieErr hk lw) ∧ (True))) ∧
  ((decide ((lI lw) > (96 : Int))) = false →
   (((lI lw) == (0 : Int)) = true →
    ((7 : Int) = (tieErr hk lw) ∧ (True))) ∧
   (((lI lw) == (0 : Int)) = false →
    (I64 (hk - (1 : Int))) ∧ (lw.length ≤ 1000000) ∧ ((!(!(lw.any fun n => decide (n < (0 : Int)) || decide ((hk - (1 : Int)) < n)))) = true →
     ((2 : Int) = (tieErr hk lw) ∧ (True))) ∧
    ((!(!(lw.any fun n => decide (n < (0 : Int)) || decide ((hk - (1 : Int)) < n)))) = false →
     ((0 : Int) = (tieErr hk lw) ∧ (True))))))
def cx_tie_Check : Cx := ⟨[(3, (.i .i64))], [(79, s_tie_within)], 27, [], 0, [], [], [], [], false⟩
def lp_tie_Check (hk : Int) (lw : List Int) : List (Nat × LoopAnn) := []
set_option maxRecDepth 100000 in
theorem vq_tie_Check (d : Int × List Int) : gwp (cx_tie_Check) (lp_tie_Check d.1 d.2) c62 0 (gend [.tmp 2] (res_tie_Check d) (obs_tie_Check d)) (gstart 27 (AL.can al_tie_Check d)) = vc_tie_Check d.1 d.2 := by kernel_rfl
abbrev Ok_tie_Check : Prop := OkC Tryd.prog 62 s_tie_Check
theorem mk_tie_Check (h : ∀ (hk : Int) (lw : List Int), (lw.length ≤ 1000000) → vc_tie_Check hk lw) : OkC Tryd.prog 62 s_tie_Check :=
 okC_vc fun62 mixed (C := cx_tie_Check) (V := fun (d : Int × List Int) => vc_tie_Check d.1 d.2) ⟨(.cons ok_tie_within .nil), XsOk.nil, ItsOk.nil⟩ (vq_tie_Check) fun d hp => h d.1 d.2 hp
theorem nI (n a b : Int) : (!inI n a b) = (decide (n < a) || decide (b < n)) := by
 simp only [inI, Bool.not_and]
 by_cases h1 : a ≤ n <;> by_cases h2 : n ≤ b <;> simp [h1, h2] <;> omega
theorem ok_tie_Check : Ok_tie_Check := mk_tie_Check fun hk lw hl => by
 unfold vc_tie_Check; (try delta lI gD sT I64); simp only [and_true, decide_eq_true_eq, decide_eq_false_iff_not, beq_iff_eq, ne_eq, beq_eq_false_iff_ne, gt_iff_lt, Bool.not_not]
 simp only [← nI]
 refine ⟨by simp, fun h1 => by simp at h1; simp [tieErr, h1], fun h1 => ⟨fun h2 => ?_, fun h2 => ⟨fun h3 => ?_, fun h3 => ?_⟩⟩⟩
 all_goals simp only [List.any_cons, List.any_nil, Bool.or_false, Bool.not_eq_false'] at h1
 ·have : 96 < lw.length := by omega
  simp [tieErr, h1, this]
 ·have h3 : lw.length = 0 := by omega
  simp [tieErr, h1, h3]
 have h2' : ¬ 96 < lw.length := by omega
 have h3' : ¬ lw.length = 0 := by omega
 have hi : 1 ≤ hk ∧ hk ≤ 24 := by simpa [inI] using h1
 have hte : tieErr hk lw = if lw.any (fun x => !inI x 0 (hk - 1)) then 2 else 0 := by simp only [tieErr, h1, h2', h3']; simp
 rw [hte]
 simp only [InK_i64]
 refine ⟨by omega, by omega, fun h => by rw [if_pos h], fun h => by rw [h]; rfl⟩
def al_eye_Check : AL ((Int × List Int) × List Int) := (.cons (.agg (.cons (.k (.i .i64)) (.one (.k (.list (.i .i64)))))) (.one (.k (.list (.i .i64)))))
def pre_eye_Check (d : (Int × List Int) × List Int) : Prop := d.1.2.length ≤ 110 ∧ d.2.length ≤ 110
def res_eye_Check (d : (Int × List Int) × List Int) : SV := .val (.i .i64) (eyeErr d.1.1 d.1.2 d.2)
def obs_eye_Check (d : (Int × List Int) × List Int) : List OB := []
def s_eye_Check : CSp := mkSp al_eye_Check pre_eye_Check res_eye_Check obs_eye_Check
def vc_eye_Check (hk : Int) (lw : List Int) (l : List Int) : Prop :=
 (lw.length ≤ 1000000) ∧ (((tieErr hk lw) != (0 : Int)) = true →
  ((tieErr hk lw) = (eyeErr hk lw l) ∧ (True))) ∧
 (((tieErr hk lw) != (0 : Int)) = false →
  (((lI l) != (lI lw)) = true →
   ((4 : Int) = (eyeErr hk lw l) ∧ (True))) ∧
  (((lI l) != (lI lw)) = false →
   (I64 ((lI lw) - (1 : Int))) ∧ (l.length ≤ 1000000) ∧ ((!(!(l.any fun n => decide (n < (-1 : Int)) || decide (((lI lw) - (1 : Int)) < n)))) = true →
    ((2 : Int) = (eyeErr hk lw l) ∧ (True))) ∧
   ((!(!(l.any fun n => decide (n < (-1 : Int)) || decide (((lI lw) - (1 : Int)) < n)))) = false →
    ((0 : Int) = (eyeErr hk lw l) ∧ (True)))))
def cx_eye_Check : Cx := ⟨[], [(62, s_tie_Check), (66, s_eye_within)], 26, [], 0, [], [], [], [], false⟩
def lp_eye_Check (hk : Int) (lw : List Int) (l : List Int) : List (Nat × LoopAnn) := []
set_option maxRecDepth 100000 in
theorem vq_eye_Check (d : (Int × List Int) × List Int) : gwp (cx_eye_Check) (lp_eye_Check d.1.1 d.1.2 d.2) c45 0 (gend [.tmp 4] (res_eye_Check d) (obs_eye_Check d)) (gstart 26 (AL.can al_eye_Check d)) = vc_eye_Check d.1.1 d.1.2 d.2 := by kernel_rfl
abbrev Ok_eye_Check : Prop := OkC Tryd.prog 45 s_eye_Check
theorem mk_eye_Check (h : ∀ (hk : Int) (lw : List Int) (l : List Int), (lw.length ≤ 110 ∧ l.length ≤ 110) → vc_eye_Check hk lw l) : OkC Tryd.prog 45 s_eye_Check :=
 okC_vc fun45 mixed (C := cx_eye_Check) (V := fun (d : (Int × List Int) × List Int) => vc_eye_Check d.1.1 d.1.2 d.2) ⟨(.cons ok_tie_Check (.cons ok_eye_within .nil)), XsOk.nil, ItsOk.nil⟩ (vq_eye_Check) fun d hp => h d.1.1 d.1.2 d.2 hp
theorem ok_eye_Check : Ok_eye_Check := mk_eye_Check fun hk lw l hl => by
 unfold vc_eye_Check; (try delta lI gD sT I64); simp only [and_true, bne_iff_ne, ne_eq, bne_eq_false_iff_eq, Bool.not_not]
 simp only [← nI]
 refine ⟨by omega, fun h1 => by simp [eyeErr, h1], fun h1 => ⟨fun h2 => ?_, fun h2 => ?_⟩⟩
 ·have : ¬ l.length = lw.length := by omega
  simp [eyeErr, h1, this]
 have h2 : l.length = lw.length := by omega
 have hte : eyeErr hk lw l = if l.any (fun x => !inI x (-1) (lw.length - 1)) then 2 else 0 := by simp [eyeErr, h1, h2]
 rw [hte]
 simp only [InK_i64]
 refine ⟨by omega, by omega, fun h => by rw [if_pos h], fun h => by rw [h]; rfl⟩
end Go.Proofs.Tryd
set_option linter.unusedVariables false
namespace Go.Proofs.Tryd
open Go Go.V Go.Proofs
theorem layF_snoc (t : List (Int × Int)) (a : Int × Int) : layF (t ++ [a]) = layStep (layF t) a := by simp [layF]
theorem layStep_none {s : List (List Int) × List (Int × Int)} {a : Int × Int} (h : s.2.findIdx? (fun x => !(decide (x.2 ≥ a.2))) = none) : layStep s a = (s.1 ++ [[a.1]], s.2 ++ [a]) := by simp only [layStep, h]
theorem layStep_some {s : List (List Int) × List (Int × Int)} {a : Int × Int} {i : Nat} (h : s.2.findIdx? (fun x => !(decide (x.2 ≥ a.2))) = some i) : layStep s a = (s.1.set i (s.1.getD i [] ++ [a.1]), s.2.set i a) := by simp only [layStep, h]
theorem idxG_cases {α : Type} (l : List α) (p : α → Bool) : (l.findIdx? p = none ∧ idxG l p = -1) ∨ ∃ i : Nat, i < l.length ∧ l.findIdx? p = some i ∧ idxG l p = i := by
 cases h : l.findIdx? p with
 | none => left; exact ⟨rfl, by simp [idxG, h]⟩
 | some i => right; exact ⟨i, (List.findIdx?_eq_some_iff_getElem.1 h).1, rfl, by simp [idxG, h]⟩
end Go.Proofs.Tryd
set_option linter.unusedVariables false
namespace Go.Proofs.Tryd
open Go Go.V Go.Proofs
theorem putG_len {g : List (List Int)} {i : Nat} {w : Int} : (putG g i w).length = if i = g.length then g.length + 1 else g.length := by
 unfold putG; split <;> simp
theorem layR_fold (l : List Int) (n : Nat) (w : Int) (r : List Int) (g : List (List Int)) : layR l n (w :: r) g = (List.range (g.length + 1)).foldl (fun b i => if eachB l ((putG g i w).getD i []) false then gmin b (layR l n r (putG g i w)) else b) (n + 1) := by
 rw [layR]
end Go.Proofs.Tryd
namespace Go.V
open Go
theorem ret_true {P : Program} {σ : Heap} : Ret P σ (.val .bo true) [] (.bool true) σ :=
 ⟨⟨.refl _, Dead.refl _⟩, fun _ => rfl, noPl, fun j b hj => by simp at hj, fun j j' i hj => by simp at hj, by simp [SR, KC]⟩
theorem okC_true {P : Program} {f : Nat} (h : ∀ (σ : Heap) (K : Value → Heap → Prop), K (.bool true) σ → VCalled P f [] σ K) : OkC P f (mkSp (.nil : AL Unit) (fun _ => True) (fun _ => .val .bo true) (fun _ => [])) := by
 intro ap hap σ args vs c v bs hargs hs hv hbs hc
 unfold mkSp at hs
 split at hs
 ·rename_i d hd
  obtain ⟨rfl, rfl, rfl⟩ := (by simpa using hs : True = c ∧ SV.val .bo true = v ∧ [] = bs)
  have : vs = [] := by
   cases args with
   | nil => simpa [SRs] using hargs
   | cons a l => simp [AL.dec] at hd
  subst this
  refine ⟨h σ _ ret_true, fun _ _ => h σ _ ⟨rfl, ?_⟩⟩
  unfold canH
  cases σ
  simp only [List.length_nil, Nat.add_zero, List.getElem?_nil, Option.bind_none, Heap.mk.injEq, and_true]
  funext i
  split
  ·rfl
  ·rename_i wf hi; exact wf i (by simpa using hi)
 ·cases hs
end Go.V
namespace Go.V
open Go Go.ChangeShapes Go.WideShapes Go.RowKit Go.Deep Go.Joins
def Heap.RO (σ : Heap) : Prop := ∀ i b, σ.get i = some b → b.wr = false
structure View (w : World) (ρ : Plc) (σ : Heap) : Prop where
 rel : HRel ρ σ w
 ro : σ.RO
structure More (ρ : Plc) (σ : Heap) (ρ' : Plc) (σ' : Heap) : Prop where
 n : σ.n ≤ σ'.n
 pl : ∀ i, i < σ.n → ∀ p, ρ' i = some p → ρ i = some p
 ag : Agree σ σ'
theorem More.refl (ρ : Plc) (σ : Heap) : More ρ σ ρ σ := ⟨Nat.le_refl _, fun _ _ _ h => h, Agree.refl _⟩
theorem More.trans {ρ ρ' ρ'' : Plc} {σ σ' σ'' : Heap} (h : More ρ σ ρ' σ') (k : More ρ' σ' ρ'' σ'') : More ρ σ ρ'' σ'' :=
 ⟨Nat.le_trans h.n k.n, fun i hi p hp => h.pl i hi p (k.pl i (Nat.lt_of_lt_of_le hi h.n) p hp), h.ag.trans k.ag h.n⟩
theorem View.empty (w : World) : View w (fun _ => none) Heap.empty where
 rel := ⟨fun i b h => (by cases h), fun _ _ => rfl, fun i p h => (by cases h), fun i j p q b _ h => (by cases h)⟩
 ro := fun i b h => by cases h
theorem View.add {w : World} {ρ : Plc} {σ : Heap} (h : View w ρ σ) (p : Pl) (c : List Value) {C : Array Value} {e : TypeId} {f : Nat × Nat} (hb : w.heap[p.blk]? = some (.cells C e f)) (hs : p.shift + p.ext ≤ C.size) (hl : c.length ≤ p.ext) (ht : e = p.esz.ty)
  (hc : ∀ (k : Nat) (v : Value), c[k]? = some v → ∃ u, w.cell? ⟨p.blk, p.shift + k, none⟩ = some u ∧ VRel ρ σ.n v u) :
  View w (ρ.put σ.n (some p)) (σ.push (.cells c p.esz false p.tight)) ∧ More ρ σ (ρ.put σ.n (some p)) (σ.push (.cells c p.esz false p.tight)) := by
 have hpl : ∀ i, i < σ.n → ∀ q, (ρ.put σ.n (some p)) i = some q → ρ i = some q := fun i hi q hq => by
  unfold Plc.put at hq; rwa [if_neg (by omega)] at hq
 have hro : (σ.push (.cells c p.esz false p.tight)).RO := fun i b hi => by
  by_cases e : i = σ.n
  ·subst e; rw [Heap.get_push_self] at hi; obtain rfl := Option.some.inj hi; rfl
  ·rw [Heap.get_push_ne _ _ e] at hi; exact h.ro i b hi
 refine ⟨⟨⟨?_, ?_, ?_, ?_⟩, hro⟩, ⟨by simp, hpl, fun i hi => Heap.get_push_lt _ _ hi⟩⟩
 ·intro i b hi
  by_cases hin : i = σ.n
  ·subst hin
   rw [Heap.get_push_self] at hi
   obtain rfl := Option.some.inj hi
   refine ⟨p, by simp [Plc.put], rfl, rfl, hl, ⟨C, e, f, hb, hs, ht⟩, fun k v hk => ?_, fun h => by cases h⟩
   obtain ⟨u, hu, hv⟩ := hc k v hk
   exact ⟨u, hu, hv.mono (by simp) hpl⟩
  ·rw [Heap.get_push_ne _ _ hin] at hi
   obtain ⟨q, hq, hB⟩ := h.rel.live i b hi
   exact ⟨q, by simp [Plc.put, hin, hq], hB.mono (by simp) hpl rfl⟩
 ·intro i hi
  by_cases hin : i = σ.n
  ·subst hin; rw [Heap.get_push_self] at hi; cases hi
  ·rw [Heap.get_push_ne _ _ hin] at hi
   simp [Plc.put, hin, h.rel.dead i hi]
 ·intro i q hq
  by_cases hin : i = σ.n
  ·subst hin
   simp [Plc.put] at hq
   subst hq
   exact (Array.getElem?_eq_some_iff.1 hb).1
  ·simp [Plc.put, hin] at hq
   exact h.rel.lt i q hq
 ·intro i j q r b _ _ _ hb' hw _
  rw [hro i b hb'] at hw; cases hw
theorem rowAt_off {P : Program} {fits : TypeId → Bool} {d : Nat} {e : TypeId} {count off n : Nat} (h : rowAt P fits d e count off n = true) : off ≤ count * P.cellsOf e := by
 cases d with
 | zero => cases h
 | succ d =>
  unfold rowAt at h
  by_cases hs : P.cellsOf e = 0
  ·simp [hs] at h
  ·have hpos : 0 < P.cellsOf e := Nat.pos_of_ne_zero hs
   simp only [hs, if_false, Bool.or_eq_true, Bool.and_eq_true, beq_iff_eq, decide_eq_true_eq] at h
   have hd := Nat.div_add_mod off (P.cellsOf e)
   have hm := Nat.mod_lt off hpos
   rcases h with ⟨⟨h1, h2⟩, _⟩ | ⟨h1, _⟩
   ·have : P.cellsOf e * (off / P.cellsOf e) ≤ P.cellsOf e * count := Nat.mul_le_mul_left _ (by omega)
    rw [Nat.mul_comm count]; omega
   ·have : P.cellsOf e * (off / P.cellsOf e + 1) ≤ P.cellsOf e * count := Nat.mul_le_mul_left _ (by omega)
    rw [Nat.mul_add] at this
    rw [Nat.mul_comm count]; omega
theorem liesAt_off {P : Program} : ∀ {d : Nat} {e : TypeId} {count off : Nat} {u : TypeId} {n : Nat}, liesAt P d e count off u n = true → off ≤ count * P.cellsOf e
 | 0, _, _, _, _, _, h => by cases h
 | d + 1, e, count, off, u, n, h => by
  unfold liesAt at h
  rw [Bool.or_eq_true] at h
  rcases h with h | h
  ·exact rowAt_off h
  ·split at h
   ·exact liesAt_off h
   ·cases h
theorem has_block {P : Program} {w : World} {r : Reach} {base : Nat} {a : Addr} {e : TypeId} {n : Nat} (h : w.has P r base a e n) : ∃ C row f, w.heap[a.block]? = some (.cells C row f) ∧ a.off ≤ C.size ∧ a.spot = none := by
 obtain ⟨_, hs, row, cells, hsh, hl⟩ := h
 unfold World.shape? at hsh
 split at hsh
 ·rename_i C e' f hb
  obtain ⟨rfl, rfl⟩ := (by simpa using hsh : e' = row ∧ C.size = cells)
  exact ⟨C, e', f, hb, Nat.le_trans (liesAt_off hl) (Nat.div_mul_le_self _ _), hs⟩
 ·cases hsh
theorem okWide_slice {P : Program} {w : World} {r : Reach} {base : Nat} {t e : TypeId} {v : Value} (ht : P.underlying t = some (.slice e)) (h : Cell.okWide P w r base t v) :
  v = .slice none 0 0 ∨ ∃ a len cap, v = .slice (some a) len cap ∧ w.has P r base a e cap := by
 unfold Cell.okWide at h
 rw [ht] at h
 have h' : Cell.ok P w r base t v := by
  split at h <;> first | exact h | simp_all
 unfold Cell.ok at h'
 rw [ht] at h'
 split at h' <;> first | exact .inl rfl | (cases h'; done) | skip
 all_goals first | (rename_i h1 h2; simp_all; done) | skip
 all_goals first | (simp_all; exact ⟨_, _, _, ⟨rfl, rfl, rfl⟩, h'.2.2⟩) | (simp_all)
theorem int_wf {k : IntKind} {x : Int} (h : (Lit.int k x).wf = true) : k.min ≤ x ∧ x ≤ k.max := by
 simpa [Lit.wf] using h
theorem View.calls {P : Program} {f : FuncId} {w : World} {ρ : Plc} {σ : Heap} (h : View w ρ σ) {args : List Value} {cargs : Array Value} (hl : LRel ρ σ.n args cargs.toList) (hc : VCallsTo P f args σ fun v _ => v = .bool true) :
  Calls P f cargs w fun e w' => e = .returned (.bool true) ∧ Below w.heap.size w w' := by
 refine (hc ρ w cargs h.rel hl).mono fun e w' ⟨c, he, v, ρ', σ', hv, hr, _, hx⟩ => ?_
 subst hv
 have : c = .bool true := by cases hr; rfl
 subst this
 exact ⟨he, hx.os, hx.tape, hx.output, hx.size, fun B hB => hx.keep B hB fun ⟨i, p, b, _, hi, hw, _⟩ => by rw [h.ro i b hi] at hw; cases hw⟩
theorem trodAll_stays {H : Type} {enc : TypeId × Value → H} {P : Program} (hl : laidOutB P = true) {W W' : World} {sp : Nat → Bool} (hb : Below W.heap.size W W') :
  ∀ {ts : List TypeId} {vs : List Value} {ds : List (DataW H)} {ps : List MemPlace}, (∀ t ∈ ts, P.readableRec t = true ∧ t < P.types.size) → DataW.TrodAll enc P W 0 (fun _ => true) true ts vs ds ps → (∀ p ∈ ps, p.block < W.heap.size) → (∀ p ∈ ps, sp p.block = true) →
   DataW.TrodAll enc P W' 0 sp true ts vs ds ps
 | [], vs, ds, ps, _, h, _, _ => by
  obtain ⟨rfl, rfl, rfl⟩ := trodAll_nil h
  rfl
 | t :: ts, vs, ds, ps, ht, h, hlt, hs => by
  obtain ⟨v, vs', d, ds', p, q, rfl, rfl, rfl, h1, h2⟩ := trodAll_cons h
  obtain ⟨r1, r2⟩ := ht t (by simp)
  exact ⟨p, q, WideElems.Trod_stays hl r1 r2 h1 (fun x hx => hb.same (hlt x (by simp [hx]))) (fun x hx => hs x (by simp [hx])),
   trodAll_stays hl hb (fun t ht' => ht t (by simp [ht'])) h2 (fun x hx => hlt x (by simp [hx])) (fun x hx => hs x (by simp [hx])), rfl⟩
theorem post_true {H : Type} {enc : TypeId × Value → H} {P : Program} {f : Func} {s : ChangeSpec} {apart fresh handsOn again : Bool} {W W' : World} {args : Array Value} {ds gs : List (DataW H)} {before : List MemPlace} {tb : TypeId}
  (hl : laidOutB P = true) (hp : f.params.toList.all (fun t => P.readableRec t && decide (t < P.types.size)) = true) (hvars : s.vars = []) (hr : f.resultTypes = #[tb]) (hb1 : P.underlying tb = some .bool) (hs : s.fn H ds = { results := [.lit (.bool true)], args := ds })
  (hW : DataW.Whole enc P f.params.toList s.vars apart W args.toList ds gs before) (hb : Below W.heap.size W W') : s.post enc P f apart fresh handsOn again W args (.bool true) W' := by
 have hlt : ∀ p ∈ before, p.block < W.heap.size := fun p hp => hW.lt p hp
 have hW0 := hW
 obtain ⟨p, q, hA, hV, rfl, hz, hn⟩ := hW
 rw [hvars] at hV
 obtain ⟨rfl, rfl⟩ := trodVars_none hV
 have hp' : ∀ t ∈ f.params.toList, P.readableRec t = true ∧ t < P.types.size := fun t ht => by
  have := List.all_eq_true.1 hp t ht
  simpa using this
 have hsg : s.fn H (ds ++ []) = { results := [.lit (.bool true)], args := ds } := by rw [List.append_nil]; exact hs
 have hres : ∀ (b : Nat) (sp : Nat → Bool) (hd : Bool), DataW.TrodAll enc P W' b sp hd f.resultTypes.toList ((Value.bool true).resultList f.resultTypes.size) (s.fn H (ds ++ [])).results [] := fun b sp hd => by
  rw [hsg, hr]
  exact trodAll_mk1 (shut_bool hb1 _)
 have hargs : ∀ sp : Nat → Bool, (∀ x ∈ p ++ [], sp x.block = true) → DataW.TrodAll enc P W' 0 sp true f.params.toList args.toList (s.fn H (ds ++ [])).args p := fun sp hsp => by
  rw [hsg]
  exact trodAll_stays hl hb hp' hA (fun x hx => hlt x (by simp [hx])) (fun x hx => hsp x (by simp [hx]))
 have hvs : ∀ sp : Nat → Bool, DataW.TrodVars enc P W' sp s.vars (s.fn H (ds ++ [])).vars [] := fun sp => by
  rw [hsg, hvars]; rfl
 have hold : ∀ x ∈ p ++ [], (fun b => decide (b < W.heap.size)) x.block = true := fun x hx => by simpa using hlt x hx
 refine ⟨ds, [], p ++ [], [], p, [], hW0, hres _ _ _, hargs _ hold, hvs _, World.keptBut_mono (fun x hx => ⟨hx, ?_⟩) (hb.frame (· ∈ p ++ [])), fun _ => ?_⟩
 ·exact .inr (by simpa using hx)
 ·refine ⟨ok_one hr rfl (okWide_bool_mk hb1 _), _, _, ([] ++ p) ++ [], ⟨[] ++ p, [], trodAll_append (hargs _ (fun _ _ => rfl)) (hres _ _ _), hvs _, rfl, ?_, ?_⟩, ?_⟩
  ·intro b off hx
   have hin : MemPlace.cell b off ∈ p ++ [] := by simpa using hx
   rw [hb.frozen (hlt _ hin)]
   exact hz b off hin
  ·intro ha
   simpa using hn ha
  ·intro x hx _
   simpa using hx
end Go.V
namespace Go.V
open Go Go.ChangeShapes Go.WideShapes Go.RowKit Go.Deep Go.Joins
def KFs (T : Kind → TypeId → Bool) (sz : TypeId → Nat) : Kind → List (TypeId × Nat) → Nat → Bool
 | _, [], _ => false
 | k, [p], off => p.2 == off && (sz p.1 == k.size && T k p.1)
 | .pair a b, p :: q :: r, off => p.2 == off && (sz p.1 == a.size && (T a p.1 && KFs T sz b (q :: r) (off + a.size)))
 | _, _ :: _ :: _, _ => false
def KTy (P : Program) : Nat → Kind → TypeId → Bool
 | 0, _, _ => false
 | n + 1, k, t => match P.underlying t with
  | some (.struct fs) => P.cellsOf t == k.size && KFs (KTy P n) P.cellsOf k (fs.toList.map fun f => (f.type, f.offset)) 0
  | some (.array m e) => P.cellsOf t == k.size && KFs (KTy P n) P.cellsOf k ((List.range m).map fun i => (e, i * P.cellsOf e)) 0
  | some (.int ik) => (match k with | .i k' => decide (k' = ik) | _ => false)
  | some .bool => (match k with | .bo => true | _ => false)
  | some .string => (match k with | .st => true | _ => false)
  | some (.slice e) => (match k with | .list k' => P.cellsOf e == k'.size && (k'.flat && KTy P n k' e) | _ => false)
  | _ => false
def KWf : (k : Kind) → k.T → Prop
 | .i ik, x => InK ik x
 | .bo, _ => True
 | .st, s => s.length ≤ maxLen
 | .list k, l => l.length ≤ maxLen ∧ ∀ x ∈ l, KWf k x
 | .pair a b, x => KWf a x.1 ∧ KWf b x.2
theorem More.le {ρ ρ' : Plc} {σ σ' : Heap} (h : More ρ σ ρ' σ') : σ.Le σ' := ⟨h.n, fun i b hb => by rw [h.ag i (σ.lt hb)]; exact hb⟩
def ArgIs (w : World) (ρ : Plc) (σ : Heap) (k : Kind) (cs : List Value) : Prop :=
 ∃ ρ' σ' vs x, View w ρ' σ' ∧ More ρ σ ρ' σ' ∧ LRel ρ' σ'.n vs cs ∧ KC σ' k x vs ∧ KWf k x
theorem ArgIs.pair {w : World} {ρ : Plc} {σ : Heap} {a b : Kind} {cs ds : List Value} (h1 : ArgIs w ρ σ a cs) (h2 : ∀ ρ σ, View w ρ σ → ArgIs w ρ σ b ds) : ArgIs w ρ σ (.pair a b) (cs ++ ds) := by
 obtain ⟨ρ1, σ1, vs1, x1, k1, k2, k3, k4, k5⟩ := h1
 obtain ⟨ρ2, σ2, vs2, x2, m1, m2, m3, m4, m5⟩ := h2 ρ1 σ1 k1
 exact ⟨ρ2, σ2, vs1 ++ vs2, (x1, x2), m1, k2.trans m2, (k3.mono m2.n m2.pl).append m3, ⟨vs1, vs2, rfl, k4.mono m2.le, m4⟩, k5, m5⟩
section
variable {H : Type} {enc : TypeId × Value → H} {P : Program} {w : World} {r : Reach} {base : Nat}
def okc (P : Program) (w : World) (r : Reach) (base : Nat) (ts : List TypeId) (cs : List Value) : Prop := ∀ (i : Nat) v u, cs[i]? = some v → ts[i]? = some u → Cell.okWide P w r base u v
theorem KFs_len {T : Kind → TypeId → Bool} {sz : TypeId → Nat} {g : TypeId → Option (List TypeId)} (hT : ∀ k t ts, T k t = true → g t = some ts → ts.length = k.size) :
  ∀ {k : Kind} {L : List (TypeId × Nat)} {off : Nat} {tss : List (List TypeId)}, KFs T sz k L off = true → L.mapM (fun p => g p.1) = some tss → tss.flatten.length = k.size
 | k, [], _, _, h, _ => by simp [KFs] at h
 | k, [p], off, tss, h, hm => by
  simp only [KFs, Bool.and_eq_true] at h
  cases hg : g p.1 with
  | none => simp [hg] at hm
  | some ts =>
   simp [hg] at hm
   subst hm
   simpa using hT _ _ _ h.2.2 hg
 | .pair a b, p :: q :: r, off, tss, h, hm => by
  simp only [KFs, Bool.and_eq_true] at h
  rw [List.mapM_cons] at hm
  cases hg : g p.1 with
  | none => simp [hg] at hm
  | some ts =>
   cases hr : (q :: r).mapM (fun p => g p.1) with
   | none => simp [hg, hr] at hm
   | some tr =>
    simp [hg, hr] at hm
    subst hm
    have := KFs_len hT h.2.2.2 hr
    simp only [List.flatten_cons, List.length_append, this, hT _ _ _ h.2.2.1 hg, Kind.size]
 | .i _, _ :: _ :: _, _, _, h, _ | .bo, _ :: _ :: _, _, _, h, _ | .st, _ :: _ :: _, _, _, h, _ | .list _, _ :: _ :: _, _, _, h, _ => by cases h
theorem mapM_map {α β γ : Type} {f : α → β} {g : β → Option γ} : ∀ (l : List α), (l.map f).mapM g = l.mapM (fun x => g (f x))
 | [] => rfl
 | a :: l => by simp only [List.map_cons, List.mapM_cons, mapM_map l]
theorem mapM_const {β : Type} {x : β} {f : Nat → Option β} (h : ∀ i, f i = some x) : ∀ l : List Nat, l.mapM f = some (List.replicate l.length x)
 | [] => rfl
 | a :: l => by simp [List.mapM_cons, h, mapM_const h l, List.replicate_succ]
theorem KTy_len : ∀ {n : Nat} {k : Kind} {t : TypeId} {d : Nat} {ts : List TypeId}, KTy P n k t = true → P.cellTypes d t = some ts → ts.length = k.size
 | 0, _, _, _, _, h, _ => by cases h
 | _ + 1, _, _, 0, _, _, h => by cases h
 | n + 1, k, t, d + 1, ts, h, ht => by
  have ih : ∀ k t ts, KTy P n k t = true → P.cellTypes d t = some ts → ts.length = k.size := fun k t ts h1 h2 => KTy_len h1 h2
  unfold Program.cellTypes at ht
  unfold KTy at h
  cases hu : P.underlying t with
  | none => rw [hu] at h; cases h
  | some u =>
   rw [hu] at h ht
   cases u <;> first | (cases h; done) | skip
   all_goals simp only at h ht
   ·split at h <;> first | (cases h; done) | (obtain rfl := Option.some.inj ht; rfl)
   ·split at h <;> first | (cases h; done) | (obtain rfl := Option.some.inj ht; rfl)
   ·split at h <;> first | (cases h; done) | (obtain rfl := Option.some.inj ht; rfl)
   ·split at h <;> first | (cases h; done) | (obtain rfl := Option.some.inj ht; rfl)
   ·rename_i m e
    rw [Bool.and_eq_true] at h
    cases hc : P.cellTypes d e with
    | none => rw [hc] at ht; cases ht
    | some te =>
     rw [hc] at ht
     obtain rfl := Option.some.inj ht
     refine KFs_len (g := fun t => P.cellTypes d t) ih h.2 ?_
     rw [mapM_map, mapM_const (x := te) (fun _ => hc)]
     simp
   ·rename_i fs
    rw [Bool.and_eq_true] at h
    cases hc : fs.toList.mapM fun f => P.cellTypes d f.type with
    | none => rw [hc] at ht; cases ht
    | some tss =>
     rw [hc] at ht
     obtain rfl := Option.some.inj ht
     refine KFs_len (g := fun t => P.cellTypes d t) ih h.2 ?_
     rw [mapM_map]; exact hc
theorem KFs_read {T : Kind → TypeId → Bool} {sz : TypeId → Nat} {Q : TypeId → List Value → Prop} {R : Kind → List Value → Prop} (hT : ∀ k t cs, T k t = true → Q t cs → R k cs) (hR : ∀ a b cs ds, R a cs → R b ds → R (.pair a b) (cs ++ ds)) (cs : List Value) :
  ∀ {k : Kind} {L : List (TypeId × Nat)} {off : Nat}, KFs T sz k L off = true → (∀ p ∈ L, Q p.1 ((cs.drop p.2).take (sz p.1))) → R k ((cs.drop off).take k.size)
 | k, [], _, h, _ => by simp [KFs] at h
 | k, [p], off, h, hq => by
  simp only [KFs, Bool.and_eq_true, beq_iff_eq] at h
  have := hq p (by simp)
  rw [h.1, h.2.1] at this
  exact hT _ _ _ h.2.2 this
 | .pair a b, p :: q :: r, off, h, hq => by
  simp only [KFs, Bool.and_eq_true, beq_iff_eq] at h
  have h1 := hq p (by simp)
  rw [h.1, h.2.1] at h1
  have h2 := KFs_read hT hR cs h.2.2.2 fun x hx => hq x (List.mem_cons_of_mem _ hx)
  have e : (cs.drop off).take (Kind.pair a b).size = (cs.drop off).take a.size ++ (cs.drop (off + a.size)).take b.size := by
   rw [Kind.size, List.take_add, List.drop_drop]
  rw [e]
  exact hR _ _ _ _ (hT _ _ _ h.2.2.1 h1) h2
 | .i _, _ :: _ :: _, _, h, _ | .bo, _ :: _ :: _, _, h, _ | .st, _ :: _ :: _, _, h, _ | .list _, _ :: _ :: _, _, h, _ => by cases h
def FlatIs (k : Kind) (cs : List Value) : Prop := ∃ y : k.T, (∀ h, KC h k y cs) ∧ KWf k y ∧ ∀ ρ m, LRel ρ m cs cs
theorem FlatIs.pair {a b : Kind} {cs ds : List Value} (h1 : FlatIs a cs) (h2 : FlatIs b ds) : FlatIs (.pair a b) (cs ++ ds) := by
 obtain ⟨x, k1, k2, k3⟩ := h1
 obtain ⟨y, m1, m2, m3⟩ := h2
 exact ⟨(x, y), fun h => ⟨cs, ds, rfl, k1 h, m1 h⟩, ⟨k2, m2⟩, fun ρ m => (k3 ρ m).append (m3 ρ m)⟩
theorem LRel.one {ρ : Plc} {n : Nat} {v c : Value} (h : VRel ρ n v c) : LRel ρ n [v] [c] := .cons h (.nil _ _)
theorem range_mem_get {fs : Array Field} {f : Field} (h : f ∈ fs.toList) : ∃ i : Nat, fs[i]? = some f := by
 obtain ⟨i, hi, rfl⟩ := List.mem_iff_getElem.1 h
 exact ⟨i, by simp at hi; simp [hi]⟩
theorem KTy_flat {sp : Nat → Bool} {held : Bool} : ∀ {n : Nat} {k : Kind} {t : TypeId} {fuel : Nat} {cs : List Value} {x : DataW H × List MemPlace}, KTy P n k t = true → k.flat = true → DataW.trod enc P w base sp held fuel t cs = some x → FlatIs k cs
 | 0, _, _, _, _, _, h, _, _ => by cases h
 | n + 1, k, t, fuel, cs, x, h, hf, hx => by
  unfold KTy at h
  cases hu : P.underlying t with
  | none => rw [hu] at h; cases h
  | some u =>
   rw [hu] at h
   have hR : ∀ a b cs ds, ((a.flat = true → FlatIs a cs) ∧ True) → ((b.flat = true → FlatIs b ds) ∧ True) → (((Kind.pair a b).flat = true → FlatIs (.pair a b) (cs ++ ds)) ∧ True) := fun a b cs ds h1 h2 => ⟨fun hf => by
    simp only [Kind.flat, Bool.and_eq_true] at hf
    exact (h1.1 hf.1).pair (h2.1 hf.2), trivial⟩
   have hT : ∀ k t cs, KTy P n k t = true → (∃ fuel x, DataW.trod enc P w base sp held fuel t cs = some x) → ((k.flat = true → FlatIs k cs) ∧ True) := fun k t cs h1 ⟨fuel, x, h2⟩ => ⟨fun hf => KTy_flat h1 hf h2, trivial⟩
   cases u <;> first | (cases h; done) | skip
   all_goals simp only at h
   ·split at h <;> first | (cases h; done) | skip
    obtain ⟨b, rfl, _⟩ := DataW.trod_bool hu hx
    exact ⟨b, fun _ => rfl, trivial, fun _ _ => .one (.bool _)⟩
   ·split at h <;> first | (cases h; done) | skip
    obtain rfl := of_decide_eq_true h
    obtain ⟨z, rfl, _, hw⟩ := DataW.trod_int hu hx
    exact ⟨z, fun _ => rfl, int_wf hw, fun _ _ => .one (.int _ _)⟩
   ·split at h <;> first | (cases h; done) | skip
    obtain ⟨s, rfl, _, hs⟩ := DataW.trod_string hu hx
    exact ⟨s.data.toList, fun _ => rfl, hs, fun _ _ => .one (.string _)⟩
   ·split at h <;> first | (cases h; done) | (cases hf; done)
   ·rename_i m e
    simp only [Bool.and_eq_true, beq_iff_eq] at h
    obtain ⟨xs, m', _, _, hl, hxl, hx⟩ := DataW.trod_array hu hx
    have := (KFs_read (R := fun k cs => (k.flat = true → FlatIs k cs) ∧ True) hT hR cs h.2 fun p hp => by
     simp only [List.mem_map, List.mem_range] at hp
     obtain ⟨i, hi, rfl⟩ := hp
     have := hx i hi
     rw [List.getElem?_eq_getElem (by omega)] at this
     exact ⟨_, _, this⟩).1 hf
    rwa [List.drop_zero, List.take_of_length_le (by omega)] at this
   ·rename_i fs
    simp only [Bool.and_eq_true, beq_iff_eq] at h
    obtain ⟨xs, m', _, _, hl, hxl, hx⟩ := DataW.trod_struct hu hx
    have := (KFs_read (R := fun k cs => (k.flat = true → FlatIs k cs) ∧ True) hT hR cs h.2 fun p hp => by
     simp only [List.mem_map] at hp
     obtain ⟨f, hf', rfl⟩ := hp
     obtain ⟨i, hi⟩ := range_mem_get hf'
     have := hx i f hi
     have hil : i < fs.size := (Array.getElem?_eq_some_iff.1 hi).1
     rw [List.getElem?_eq_getElem (by omega)] at this
     exact ⟨_, _, this⟩).1 hf
    rwa [List.drop_zero, List.take_of_length_le (by omega)] at this
theorem Rows.range {α : Type} {R : α → List Value → Prop} {n : Nat} {c : List Value} {x : Nat → α} : ∀ (m : Nat), (∀ i, i < m → R (x i) ((c.drop (i * n)).take n)) → Rows R ((List.range m).map x) (c.take (m * n))
 | 0, _ => by simp; exact .nil
 | m + 1, h => by
  have e : c.take ((m + 1) * n) = c.take (m * n) ++ (c.drop (m * n)).take n := by rw [Nat.add_mul, Nat.one_mul, List.take_add]
  rw [List.range_succ, List.map_append, e]
  exact (Rows.range m fun i hi => h i (by omega)).append (by simpa using Rows.cons (h m (by omega)) .nil)
theorem choose_below {α : Type} [Inhabited α] {m : Nat} {p : Nat → α → Prop} (h : ∀ i, i < m → ∃ x, p i x) : ∃ f : Nat → α, ∀ i, i < m → p i (f i) :=
 ⟨fun i => if hi : i < m then (h i hi).choose else default, fun i hi => by simp only [hi, dif_pos]; exact (h i hi).choose_spec⟩
instance KInh (k : Kind) : Inhabited k.T := ⟨k.dflt⟩
theorem View.list {ρ : Plc} {σ : Heap} (h : View w ρ σ) {n : Nat} {k : Kind} {t e : TypeId} {fuel : Nat} {cs : List Value} {x : DataW H × List MemPlace} (hu : P.underlying t = some (.slice e)) (hs : P.cellsOf e = k.size) (hf : k.flat = true) (hk : KTy P n k e = true)
  (hx : DataW.trod enc P w 0 (fun _ => true) true fuel t cs = some x) (hok : okc P w r base [t] cs) : ArgIs w ρ σ (.list k) cs := by
 rcases open_slice hu hx with ⟨rfl, _⟩ | ⟨a, len, cap, m, fu, D, Pl, rfl, hb, hl, hm, hmm, _, hel⟩
 ·exact ⟨ρ, σ, [.slice none 0 0], [], h, More.refl _ _, .one .nilSl, ⟨_, rfl, .inl ⟨rfl, rfl⟩⟩, by simp [maxLen], fun _ hx => by cases hx⟩
 simp only [if_true] at hmm
 subst hmm
 rw [hs] at hel
 have hhas : w.has P r base a e m := by
  rcases okWide_slice hu (hok 0 _ t rfl rfl) with hh | ⟨a', len', cap', hh, h2⟩
  ·cases hh
  ·cases hh; exact h2
 obtain ⟨C, row, f, hblk, hoff, hsp⟩ := has_block hhas
 obtain ⟨blk, off, spot⟩ := a
 simp only at hblk hoff hsp
 subst hsp
 have hadd : ∀ i, (⟨blk, off, none⟩ : Addr).add i = ⟨blk, off + i, none⟩ := fun i => by unfold Addr.add; split <;> simp_all
 obtain ⟨X, hX⟩ := choose_below (α := k.T × List Value) (m := m) (p := fun i p => p.2.length = k.size ∧ (∀ j, j < k.size → w.cell? ⟨blk, off + i * k.size + j, none⟩ = p.2[j]?) ∧ (∀ h, KC h k p.1 p.2) ∧ KWf k p.1 ∧ ∀ ρ m, LRel ρ m p.2 p.2) fun i hi => by
  obtain ⟨cs', h1, h2⟩ := hel i hi
  obtain ⟨_, k1, k2⟩ := World.cells?_some h1
  obtain ⟨y, m1, m2, m3⟩ := KTy_flat hk hf h2
  refine ⟨(y, cs'), k1, fun j hj => ?_, m1, m2, m3⟩
  have := k2 j hj
  rw [hadd] at this
  have e2 : (⟨blk, off + i * k.size, none⟩ : Addr).add j = ⟨blk, off + i * k.size + j, none⟩ := by unfold Addr.add; split <;> simp_all
  rw [e2] at this
  exact this
 have hpos := k.size_pos
 let c : List Value := (List.range (m * k.size)).map fun j => ((X (j / k.size)).2[j % k.size]?).getD undef
 have hcl : c.length = m * k.size := by simp [c]
 have hdiv : ∀ j, j < m * k.size → j / k.size < m := fun j hj => Nat.div_lt_of_lt_mul (by rw [Nat.mul_comm]; exact hj)
 have hcell : ∀ j, j < m * k.size → ∃ v, c[j]? = some v ∧ w.cell? ⟨blk, off + j, none⟩ = some v ∧ ∀ ρ m, VRel ρ m v v := fun j hj => by
  have h1 := hX (j / k.size) (hdiv j hj)
  have hjm : j % k.size < k.size := Nat.mod_lt _ hpos
  have h2 := h1.2.1 _ hjm
  have e : off + j / k.size * k.size + j % k.size = off + j := by rw [Nat.add_assoc, Nat.div_add_mod']
  rw [e] at h2
  have h3 : j % k.size < (X (j / k.size)).2.length := by rw [h1.1]; exact hjm
  refine ⟨(X (j / k.size)).2[j % k.size], ?_, ?_, fun ρ m => (h1.2.2.2.2 ρ m).2 _ _ _ (List.getElem?_eq_getElem h3) (List.getElem?_eq_getElem h3)⟩
  ·simp only [c, List.getElem?_map, List.getElem?_range hj, Option.map_some, List.getElem?_eq_getElem h3, Option.getD_some]
  ·rw [h2, List.getElem?_eq_getElem h3]
 have helt : ∀ i, i < m → (c.drop (i * k.size)).take k.size = (X i).2 := fun i hi => by
  have h1 := hX i hi
  have hle : i * k.size + k.size ≤ m * k.size := by
   have : (i + 1) * k.size ≤ m * k.size := Nat.mul_le_mul_right _ hi
   rw [Nat.add_mul] at this; omega
  apply List.ext_getElem?
  intro j
  by_cases hj : j < k.size
  ·rw [List.getElem?_take_of_lt hj, List.getElem?_drop]
   have hj2 : i * k.size + j < m * k.size := by omega
   have e1 : (i * k.size + j) / k.size = i := by rw [Nat.mul_comm, Nat.mul_add_div hpos, Nat.div_eq_of_lt hj, Nat.add_zero]
   have e2 : (i * k.size + j) % k.size = j := by rw [Nat.mul_comm, Nat.mul_add_mod, Nat.mod_eq_of_lt hj]
   have h3 : j < (X i).2.length := by rw [h1.1]; exact hj
   simp only [c, List.getElem?_map, List.getElem?_range hj2, Option.map_some, e1, e2, List.getElem?_eq_getElem h3, Option.getD_some]
  ·rw [List.getElem?_eq_none (by simp; omega), List.getElem?_eq_none (by omega)]
 have hsz : off + m * k.size ≤ C.size := by
  rcases Nat.eq_zero_or_pos (m * k.size) with h0 | h0
  ·omega
  ·obtain ⟨v, _, h2, _⟩ := hcell (m * k.size - 1) (by omega)
   unfold World.cell? at h2
   simp only [hblk] at h2
   have := (Array.getElem?_eq_some_iff.1 (by simpa using h2)).1
   omega
 obtain ⟨hv, hmo⟩ := h.add ⟨blk, off, m * k.size, ⟨k.size, row⟩, false⟩ c hblk hsz (by simp [hcl]) rfl (fun j v hj => by
  have hjl : j < m * k.size := by rw [← hcl]; exact (List.getElem?_eq_some_iff.1 hj).1
  obtain ⟨v', h1, h2, h3⟩ := hcell j hjl
  obtain rfl := Option.some.inj (hj.symm.trans h1)
  exact ⟨v, h2, h3 _ _⟩)
 have hlen : ((List.range len).map fun i => (X i).1).length = len := by simp
 refine ⟨_, _, [.slice (some ⟨σ.n, 0, none⟩) len m], (List.range len).map fun i => (X i).1, hv, hmo, .one ?_, ⟨_, rfl, .inr ⟨σ.n, 0, m, c, ⟨k.size, row⟩, false, false, by rw [hlen], by rw [hlen]; exact hl, Heap.get_push_self _ _, rfl, ?_, ?_⟩⟩, ?_, fun y hy => ?_⟩
 ·refine .sl _ _ _ _ _ _ (by simp) fun p hp => ?_
  simp [Plc.put] at hp
  subst hp
  exact ⟨Nat.le_refl _, (fun h => by cases h), 0, by simp, by simp, .inl rfl⟩
 ·rw [hlen, hcl, Nat.zero_add]; exact Nat.mul_le_mul_right _ hl
 ·rw [hlen, List.drop_zero]
  refine Rows.range len fun i hi => ?_
  rw [helt i (by omega)]
  exact (hX i (by omega)).2.2.1 _
 ·rw [hlen]; exact Nat.le_trans hl hm
 ·obtain ⟨i, hi, rfl⟩ := List.mem_map.1 hy
  exact (hX i (by have := List.mem_range.1 hi; omega)).2.2.2.1
def Kind.lev1 : Kind → Bool
 | .list k => k.flat
 | .pair a b => a.lev1 && b.lev1
 | _ => true
theorem okc_part {ts : List TypeId} {cs : List Value} (h : okc P w r base ts cs) (o n : Nat) : okc P w r base ((ts.drop o).take n) ((cs.drop o).take n) := fun i v u h1 h2 => by
 have hi : i < n := by
  have := (List.getElem?_eq_some_iff.1 h1).1
  rw [List.length_take] at this; omega
 rw [List.getElem?_take_of_lt hi, List.getElem?_drop] at h1 h2
 exact h _ v u h1 h2
theorem KFs_types {T : Kind → TypeId → Bool} {sz : TypeId → Nat} {g : TypeId → Option (List TypeId)} (hT : ∀ k t ts, T k t = true → g t = some ts → ts.length = k.size) :
  ∀ {k : Kind} {L : List (TypeId × Nat)} {off : Nat} {tss : List (List TypeId)}, KFs T sz k L off = true → L.mapM (fun p => g p.1) = some tss → ∀ p ∈ L, off ≤ p.2 ∧ g p.1 = some ((tss.flatten.drop (p.2 - off)).take (sz p.1))
 | k, [], _, _, h, _ => by simp [KFs] at h
 | k, [p], off, tss, h, hm => by
  simp only [KFs, Bool.and_eq_true, beq_iff_eq] at h
  intro p' hp
  obtain rfl := List.mem_singleton.1 hp
  cases hg : g p'.1 with
  | none => simp [hg] at hm
  | some ts =>
   simp [hg] at hm
   subst hm
   refine ⟨by omega, ?_⟩
   rw [h.1, Nat.sub_self, List.drop_zero, h.2.1, List.take_of_length_le]
   ·simp
   ·simp [hT _ _ _ h.2.2 hg]
 | .pair a b, p :: q :: r, off, tss, h, hm => by
  simp only [KFs, Bool.and_eq_true, beq_iff_eq] at h
  rw [List.mapM_cons] at hm
  intro p' hp
  cases hg : g p.1 with
  | none => simp [hg] at hm
  | some ts =>
   cases hr : (q :: r).mapM (fun p => g p.1) with
   | none => simp [hg, hr] at hm
   | some tr =>
    simp [hg, hr] at hm
    subst hm
    have hlen := hT _ _ _ h.2.2.1 hg
    rcases List.mem_cons.1 hp with rfl | hp
    ·refine ⟨by omega, ?_⟩
     rw [hg, h.1, Nat.sub_self, List.drop_zero, h.2.1, List.flatten_cons, List.take_append, ← hlen, Nat.sub_self, List.take_zero, List.append_nil, List.take_length]
    ·obtain ⟨h1, h2⟩ := KFs_types hT h.2.2.2 hr p' hp
     refine ⟨by omega, ?_⟩
     have e1 : ts.drop (p'.2 - off) = [] := List.drop_eq_nil_of_le (by omega)
     have e2 : p'.2 - off - a.size = p'.2 - (off + a.size) := by omega
     rw [h2, List.flatten_cons, List.drop_append, hlen, e1, e2, List.nil_append]
 | .i _, _ :: _ :: _, _, _, h, _ | .bo, _ :: _ :: _, _, _, h, _ | .st, _ :: _ :: _, _, _, h, _ | .list _, _ :: _ :: _, _, _, h, _ => by cases h
theorem KTy_read : ∀ {n : Nat} {k : Kind} {t : TypeId} {d : Nat} {ts : List TypeId} {fuel : Nat} {cs : List Value} {x : DataW H × List MemPlace}, KTy P n k t = true → k.lev1 = true → P.cellTypes d t = some ts → okc P w r base ts cs → DataW.trod enc P w 0 (fun _ => true) true fuel t cs = some x → ∀ ρ σ, View w ρ σ → ArgIs w ρ σ k cs
 | 0, _, _, _, _, _, _, _, h, _, _, _, _ => by cases h
 | _ + 1, _, _, 0, _, _, _, _, _, _, h, _, _ => by cases h
 | n + 1, k, t, d + 1, ts, fuel, cs, x, h, hf, hts, hok, hx => by
  intro ρ σ hv
  by_cases hflat : k.flat = true
  ·obtain ⟨y, h1, h2, h3⟩ := KTy_flat h hflat hx
   exact ⟨ρ, σ, cs, y, hv, More.refl _ _, h3 _ _, h1 _, h2⟩
  unfold KTy at h
  cases hu : P.underlying t with
  | none => rw [hu] at h; cases h
  | some u =>
   rw [hu] at h
   let Q : TypeId → List Value → Prop := fun t cs => (∃ fuel x, DataW.trod enc P w 0 (fun _ => true) true fuel t cs = some x) ∧ ∃ ts, P.cellTypes d t = some ts ∧ okc P w r base ts cs
   let R : Kind → List Value → Prop := fun k cs => k.lev1 = true → ∀ ρ σ, View w ρ σ → ArgIs w ρ σ k cs
   have hR : ∀ a b cs ds, R a cs → R b ds → R (.pair a b) (cs ++ ds) := fun a b cs ds h1 h2 hl ρ σ hv => by
    simp only [Kind.lev1, Bool.and_eq_true] at hl
    exact (h1 hl.1 ρ σ hv).pair fun ρ σ hv => h2 hl.2 ρ σ hv
   have hT : ∀ k t cs, KTy P n k t = true → Q t cs → R k cs := fun k t cs h1 ⟨⟨fuel, x, h2⟩, ts, h3, h4⟩ hl => KTy_read h1 hl h3 h4 h2
   have hlen : ∀ k t ts, KTy P n k t = true → P.cellTypes d t = some ts → ts.length = k.size := fun k t ts h1 h2 => KTy_len h1 h2
   unfold Program.cellTypes at hts
   rw [hu] at hts
   cases u <;> first | (cases h; done) | skip
   all_goals simp only at h
   ·split at h <;> first | (cases h; done) | (exact absurd rfl hflat)
   ·split at h <;> first | (cases h; done) | (exact absurd rfl hflat)
   ·split at h <;> first | (cases h; done) | (exact absurd rfl hflat)
   ·rename_i e
    split at h <;> first | (cases h; done) | skip
    simp only [Bool.and_eq_true, beq_iff_eq] at h
    simp only [Option.some.injEq] at hts
    subst hts
    exact hv.list hu h.1 h.2.1 h.2.2 hx hok
   ·rename_i m e
    simp only [Bool.and_eq_true, beq_iff_eq] at h
    obtain ⟨xs, m', _, _, hl, hxl, hx⟩ := DataW.trod_array hu hx
    simp only at hts
    cases hc : P.cellTypes d e with
    | none => rw [hc] at hts; cases hts
    | some te =>
     rw [hc] at hts
     obtain rfl := Option.some.inj hts
     have htm : ((List.range m).map fun i => (e, i * P.cellsOf e)).mapM (fun p : TypeId × Nat => P.cellTypes d p.1) = some (List.replicate m te) := by
      rw [mapM_map, mapM_const (x := te) (fun _ => hc)]; simp
     have := KFs_read (Q := Q) (R := R) hT hR cs h.2 (fun p hp => by
      have hty := KFs_types (g := fun t => P.cellTypes d t) hlen h.2 htm p hp
      simp only [List.mem_map, List.mem_range] at hp
      obtain ⟨i, hi, rfl⟩ := hp
      have := hx i hi
      rw [List.getElem?_eq_getElem (by omega)] at this
      exact ⟨⟨_, _, this⟩, _, hty.2, okc_part hok _ _⟩) hf ρ σ hv
     rwa [List.drop_zero, List.take_of_length_le (by omega)] at this
   ·rename_i fs
    simp only [Bool.and_eq_true, beq_iff_eq] at h
    obtain ⟨xs, m', _, _, hl, hxl, hx⟩ := DataW.trod_struct hu hx
    simp only at hts
    cases hc : fs.toList.mapM fun f => P.cellTypes d f.type with
    | none => rw [hc] at hts; cases hts
    | some tss =>
     rw [hc] at hts
     obtain rfl := Option.some.inj hts
     have htm : (fs.toList.map fun f => (f.type, f.offset)).mapM (fun p : TypeId × Nat => P.cellTypes d p.1) = some tss := by
      rw [mapM_map]; exact hc
     have := KFs_read (Q := Q) (R := R) hT hR cs h.2 (fun p hp => by
      have hty := KFs_types (g := fun t => P.cellTypes d t) hlen h.2 htm p hp
      simp only [List.mem_map] at hp
      obtain ⟨f, hf', rfl⟩ := hp
      obtain ⟨i, hi⟩ := range_mem_get hf'
      have := hx i f hi
      have hil : i < fs.size := (Array.getElem?_eq_some_iff.1 hi).1
      rw [List.getElem?_eq_getElem (by omega)] at this
      exact ⟨⟨_, _, this⟩, _, hty.2, okc_part hok _ _⟩) hf ρ σ hv
     rwa [List.drop_zero, List.take_of_length_le (by omega)] at this
def isAgg (P : Program) (t : TypeId) : Bool := match P.underlying t with
 | some (.struct _) => true
 | some (.array _ _) => true
 | _ => false
theorem View.arg {ρ : Plc} {σ : Heap} (h : View w ρ σ) {n : Nat} {k : Kind} {t : TypeId} {v : Value} {d : DataW H} {p : List MemPlace} (hk : KTy P n k t = true) (hl : k.lev1 = true) (ha : isAgg P t = !k.one) (hok : Value.okWide P w r base t v) (hd : DataW.Trod enc P w 0 (fun _ => true) true t v d p) :
  ∃ ρ' σ' vv x, View w ρ' σ' ∧ More ρ σ ρ' σ' ∧ VRel ρ' σ'.n vv v ∧ KV σ' k x vv ∧ KWf k x := by
 obtain ⟨fuel, hd⟩ := hd
 by_cases hagg : isAgg P t = true
 ·have hone : k.one = false := by rw [hagg] at ha; simpa using ha.symm
  have : ∃ cs, v = .agg cs ∧ cs.size = P.cellsOf t ∧ Row.okWide P w r base t cs := by
   unfold isAgg at hagg
   unfold Value.okWide at hok
   split at hagg <;> first | (cases hagg; done) | skip
   ·rename_i hu; rw [hu] at hok; exact hok
   ·rename_i hu; rw [hu] at hok; exact hok
  obtain ⟨cs, rfl, hsz, ts, hts, _, hcells⟩ := this
  have hlen := KTy_len hk hts
  have hcs : P.cellsOf t = k.size := by
   unfold isAgg at hagg
   cases n with
   | zero => cases hk
   | succ n =>
    unfold KTy at hk
    split at hagg <;> first | (cases hagg; done) | skip
    all_goals
     rename_i hu
     rw [hu] at hk
     simp only [Bool.and_eq_true, beq_iff_eq] at hk
     exact hk.1
  have hokc : okc P w r base ts cs.toList := fun i v u h1 h2 => by
   have hi : i < ts.length := (List.getElem?_eq_some_iff.1 h2).1
   obtain ⟨u', h3, h4⟩ := hcells i v (by simpa using h1)
   rw [Nat.mod_eq_of_lt hi] at h3
   obtain rfl := Option.some.inj (h2.symm.trans h3)
   exact h4
  obtain ⟨ρ', σ', vs, x, k1, k2, k3, k4, k5⟩ := KTy_read hk hl hts hokc (show DataW.trod enc P w 0 _ true fuel t cs.toList = _ from hd) ρ σ h
  exact ⟨ρ', σ', .agg vs.toArray, x, k1, k2, VRel.agg_of (ds := cs.toList) k3, .inr ⟨hone, vs, rfl, k4⟩, k5⟩
 ·have hone : k.one = true := by
   have : isAgg P t = false := by simpa using hagg
   rw [this] at ha; simpa using ha.symm
  have hsize := Kind.one_size hone
  have hcell : Cell.okWide P w r base t v ∧ v.cells.toList = [v] := by
   have h1 : isAgg P t = false := by simpa using hagg
   unfold isAgg at h1
   have h2 : Cell.okWide P w r base t v := by
    unfold Value.okWide at hok
    split at hok
    ·rename_i hu; rw [hu] at h1; cases h1
    ·rename_i hu; rw [hu] at h1; cases h1
    ·exact hok
   refine ⟨h2, ?_⟩
   cases v <;> first | rfl | skip
   all_goals
    exfalso
    cases n with
    | zero => cases hk
    | succ n =>
     unfold KTy at hk
     unfold Cell.okWide Cell.ok at h2
     cases hu : P.underlying t with
     | none => rw [hu] at hk; cases hk
     | some u =>
      rw [hu] at hk h2 h1
      cases u <;> first | (cases hk; done) | (cases h1; done) | (cases h2; done) | (simp at h2; done)
  have hts : P.cellTypes 1 t = some [t] := by
   have h1 : isAgg P t = false := by simpa using hagg
   unfold isAgg at h1
   unfold Program.cellTypes
   cases n with
   | zero => cases hk
   | succ n =>
    unfold KTy at hk
    cases hu : P.underlying t with
    | none => rw [hu] at hk; cases hk
    | some u =>
     rw [hu] at h1
     cases u <;> first | rfl | (cases h1; done)
  rw [hcell.2] at hd
  have hokc : okc P w r base [t] [v] := fun i v' u h1 h2 => by
   cases i with
   | zero => cases h1; cases h2; exact hcell.1
   | succ i => simp at h1
  obtain ⟨ρ', σ', vs, x, k1, k2, k3, k4, k5⟩ := KTy_read hk hl hts hokc hd ρ σ h
  have : vs.length = 1 := by rw [KC.length k4]; exact hsize
  obtain ⟨vv, rfl⟩ := List.length_eq_one_iff.1 this
  exact ⟨ρ', σ', vv, x, k1, k2, k3.2 0 _ _ rfl rfl, .inl ⟨hone, k4⟩, k5⟩
def AWf : (ks : List Kind) → AT ks → Prop
 | [], _ => True
 | [k], x => KWf k x
 | k :: k' :: ks, x => KWf k x.1 ∧ AWf (k' :: ks) x.2
def ktys (P : Program) : List Kind → List TypeId → Bool
 | [], [] => true
 | k :: ks, t :: ts => (KTy P 8 k t && (k.lev1 && (isAgg P t == !k.one))) && ktys P ks ts
 | _, _ => false
theorem View.args : ∀ {ks : List Kind} {ts : List TypeId} {vs : List Value} {ds : List (DataW H)} {ps : List MemPlace} {ρ : Plc} {σ : Heap}, View w ρ σ → ktys P ks ts = true → (∀ (j : Nat) t v, ts[j]? = some t → vs[j]? = some v → Value.okWide P w r base t v) → DataW.TrodAll enc P w 0 (fun _ => true) true ts vs ds ps →
  ∃ ρ' σ' vvs x, View w ρ' σ' ∧ More ρ σ ρ' σ' ∧ LRel ρ' σ'.n vvs vs ∧ atVals σ' ks x vvs ∧ AWf ks x
 | [], [], vs, ds, ps, ρ, σ, h, _, _, hA => by
  obtain ⟨rfl, rfl, rfl⟩ := trodAll_nil hA
  exact ⟨ρ, σ, [], (), h, More.refl _ _, .nil _ _, rfl, trivial⟩
 | [k], [t], vs, ds, ps, ρ, σ, h, hk, hv, hA => by
  obtain ⟨v, vs', d, ds', p, q, rfl, rfl, rfl, h1, h2⟩ := trodAll_cons hA
  obtain ⟨rfl, rfl, rfl⟩ := trodAll_nil h2
  simp only [ktys, Bool.and_eq_true, beq_iff_eq] at hk
  obtain ⟨ρ', σ', vv, x, k1, k2, k3, k4, k5⟩ := h.arg hk.1.1 hk.1.2.1 hk.1.2.2 (hv 0 t v rfl rfl) h1
  exact ⟨ρ', σ', [vv], x, k1, k2, .one k3, ⟨vv, rfl, k4⟩, k5⟩
 | k :: k' :: ks, t :: ts, vs, ds, ps, ρ, σ, h, hk, hv, hA => by
  obtain ⟨v, vs', d, ds', p, q, rfl, rfl, rfl, h1, h2⟩ := trodAll_cons hA
  simp only [ktys, Bool.and_eq_true, beq_iff_eq] at hk
  obtain ⟨ρ1, σ1, vv, x, k1, k2, k3, k4, k5⟩ := h.arg hk.1.1 hk.1.2.1 hk.1.2.2 (hv 0 t v rfl rfl) h1
  obtain ⟨ρ2, σ2, vvs, y, m1, m2, m3, m4, m5⟩ := k1.args (ks := k' :: ks) hk.2 (fun j t v h1 h2 => hv (j + 1) t v h1 h2) h2
  exact ⟨ρ2, σ2, vv :: vvs, (x, y), m1, k2.trans m2, .cons (k3.mono m2.n m2.pl) m3, ⟨vv, vvs, rfl, k4.vcall m2.le, m4⟩, k5, m5⟩
 | [], _ :: _, _, _, _, _, _, _, hk, _, _ | _ :: _, [], _, _, _, _, _, _, hk, _, _ | [_], _ :: _ :: _, _, _, _, _, _, _, hk, _, _ => by simp [ktys] at hk
theorem law_calls {f : Nat} {sp : CSp} (hsp : OkC P f sp) (he : Enterable P f) {ks : List Kind} {ts : List TypeId} {args : Array Value} {ds : List (DataW H)} {ps : List MemPlace} (hk : ktys P ks ts = true)
  (hv : ∀ (j : Nat) t v, ts[j]? = some t → args.toList[j]? = some v → Value.okWide P w r base t v) (hA : DataW.TrodAll enc P w 0 (fun _ => true) true ts args.toList ds ps)
  (hs : ∀ x : AT ks, AWf ks x → ∃ c, sp (fun _ _ => none) (atSVs ks x) = some (c, .val .bo true, []) ∧ c) : Calls P f args w fun e w' => e = .returned (.bool true) ∧ Below w.heap.size w w' := by
 obtain ⟨ρ, σ, vvs, x, k1, k2, k3, k4, k5⟩ := (View.empty w).args hk hv hA
 obtain ⟨c, h1, h2⟩ := hs x k5
 exact k1.calls k3 (hsp.true he (atSVs_sound k4) h1 h2)
end
end Go.V
namespace Go.V
open Go
theorem trodAll_len {H : Type} {enc : TypeId × Value → H} {P : Program} {w : World} {b : Nat} {sp : Nat → Bool} {hd : Bool} : ∀ {ts : List TypeId} {vs : List Value} {ds : List (DataW H)} {ps : List MemPlace}, DataW.TrodAll enc P w b sp hd ts vs ds ps → ds.length = ts.length
 | [], [], [], _, _ => rfl
 | t :: ts, v :: vs, d :: ds, ps, h => by
  obtain ⟨p, q, _, h2, _⟩ := h
  simp [trodAll_len h2]
 | [], [], _ :: _, _, h | [], _ :: _, _, _, h | _ :: _, [], _, _, h | _ :: _, _ :: _, [], _, h => h.elim
end Go.V
namespace Go.Proofs.Tryd
open Go Go.V
noncomputable def tabL : List (Option FEnt) := [
 none,
 none,
 some (.code c2 [] 1),
 some (.code c3 [.tmp 4] 79),
 some (.code c4 [.tmp 2] 114),
 some (.code c5 [.tmp 2] 167),
 some (.code c6 [.tmp 4] 270),
 some (.code c7 [.tmp 4] 232),
 some (.code c8 [.tmp 2] 434),
 some (.code c9 [.tmp 6] 235),
 some (.code c10 [.tmp 4] 380),
 some (.code c11 [.tmp 6] 22),
 some (.code c12 [.tmp 0] 240),
 some (.code c13 [.cell 2 true 2] 9),
 some (.code c14 [.tmp 2] 6),
 some (.codeJ c15 [.cell 4 false 1, .tmp 5, .tmp 6] 86),
 some (.code c16 [.tmp 4] 38),
 some (.code c17 [.tmp 4] 26),
 some (.code c18 [.tmp 4] 34),
 some (.code c19 [.tmp 4, .tmp 5] 125),
 some (.code c20 [.tmp 2] 19),
 some (.code c21 [.tmp 2] 22),
 some (.codeJ c22 [.tmp 2, .tmp 3] 40),
 some (.codeJ c23 [.tmp 2, .tmp 3] 75),
 some (.codeJ c24 [.tmp 2, .tmp 3] 55),
 some (.code c25 [.tmp 2, .tmp 3] 87),
 some (.code c26 [.tmp 2] 27),
 some (.code c27 [.tmp 2, .tmp 3] 52),
 some (.code c28 [.tmp 8] 67),
 some (.code c29 [.tmp 6] 15),
 some (.code c30 [.tmp 6] 32),
 some (.code c31 [.cell 2 true 2] 48),
 some (.code c32 [.cell 2 true 2] 51),
 some (.code c33 [.tmp 4] 40),
 some (.codeJ c34 [.tmp 6, .tmp 7] 61),
 some (.code c35 [.cell 2 true 2] 9),
 some (.code c36 [.tmp 4, .tmp 5] 43),
 some (.codeJ c37 [.tmp 4, .tmp 5] 31),
 some (.code c38 [.tmp 4] 26),
 some (.codeJ c39 [.tmp 6, .tmp 7, .tmp 8] 97),
 some (.code c40 [.tmp 2] 6),
 some (.code c41 [.tmp 4] 67),
 some (.codeJ c42 [.tmp 6, .tmp 7, .tmp 8] 106),
 some (.codeJ c43 [.tmp 6, .tmp 7] 50),
 some (.code c44 [.cell 0 true 2] 3),
 some (.code c45 [.tmp 4] 26),
 some (.code c46 [.tmp 2] 8),
 some (.code c47 [.tmp 2] 4),
 some (.code c48 [.tmp 4] 28),
 some (.code c49 [] 28),
 some (.code c50 [.tmp 2] 33),
 some (.code c51 [.tmp 6] 28),
 some (.code c52 [.tmp 2] 11),
 some (.code c53 [.tmp 2] 22),
 some (.code c54 [.tmp 4] 10),
 some (.code c55 [.tmp 4] 9),
 some (.code c56 [.tmp 4] 48),
 some (.code c57 [.tmp 2] 7),
 some (.code c58 [.tmp 4] 40),
 some (.code c59 [.tmp 6] 34),
 some (.code c60 [.tmp 4] 19),
 some (.code c61 [.tmp 3] 8),
 some (.code c62 [.tmp 2] 27),
 some (.code c63 [.tmp 2] 28),
 some (.code c64 [.tmp 4] 22),
 some (.code c65 [.tmp 3] 20),
 some (.code c66 [.tmp 6] 11),
 some (.code c67 [.tmp 4] 22),
 some (.code c68 [.tmp 4] 9),
 some (.code c69 [.tmp 4] 48),
 some (.code c70 [.tmp 4] 48),
 some (.code c71 [.cell 6 true 4, .tmp 7] 50),
 some (.codeJ c72 [.tmp 2, .tmp 3] 46),
 some (.code c73 [.tmp 4] 16),
 some (.code c74 [.tmp 9] 45),
 some (.code c75 [] 19),
 some (.code c76 [.tmp 6] 15),
 some (.code c77 [.tmp 2] 4),
 some (.code c78 [.tmp 2] 25),
 some (.code c79 [.tmp 6] 11),
 some (.code c80 [.tmp 6] 11),
 some (.code c81 [.tmp 4] 17),
 some (.code c82 [.tmp 2] 4),
 some (.code c83 [.tmp 6] 17),
 some (.code c84 [.tmp 2] 14),
 some (.code c85 [.tmp 4] 9),
 some (.code c86 [.tmp 4] 13),
 some (.code c87 [.tmp 4] 19),
 some (.code c88 [.tmp 4, .tmp 5] 30),
 some (.code c89 [.tmp 3] 15),
 some (.code c90 [.tmp 4] 43),
 some (.code c91 [.tmp 4] 9),
 some (.code c92 [.tmp 4] 30),
 some (.code c93 [] 19),
 some (.code c94 [.tmp 4] 13),
 some (.code c95 [.tmp 4] 13),
 some (.code c96 [] 20),
 some (.code c97 [.tmp 4] 19),
 some (.code c98 [.tmp 4, .tmp 5] 17),
 some (.code c99 [.tmp 4, .tmp 5] 51),
 some (.code c100 [.tmp 4] 17),
 some (.code c101 [.tmp 4] 23),
 some (.code c102 [.cell 2 true 256, .tmp 3] 21),
 some (.code c103 [.tmp 4] 16),
 some (.code c104 [.tmp 4] 22),
 some (.code c105 [.tmp 4] 23),
 some (.code c106 [.tmp 4] 34),
 some (.code c107 [.tmp 4] 19),
 some .same,
 some (.code c109 [.tmp 4] 10),
 some (.code c110 [.tmp 2, .tmp 3] 19),
 some (.code c111 [.tmp 4] 9),
 some (.code c112 [.tmp 2, .tmp 3] 51),
 some (.code c113 [.tmp 2, .tmp 3] 117),
 some (.code c114 [.tmp 4] 187),
 some (.code c115 [.tmp 2] 6),
 some (.code c116 [.tmp 4] 8),
 some (.code c117 [.tmp 2] 17),
 some (.code c118 [.tmp 2] 6),
 none,
 some (.code c120 [.tmp 4] 8)]
noncomputable def tab : Tab := fun f => (tabL[f]?).join
theorem tabL_ok : EntsOk Tryd.prog 0 tabL := ⟨trivial, trivial, fun2, fun3, fun4, fun5, fun6, fun7, fun8, fun9, fun10, fun11, fun12, fun13, fun14, fun15, fun16, fun17, fun18, fun19, fun20, fun21, fun22, fun23, fun24, fun25, fun26, fun27, fun28, fun29, fun30, fun31, fun32, fun33, fun34, fun35, fun36, fun37, fun38, fun39, fun40, fun41, fun42, fun43, fun44, fun45, fun46, fun47, fun48, fun49, fun50, fun51, fun52, fun53, fun54, fun55, fun56, fun57, fun58, fun59, fun60, fun61, fun62, fun63, fun64, fun65, fun66, fun67, fun68, fun69, fun70, fun71, fun72, fun73, fun74, fun75, fun76, fun77, fun78, fun79, fun80, fun81, fun82, fun83, fun84, fun85, fun86, fun87, fun88, fun89, fun90, fun91, fun92, fun93, fun94, fun95, fun96, fun97, fun98, fun99, fun100, fun101, fun102, fun103, fun104, fun105, fun106, fun107, same108, fun109, fun110, fun111, fun112, fun113, fun114, fun115, fun116, fun117, fun118, trivial, fun120, trivial⟩
theorem tab_ok : TabOk Tryd.prog tab := tabOk_of tabL_ok
theorem known_run : veval tab 300 boolOps [] c12 none (ET.of [] 240) CH.empty (eend false [.tmp 0] fun v _ => isTrue v) = true := by kernel_rfl
theorem known_ok {σ : Heap} {K : Value → Heap → Prop} (hK : K (.bool true) σ) : VCalled Tryd.prog 12 [] σ K := run_true mixed tab_ok 300 fun12 (by decide) known_run hK
end Go.Proofs.Tryd
set_option linter.unusedVariables false
namespace Go.Proofs.Tryd
open Go Go.V Go.Proofs
def al_law11_known : AL (Unit) := .nil
def pre_law11_known (d : Unit) : Prop := True
def res_law11_known (d : Unit) : SV := .val .bo true
def obs_law11_known (d : Unit) : List OB := []
def s_law11_known : CSp := mkSp al_law11_known pre_law11_known res_law11_known obs_law11_known
abbrev Ok_law11_known : Prop := OkC Tryd.prog 12 s_law11_known
theorem ok_law11_known : Ok_law11_known := okC_true fun _ _ h => known_ok h
end Go.Proofs.Tryd
set_option linter.unusedVariables false
namespace Go.Proofs.Tryd
open Go Go.V Go.Proofs
def st (lw l : List Int) (w k : Nat) : Bool := isRight lw l w && (List.range k).all fun j => decide (j ≤ w) || (l.getD j 0 != l.getD w 0 || !isRight lw l j)
theorem aget_cons (a : Int) (b : Bool) (m : List (Int × Bool)) (e : Int) (d : Bool) : gq.aget (.i .i64) ((a, b) :: m) e d = if e = a then b else gq.aget (.i .i64) m e d := by
 show (if (e == a) = true then b else gq.aget (.i .i64) m e d) = _
 simp only [beq_iff_eq]
theorem aput_cons (a : Int) (b : Bool) (m : List (Int × Bool)) (k : Int) (v : Bool) : aput (.i .i64) ((a, b) :: m) k v = if k = a then (k, v) :: m else (a, b) :: aput (.i .i64) m k v := by
 show (if (k == a) = true then (k, v) :: m else (a, b) :: aput (.i .i64) m k v) = _
 simp only [beq_iff_eq]
theorem eyeErr_zero {hk : Int} {lw l : List Int} (h : eyeErr hk lw l = 0) : l.length = lw.length ∧ lw.length ≠ 0 ∧ ∀ x ∈ l, -1 ≤ x ∧ x < lw.length := by
 unfold eyeErr at h
 split at h
 ·contradiction
 ·rename_i ht
  split at h
  ·cases h
  ·rename_i hl
   split at h
   ·cases h
   ·rename_i ha
    have ht : tieErr hk lw = 0 := by simpa using ht
    refine ⟨by simpa using hl, fun h0 => ?_, fun x hx => ?_⟩
    ·unfold tieErr at ht
     split at ht
     ·cases ht
     ·split at ht
      ·cases ht
      ·first | omega | (rw [if_pos h0] at ht; omega)
    ·have := List.any_eq_false.1 (Bool.eq_false_iff.2 ha) x hx
     simp [inI] at this; omega
end Go.Proofs.Tryd
set_option linter.unusedVariables false
namespace Go.Proofs.Tryd
open Go Go.V Go.Proofs
def rowOk (r : List (Int × Int)) : Prop := r ≠ [] ∧ r.Pairwise fun x y => x.1 < y.1 ∧ x.2 < y.2
structure LayI (t : List (Int × Int)) (G : List (List (Int × Int))) : Prop where
 rows : ∀ r ∈ G, rowOk r
 perm : G.flatten.Perm t
 heads : (G.map fun r => r.headD (0, 0)).Pairwise fun x y => x.1 < y.1
 chain : ∀ i (h : i < G.length), ∃ C : List (Int × Int), C.length = i ∧ (C ++ [G[i].getLastD (0, 0)]).Sublist t ∧ (C ++ [G[i].getLastD (0, 0)]).Pairwise fun x y => x.2 ≥ y.2
theorem rowOk_last {r : List (Int × Int)} (h : rowOk r) {x : Int × Int} (hx : x ∈ r) : x.2 ≤ (r.getLastD (0, 0)).2 := by
 obtain ⟨h1, h2⟩ := h
 rw [List.getLastD_eq_getLast?, List.getLast?_eq_some_getLast h1]
 rw [← List.dropLast_concat_getLast h1] at hx h2
 rcases List.mem_append.1 hx with hx | hx
 ·have := (List.pairwise_append.1 h2).2.2 x hx _ (List.mem_singleton.2 rfl)
  simp only [Option.getD_some]; omega
 ·rw [List.mem_singleton.1 hx]; simp
theorem rowOk_snoc {r : List (Int × Int)} (h : rowOk r) {a : Int × Int} (h1 : ∀ x ∈ r, x.1 < a.1) (h2 : (r.getLastD (0, 0)).2 < a.2) : rowOk (r ++ [a]) := by
 refine ⟨by simp, List.pairwise_append.2 ⟨h.2, by simp, fun x hx y hy => ?_⟩⟩
 rw [List.mem_singleton.1 hy]
 have := rowOk_last h hx
 exact ⟨h1 x hx, by omega⟩
theorem flatten_set {α : Type} : ∀ {G : List (List α)} {i : Nat} {r : List α} {a : α}, i < G.length → r = G.getD i [] → (G.set i (r ++ [a])).flatten.Perm (G.flatten ++ [a])
 | g :: G, 0, r, a, _, hr => by
  simp only [List.getD_cons_zero] at hr
  subst hr
  simp only [List.set_cons_zero, List.flatten_cons, List.append_assoc]
  exact List.Perm.append_left _ List.perm_append_comm
 | g :: G, i + 1, r, a, h, hr => by
  simp only [List.getD_cons_succ] at hr
  simp only [List.set_cons_succ, List.flatten_cons, List.append_assoc]
  exact List.Perm.append_left _ (flatten_set (by simpa using h) hr)
theorem getLastD_snoc {α : Type} (r : List α) (a d : α) : (r ++ [a]).getLastD d = a := by simp
theorem headD_snoc {α : Type} {r : List α} (h : r ≠ []) (a d : α) : (r ++ [a]).headD d = r.headD d := by
 cases r with
 | nil => exact absurd rfl h
 | cons x r => rfl
theorem layI_step {t : List (Int × Int)} {G : List (List (Int × Int))} (hI : LayI t G) {a : Int × Int} (ha : ∀ x ∈ t, x.1 < a.1) :
  ∃ G', LayI (t ++ [a]) G' ∧ layStep (G.map (·.map Prod.fst), G.map fun r => r.getLastD (0, 0)) a = (G'.map (·.map Prod.fst), G'.map fun r => r.getLastD (0, 0)) ∧
   ∃ i, i ≤ G.length ∧ G'.map (·.map Prod.fst) = putG (G.map (·.map Prod.fst)) i a.1 ∧ rowOk (G'.getD i []) := by
 have hin : ∀ r ∈ G, ∀ x ∈ r, x.1 < a.1 := fun r hr x hx => ha x (hI.perm.mem_iff.1 (List.mem_flatten.2 ⟨r, hr, hx⟩))
 rcases idxG_cases (G.map fun r => r.getLastD (0, 0)) (fun x => !(decide (x.2 ≥ a.2))) with ⟨h, _⟩ | ⟨i, hi, h, _⟩
 ·have hge : ∀ r ∈ G, (r.getLastD (0, 0)).2 ≥ a.2 := fun r hr => by
   have := List.findIdx?_eq_none_iff.1 h _ (List.mem_map.2 ⟨r, hr, rfl⟩)
   simpa using this
  refine ⟨G ++ [[a]], ⟨fun r hr => ?_, ?_, ?_, fun i hi => ?_⟩, ?_, G.length, Nat.le_refl _, ?_, ?_⟩
  ·rcases List.mem_append.1 hr with hr | hr
   ·exact hI.rows r hr
   ·rw [List.mem_singleton.1 hr]; exact ⟨by simp, by simp⟩
  ·rw [List.flatten_append]; exact (hI.perm.append_right _).trans (by simp)
  ·rw [List.map_append]
   refine List.pairwise_append.2 ⟨hI.heads, by simp, fun x hx y hy => ?_⟩
   obtain ⟨r, hr, rfl⟩ := List.mem_map.1 hx
   simp at hy; subst hy
   have hne := (hI.rows r hr).1
   cases r with
   | nil => exact absurd rfl hne
   | cons b r => exact hin _ hr b (by simp)
  ·by_cases hlt : i < G.length
   ·obtain ⟨C, c1, c2, c3⟩ := hI.chain i hlt
    refine ⟨C, c1, ?_, ?_⟩
    ·rw [List.getElem_append_left hlt]; exact c2.trans (List.sublist_append_left _ _)
    ·rw [List.getElem_append_left hlt]; exact c3
   ·have e : i = G.length := by simp at hi; omega
    subst e
    simp only [List.getElem_concat_length]
    cases hG : G.length with
    | zero => exact ⟨[], rfl, by simp, by simp⟩
    | succ n =>
     have hn : n < G.length := by omega
     obtain ⟨C, c1, c2, c3⟩ := hI.chain n hn
     refine ⟨C ++ [G[n].getLastD (0, 0)], by simp [c1], List.Sublist.append c2 (List.Sublist.refl _), List.pairwise_append.2 ⟨c3, by simp, fun x hx y hy => ?_⟩⟩
     rw [List.mem_singleton.1 hy]
     have hg := hge _ (List.getElem_mem hn)
     rcases List.mem_append.1 hx with hx | hx
     ·have := (List.pairwise_append.1 c3).2.2 x hx _ (List.mem_singleton.2 rfl)
      show x.2 ≥ a.2
      omega
     ·rw [List.mem_singleton.1 hx]; exact hg
  ·rw [layStep_none h]; simp
  ·simp [putG]
  ·simp only [List.getD_eq_getElem?_getD, List.getElem?_concat_length, Option.getD_some]; exact ⟨by simp, by simp⟩
 ·obtain ⟨hi2, hlt2, hbef⟩ := List.findIdx?_eq_some_iff_getElem.1 h
  have hi : i < G.length := by simpa using hi
  have hlt : (G[i].getLastD (0, 0)).2 < a.2 := by simpa using hlt2
  have hrow := hI.rows _ (List.getElem_mem hi)
  have hnew : rowOk (G[i] ++ [a]) := rowOk_snoc hrow (hin _ (List.getElem_mem hi)) hlt
  refine ⟨G.set i (G[i] ++ [a]), ⟨fun r hr => ?_, ?_, ?_, fun j hj => ?_⟩, ?_, i, by omega, ?_, ?_⟩
  ·rcases List.mem_or_eq_of_mem_set hr with hr | hr
   ·exact hI.rows r hr
   ·rw [hr]; exact hnew
  ·exact (flatten_set hi (by rw [getD_nat hi])).trans (hI.perm.append_right _)
  ·have : (G.set i (G[i] ++ [a])).map (fun r => r.headD (0, 0)) = G.map fun r => r.headD (0, 0) := by
    rw [List.map_set, headD_snoc hrow.1]
    apply List.ext_getElem (by simp)
    intro k h1 h2
    rw [List.getElem_set]
    split
    ·rename_i e; subst e; simp
    ·rfl
   rw [this]; exact hI.heads
  ·have hj' : j < G.length := by simpa using hj
   rw [List.getElem_set]
   split
   ·rename_i e
    subst e
    rw [getLastD_snoc]
    cases i with
    | zero => exact ⟨[], rfl, by simp, by simp⟩
    | succ n =>
     have hn : n < G.length := by omega
     obtain ⟨C, c1, c2, c3⟩ := hI.chain n hn
     refine ⟨C ++ [G[n].getLastD (0, 0)], by simp [c1], List.Sublist.append c2 (List.Sublist.refl _), List.pairwise_append.2 ⟨c3, by simp, fun x hx y hy => ?_⟩⟩
     rw [List.mem_singleton.1 hy]
     have hg : (G[n].getLastD (0, 0)).2 ≥ a.2 := by
      have := hbef n (by omega)
      simpa using this
     rcases List.mem_append.1 hx with hx | hx
     ·have := (List.pairwise_append.1 c3).2.2 x hx _ (List.mem_singleton.2 rfl)
      omega
     ·rw [List.mem_singleton.1 hx]; exact hg
   ·obtain ⟨C, c1, c2, c3⟩ := hI.chain j hj'
    exact ⟨C, c1, c2.trans (List.sublist_append_left _ _), c3⟩
  ·rw [layStep_some h]
   refine Prod.ext ?_ ?_
   ·simp only [List.map_set, List.map_append, List.map_cons, List.map_nil]
    congr 1
    simp [List.getD_eq_getElem?_getD, hi]
   ·simp only [List.map_set, getLastD_snoc]
  ·have hne : ¬ i = G.length := by omega
   simp only [putG, List.length_map, if_neg hne, List.map_set, List.map_append, List.map_cons, List.map_nil]
   congr 1
   simp [List.getD_eq_getElem?_getD, hi]
  ·rw [List.getD_eq_getElem?_getD, List.getElem?_set_self hi]; exact hnew
theorem layI_nil : LayI [] [] := ⟨fun r hr => (by cases hr), List.Perm.refl _, List.Pairwise.nil, fun i h => absurd h (Nat.not_lt_zero i)⟩
theorem layF_I : ∀ (t : List (Int × Int)), t.Pairwise (fun x y => x.1 < y.1) → ∃ G, LayI t G ∧ layF t = (G.map (·.map Prod.fst), G.map fun r => r.getLastD (0, 0)) := by
 intro t
 induction h : t.length generalizing t with
 | zero => intro _; obtain rfl := List.length_eq_zero_iff.1 h; exact ⟨[], layI_nil, rfl⟩
 | succ n ih =>
  intro ht
  have hne : t ≠ [] := by rintro rfl; simp at h
  rw [← List.dropLast_concat_getLast hne] at ht ⊢
  obtain ⟨h1, _, h3⟩ := List.pairwise_append.1 ht
  obtain ⟨G, hI, hG⟩ := ih t.dropLast (by simp [h]) h1
  obtain ⟨G', k1, k2, _⟩ := layI_step hI (a := t.getLast hne) fun x hx => h3 x hx _ (List.mem_singleton.2 rfl)
  exact ⟨G', k1, by rw [layF_snoc, hG, k2]⟩
theorem fold_min_le {α : Type} {f : α → Int} {v : α → Bool} : ∀ (L : List α) (b : Int), L.foldl (fun b i => if v i then gmin b (f i) else b) b ≤ b ∧ ∀ i ∈ L, v i = true → L.foldl (fun b i => if v i then gmin b (f i) else b) b ≤ f i
 | [], b => ⟨Int.le_refl _, fun i hi => by cases hi⟩
 | x :: L, b => by
  rw [List.foldl_cons]
  obtain ⟨h1, h2⟩ := fold_min_le (f := f) (v := v) L (if v x then gmin b (f x) else b)
  have hb : (if v x then gmin b (f x) else b) ≤ b := by
   split
   ·simp only [gmin]; split <;> omega
   ·omega
  refine ⟨by omega, fun i hi hv => ?_⟩
  rcases List.mem_cons.1 hi with rfl | hi
  ·rw [if_pos hv] at h1
   rw [if_pos hv]
   have : gmin b (f i) ≤ f i := by simp only [gmin]; split <;> omega
   omega
  ·exact h2 i hi hv
theorem fold_min_ge {α : Type} {f : α → Int} {v : α → Bool} {c : Int} : ∀ (L : List α) (b : Int), c ≤ b → (∀ i ∈ L, v i = true → c ≤ f i) → c ≤ L.foldl (fun b i => if v i then gmin b (f i) else b) b
 | [], b, hb, _ => hb
 | x :: L, b, hb, h => by
  rw [List.foldl_cons]
  refine fold_min_ge L _ ?_ fun i hi => h i (List.mem_cons_of_mem _ hi)
  split
  ·rename_i hv
   have := h x List.mem_cons_self hv
   simp only [gmin]; split <;> omega
  ·exact hb
theorem nodup_lenG {α : Type} [DecidableEq α] : ∀ {l m : List α}, l.Nodup → (∀ x ∈ l, x ∈ m) → l.length ≤ m.length
 | [], m, _, _ => Nat.zero_le _
 | x :: l, m, hn, hs => by
  have hx := hs x List.mem_cons_self
  rw [List.nodup_cons] at hn
  have := nodup_lenG (l := l) (m := m.erase x) hn.2 fun y hy => (List.mem_erase_of_ne (by rintro rfl; exact hn.1 hy)).2 (hs y (List.mem_cons_of_mem _ hy))
  rw [List.length_erase_of_mem hx] at this
  have := List.length_pos_of_mem hx
  simp only [List.length_cons]; omega
theorem layR_greedy {l : List Int} (n : Nat) : ∀ (r t : List (Int × Int)) (G : List (List (Int × Int))), LayI t G → (t ++ r).Pairwise (fun x y => x.1 < y.1) → (∀ s : List (Int × Int), (∀ x ∈ s, x ∈ t ++ r) → rowOk s → eachB l (s.map Prod.fst) false = true) →
  layR l n (r.map Prod.fst) (G.map (·.map Prod.fst)) ≤ (r.foldl layStep (G.map (·.map Prod.fst), G.map fun r => r.getLastD (0, 0))).1.length
 | [], t, G, _, _, _ => by simp [layR]
 | a :: r, t, G, hI, ht, hv => by
  obtain ⟨G', k1, k2, i, k3, k4, k5⟩ := layI_step hI (a := a) fun x hx => (List.pairwise_append.1 ht).2.2 x hx a List.mem_cons_self
  rw [List.foldl_cons, k2]
  have e : t ++ a :: r = (t ++ [a]) ++ r := by simp
  rw [e] at ht hv
  have ih := layR_greedy (l := l) n r (t ++ [a]) G' k1 ht hv
  rw [List.map_cons, layR_fold, List.length_map]
  refine Int.le_trans ((fold_min_le (f := fun i => layR l n (r.map Prod.fst) (putG (G.map (·.map Prod.fst)) i a.1)) (v := fun i => eachB l ((putG (G.map (·.map Prod.fst)) i a.1).getD i []) false) (List.range (G.length + 1)) _).2 i (List.mem_range.2 (by omega)) ?_) ?_
  ·rw [← k4]
   have hi : i < G'.length := by
    have := congrArg List.length k4
    rw [putG_len] at this
    simp only [List.length_map] at this
    split at this <;> omega
   have e2 : (G'.map (·.map Prod.fst)).getD i [] = (G'.getD i []).map Prod.fst := by simp [List.getD_eq_getElem?_getD, hi]
   rw [e2]
   refine hv _ (fun x hx => List.mem_append_left _ (k1.perm.mem_iff.1 (List.mem_flatten.2 ⟨_, ?_, hx⟩))) k5
   rw [getD_nat hi]; exact List.getElem_mem hi
  ·rw [← k4]; exact ih
theorem layR_lower {l : List Int} {n : Nat} {C : List Int} (hC : C.Nodup) (hx : ∀ x ∈ C, ∀ y ∈ C, x ≠ y → crossB l x y = true) (hn : C.length ≤ n + 1) : ∀ (r : List Int) (g : List (List Int)), (∀ s ∈ g, eachB l s false = true) → (∀ x ∈ C, x ∈ g.flatten ++ r) → (C.length : Int) ≤ layR l n r g
 | [], g, hg, hs => by
  simp only [layR]
  have hidx : ∀ x ∈ C, ∃ i, i < g.length ∧ x ∈ g.getD i [] := fun x hxC => by
   have := hs x hxC
   rw [List.append_nil] at this
   obtain ⟨s, hs1, hs2⟩ := List.mem_flatten.1 this
   obtain ⟨i, hi, rfl⟩ := List.mem_iff_getElem.1 hs1
   exact ⟨i, hi, by rw [getD_nat hi]; exact hs2⟩
  have key : ∀ (D : List Int), D.Nodup → (∀ x ∈ D, x ∈ C) → ∃ L : List Nat, L.length = D.length ∧ L.Nodup ∧ (∀ i ∈ L, i < g.length) ∧ ∀ i ∈ L, ∃ x ∈ D, x ∈ g.getD i [] := fun D => by
   induction D with
   | nil => exact fun _ _ => ⟨[], rfl, List.nodup_nil, fun i hi => (by cases hi), fun i hi => (by cases hi)⟩
   | cons x D ih =>
    intro hnd hsub
    rw [List.nodup_cons] at hnd
    obtain ⟨L, h1, h2, h3, h4⟩ := ih hnd.2 fun y hy => hsub y (List.mem_cons_of_mem _ hy)
    obtain ⟨i, hi, hxi⟩ := hidx x (hsub x List.mem_cons_self)
    refine ⟨i :: L, by simp [h1], List.nodup_cons.2 ⟨fun hm => ?_, h2⟩, fun j hj => ?_, fun j hj => ?_⟩
    ·obtain ⟨y, hy, hyi⟩ := h4 i hm
     have hne : x ≠ y := fun e => hnd.1 (e ▸ hy)
     have hc := hx x (hsub x List.mem_cons_self) y (hsub y (List.mem_cons_of_mem _ hy)) hne
     have he := hg _ (List.getElem_mem hi)
     rw [getD_nat hi] at hxi hyi
     obtain ⟨p, hp, rfl⟩ := List.mem_iff_getElem.1 hxi
     obtain ⟨q, hq, rfl⟩ := List.mem_iff_getElem.1 hyi
     have hpq : p ≠ q := fun e => hne (by subst e; rfl)
     simp only [eachB, List.all_eq_true, List.mem_range] at he
     rcases Nat.lt_or_ge q p with hlt | hge
     ·have := he p hp q hlt
      rw [getD_nat hp, getD_nat hq, hc] at this
      cases this
     ·have := he q hq p (by omega)
      rw [getD_nat hp, getD_nat hq, cross_comm, hc] at this
      cases this
    ·rcases List.mem_cons.1 hj with rfl | hj
     ·exact hi
     ·exact h3 j hj
    ·rcases List.mem_cons.1 hj with rfl | hj
     ·exact ⟨x, List.mem_cons_self, hxi⟩
     ·obtain ⟨y, hy, hyi⟩ := h4 j hj; exact ⟨y, List.mem_cons_of_mem _ hy, hyi⟩
  obtain ⟨L, h1, h2, h3, _⟩ := key C hC fun _ h => h
  have := nodup_lenG (l := L) (m := List.range g.length) h2 fun i hi => List.mem_range.2 (h3 i hi)
  rw [List.length_range] at this
  omega
 | w :: r, g, hg, hs => by
  rw [layR_fold]
  refine fold_min_ge (f := fun i => layR l n r (putG g i w)) (v := fun i => eachB l ((putG g i w).getD i []) false) _ _ (by omega) fun i hi hv => ?_
  have hi : i ≤ g.length := by have := List.mem_range.1 hi; omega
  have hl : i < (putG g i w).length := by rw [putG_len]; split <;> omega
  refine layR_lower hC hx hn r _ (fun s hsm => ?_) fun x hxC => ?_
  ·unfold putG at hsm hv
   split at hsm
   ·rename_i e
    rw [if_pos e] at hv
    rcases List.mem_append.1 hsm with hsm | hsm
    ·exact hg s hsm
    ·rw [List.mem_singleton.1 hsm]; subst e; simpa using hv
   ·rename_i e
    rw [if_neg e] at hv
    have hi2 : i < g.length := by omega
    rcases List.mem_or_eq_of_mem_set hsm with hsm | hsm
    ·exact hg s hsm
    ·rw [hsm]; simpa [List.getD_eq_getElem?_getD, hi2] using hv
  ·have hm := hs x hxC
   rw [List.mem_append, List.mem_cons] at hm
   rw [List.mem_append]
   have hput : ∀ y, y ∈ g.flatten ∨ y = w → y ∈ (putG g i w).flatten := fun y hy => by
    unfold putG
    split
    ·rw [List.flatten_append, List.mem_append]
     exact hy.imp id fun h => by simp [h]
    ·have hi2 : i < g.length := by omega
     refine ((flatten_set (a := w) hi2 rfl).mem_iff).2 (List.mem_append.2 (hy.imp id fun h => by simp [h]))
   rcases hm with hm | rfl | hm
   ·exact .inl (hput x (.inl hm))
   ·exact .inl (hput _ (.inr rfl))
   ·exact .inr hm
theorem and_dec {a b : Prop} [Decidable a] [Decidable b] (h : a → ¬ b) : (decide a && decide b) = false := by
 by_cases ha : a
 ·simp [ha, h ha]
 ·simp [ha]
theorem sorted_sublist : ∀ {t s : List (Int × Int)}, s.Pairwise (fun x y => x.1 < y.1) → t.Pairwise (fun x y => x.1 < y.1) → (∀ x ∈ s, x ∈ t) → s.Sublist t
 | [], s, _, _, h => by
  cases s with
  | nil => exact List.Sublist.refl _
  | cons a s => cases h a List.mem_cons_self
 | b :: t, [], _, _, _ => List.nil_sublist _
 | b :: t, a :: s, hs, ht, h => by
  obtain ⟨hs1, hs2⟩ := List.pairwise_cons.1 hs
  obtain ⟨ht1, ht2⟩ := List.pairwise_cons.1 ht
  rcases List.mem_cons.1 (h a List.mem_cons_self) with rfl | ha
  ·refine List.Sublist.cons_cons _ (sorted_sublist hs2 ht2 fun x hx => ?_)
   rcases List.mem_cons.1 (h x (List.mem_cons_of_mem _ hx)) with rfl | hx'
   ·have := hs1 x hx; omega
   ·exact hx'
  ·have hb := ht1 a ha
   refine List.Sublist.cons _ (sorted_sublist hs ht2 fun x hx => ?_)
   rcases List.mem_cons.1 (h x hx) with rfl | hx'
   ·rcases List.mem_cons.1 hx with rfl | hx
    ·omega
    ·have := hs1 x hx; omega
   ·exact hx'
theorem pairwise_or {α : Type} {R : α → α → Prop} : ∀ {l : List α}, l.Pairwise R → ∀ {x y : α}, x ∈ l → y ∈ l → x ≠ y → R x y ∨ R y x
 | a :: l, h, x, y, hx, hy, hne => by
  obtain ⟨h1, h2⟩ := List.pairwise_cons.1 h
  rcases List.mem_cons.1 hx with ex | hx' <;> rcases List.mem_cons.1 hy with ey | hy'
  ·exact absurd (ex.trans ey.symm) hne
  ·exact .inl (ex ▸ h1 y hy')
  ·exact .inr (ey ▸ h1 x hx')
  ·exact pairwise_or h2 hx' hy' hne
structure LayFacts (l : List Int) : Prop where
 len : ((layersW l).length : Int) = layR l (refThr l).length (refThr l) []
 row : ∀ r ∈ layersW l, r ≠ [] ∧ r.Pairwise (· < ·) ∧ (∀ x ∈ r, 0 ≤ x ∧ x < l.length ∧ 0 ≤ l.getD x.toNat 0) ∧ eachB l r false = true
 heads : (layersW l).Pairwise fun r s => r.getD 0 0 < s.getD 0 0
 nodup : (layersW l).flatten.Nodup
 size : (layersW l).flatten.length = (refThr l).length
theorem lay_facts {l : List Int} (h : ∀ x ∈ l, -1 ≤ x ∧ x ≤ 95) : LayFacts l := by
 have hs := thr_sorted l
 obtain ⟨G, hI, hG⟩ := layF_I (thr l) hs
 have hr : refThr l = (thr l).map Prod.fst := refThr_eq fun x hx => (h x hx).1
 have hL : layersW l = G.map (·.map Prod.fst) := by
  have : layersW l = (layF (thr l)).1 := rfl
  rw [this, hG]
 have hmem : ∀ R ∈ G, ∀ x ∈ R, x ∈ thr l := fun R hR x hx => hI.perm.mem_iff.1 (List.mem_flatten.2 ⟨R, hR, hx⟩)
 have hsub : ∀ R ∈ G, R.Sublist (thr l) := fun R hR => sorted_sublist ((hI.rows R hR).2.imp fun h => h.1) hs (hmem R hR)
 have hev : ∀ s : List (Int × Int), (∀ x ∈ s, x ∈ thr l) → rowOk s → eachB l (s.map Prod.fst) false = true := fun s hm hok =>
  (each_eq h (sorted_sublist (hok.2.imp fun h => h.1) hs hm) false).2 (hok.2.imp fun h => by simp; omega)
 have hfl : (G.map (·.map Prod.fst)).flatten = G.flatten.map Prod.fst := by rw [List.map_flatten]
 have hpm : (layersW l).flatten.Perm (refThr l) := by rw [hL, hfl, hr]; exact hI.perm.map _
 refine ⟨?_, fun r hrm => ?_, ?_, ?_, hpm.length_eq⟩
 ·have hle : layR l (refThr l).length (refThr l) [] ≤ (layersW l).length := by
   have := layR_greedy (l := l) (refThr l).length (thr l) [] [] layI_nil (by simpa using hs) fun s hm hok => hev s (by simpa using hm) hok
   rw [hr] at this ⊢
   exact this
  have hge : ((layersW l).length : Int) ≤ layR l (refThr l).length (refThr l) [] := by
   cases hk : G.length with
   | zero =>
    have e : (layersW l).length = 0 := by rw [hL, List.length_map, hk]
    rw [e]
    exact layR_lower (C := []) List.nodup_nil (fun x hx => by cases hx) (Nat.zero_le _) _ _ (fun s hs => by cases hs) fun x hx => by cases hx
   | succ k =>
    have hkl : k < G.length := by omega
    obtain ⟨C, c1, c2, c3⟩ := hI.chain k hkl
    have hnd : ((C ++ [G[k].getLastD (0, 0)]).map Prod.fst).Pairwise (· < ·) := by
     rw [List.pairwise_map]; exact hs.sublist c2
    have := layR_lower (l := l) (n := (refThr l).length) (C := (C ++ [G[k].getLastD (0, 0)]).map Prod.fst) (hnd.imp fun h => by omega) (fun x hx y hy hne => ?_) ?_ (refThr l) [] (fun s hs => by cases hs) fun x hx => ?_
    ·rw [List.length_map, List.length_append, c1] at this
     rw [hL, List.length_map, hk]
     simpa using this
    ·obtain ⟨x', hx', rfl⟩ := List.mem_map.1 hx
     obtain ⟨y', hy', rfl⟩ := List.mem_map.1 hy
     have hpw := (hs.sublist c2).and c3
     rcases pairwise_or hpw hx' hy' (fun e => hne (by rw [e])) with ⟨k1, k2⟩ | ⟨k1, k2⟩
     ·rw [cross_comm, cross_eq h (c2.subset hx') (c2.subset hy') k1]; simpa using k2
     ·rw [cross_eq h (c2.subset hy') (c2.subset hx') k1]; simpa using k2
    ·have := c2.length_le
     rw [hr, List.length_map, List.length_map]; omega
    ·rw [List.flatten_nil, List.nil_append, hr]
     obtain ⟨x', hx', rfl⟩ := List.mem_map.1 hx
     exact List.mem_map.2 ⟨x', c2.subset hx', rfl⟩
  omega
 ·rw [hL] at hrm
  obtain ⟨R, hR, rfl⟩ := List.mem_map.1 hrm
  have hok := hI.rows R hR
  refine ⟨by simpa using hok.1, ?_, fun x hx => ?_, hev R (hmem R hR) hok⟩
  ·rw [List.pairwise_map]; exact hok.2.imp fun h => h.1
  ·obtain ⟨p, hp, rfl⟩ := List.mem_map.1 hx
   obtain ⟨k1, k2, k3, k4, _⟩ := thr_eyes h (hmem R hR p hp)
   exact ⟨k1, k2, by rw [k3]; exact k4⟩
 ·rw [hL, List.pairwise_map]
  have := hI.heads
  rw [List.pairwise_map] at this
  refine List.Pairwise.imp_of_mem (fun {R S} hR hS hlt => ?_) this
  have e : ∀ R ∈ G, (R.map Prod.fst).getD 0 0 = (R.headD (0, 0)).1 := fun R hR => by
   have := (hI.rows R hR).1
   cases R with
   | nil => exact absurd rfl this
   | cons a R => rfl
  rw [e R hR, e S hS]; exact hlt
 ·refine (hpm.nodup_iff).2 ?_
  rw [hr, List.Nodup, List.pairwise_map]; exact hs.imp fun h => by omega
end Go.Proofs.Tryd
set_option linter.unusedVariables false
namespace Go.Proofs.Tryd
open Go Go.V Go.Proofs
theorem pk_cover {α : Type} {l : List α} {x : α} : ∀ {b : Nat}, x ∈ l → x ∈ pkI b l ∨ x ∈ pkN b l := by
 induction l with
 | nil => intro b h; cases h
 | cons y r ih =>
  intro b h
  simp only [pkI, pkN]
  rcases List.mem_cons.1 h with rfl | h
  ·split
   ·exact .inl List.mem_cons_self
   ·exact .inr List.mem_cons_self
  ·split
   ·exact (ih h).imp (List.mem_cons_of_mem _) id
   ·exact (ih h).imp id (List.mem_cons_of_mem _)
structure TanFacts (l : List Int) : Prop where
 tan : (tangleW l).Pairwise (fun x y => x < y ∧ l.getD y.toNat 0 ≤ l.getD x.toNat 0)
 tanIn : ∀ x ∈ tangleW l, 0 ≤ x ∧ x < l.length ∧ 0 ≤ l.getD x.toNat 0
 tanLen : (tangleW l).length = best crossR (-1, 96) (thr l)
 out : (outW l).Pairwise (· < ·)
 outIn : ∀ x ∈ outW l, 0 ≤ x ∧ x < l.length ∧ 0 ≤ l.getD x.toNat 0
 outLen : (outW l).length + best apartR (-1, -1) (thr l) = (thr l).length
 apart : ∀ a b : Nat, a < b → b < l.length → 0 ≤ l.getD a 0 → 0 ≤ l.getD b 0 → l.getD b 0 ≤ l.getD a 0 → (a : Int) ∈ outW l ∨ (b : Int) ∈ outW l
 layLen : (layersW l).length = best crossR (-1, 96) (thr l)
 none : crossingsI l = 0 → (outW l) = [] ∧ best crossR (-1, 96) (thr l) ≤ 1
theorem sub_pair_of {l : List Int} (h : ∀ x ∈ l, -1 ≤ x ∧ x ≤ 95) {s : List (Int × Int)} (hs : s.Sublist (thr l)) : (s.map Prod.fst).Pairwise (· < ·) := by
 rw [List.pairwise_map]; exact (thr_sorted l).sublist hs
theorem in_thr {l : List Int} (h : ∀ x ∈ l, -1 ≤ x ∧ x ≤ 95) {s : List (Int × Int)} (hs : s.Sublist (thr l)) : ∀ x ∈ s.map Prod.fst, 0 ≤ x ∧ x < l.length ∧ 0 ≤ l.getD x.toNat 0 := fun x hx => by
 obtain ⟨p, hp, rfl⟩ := List.mem_map.1 hx
 obtain ⟨k1, k2, k3, k4, _⟩ := thr_eyes h (hs.subset hp)
 exact ⟨k1, k2, by rw [k3]; exact k4⟩
theorem tan_facts {l : List Int} (h : ∀ x ∈ l, -1 ≤ x ∧ x ≤ 95) : TanFacts l := by
 have hs := thr_sorted l
 obtain ⟨bt, _, t1, t2⟩ := tanG_pk (R := crossR) cross_trans (l := thr l) (a := (-1, 96))
 obtain ⟨bo, _, o1, o2⟩ := outG_pk (R := apartR) apart_trans (l := thr l) (a := (-1, -1))
 have tsub : (pkI bt (thr l)).Sublist (thr l) := pkI_sub
 have osub : (pkN bo (thr l)).Sublist (thr l) := pkN_sub
 have ht : tangleW l = (pkI bt (thr l)).map Prod.fst := by rw [t1]; rfl
 have ho : outW l = (pkN bo (thr l)).map Prod.fst := by rw [o1]; rfl
 have htl : (tangleW l).length = best crossR (-1, 96) (thr l) := by rw [ht, List.length_map, t1]; exact tanG_len
 have hol : (outW l).length + best apartR (-1, -1) (thr l) = (thr l).length := by rw [ho, List.length_map, o1]; exact outG_len
 have f := lay_facts h
 refine ⟨?_, by rw [ht]; exact in_thr h tsub, htl, by rw [ho]; exact sub_pair_of h osub, by rw [ho]; exact in_thr h osub, hol, fun a b hab hb ha0 hb0 hc => ?_, ?_, fun hz => ?_⟩
 ·rw [ht, List.pairwise_map]
  refine List.Pairwise.imp_of_mem (fun {x y} hx hy hr => ?_) ((hs.sublist tsub).and (List.pairwise_cons.1 t2).2)
  obtain ⟨r1, r2⟩ := hr
  rw [(thr_eyes h (tsub.subset hx)).2.2.1, (thr_eyes h (tsub.subset hy)).2.2.1]
  simp only [crossR, decide_eq_true_eq] at r2
  exact ⟨r1, by omega⟩
 ·have ma : ((a : Int), l.getD a 0) ∈ thr l := thr_mem.2 ⟨a, by omega, rfl, by simp only; omega⟩
  have mb : ((b : Int), l.getD b 0) ∈ thr l := thr_mem.2 ⟨b, hb, rfl, by simp only; omega⟩
  rcases pk_cover (b := bo) ma with ia | ia
  ·rcases pk_cover (b := bo) mb with ib | ib
   ·have hpw := (hs.sublist (pkI_sub (b := bo))).and (List.pairwise_cons.1 o2).2
    rcases pairwise_or hpw ia ib (fun e => by have := (Prod.mk.inj e).1; omega) with ⟨k1, k2⟩ | ⟨k1, k2⟩
    ·simp only [apartR, decide_eq_true_eq] at k2; omega
    ·simp only at k1; omega
   ·right; rw [ho]; exact List.mem_map.2 ⟨_, ib, rfl⟩
  ·left; rw [ho]; exact List.mem_map.2 ⟨_, ia, rfl⟩
 ·have hr : refThr l = (thr l).map Prod.fst := refThr_eq fun x hx => (h x hx).1
  obtain ⟨G, hI, hG⟩ := layF_I (thr l) hs
  have hL : layersW l = G.map (·.map Prod.fst) := by
   have : layersW l = (layF (thr l)).1 := rfl
   rw [this, hG]
  apply Nat.le_antisymm
  ·rw [hL, List.length_map]
   cases hk : G.length with
   | zero => exact Nat.zero_le _
   | succ k =>
    obtain ⟨C, c1, c2, c3⟩ := hI.chain k (by omega)
    have := best_le (R := crossR) (a := (-1, 96)) c2 (List.pairwise_cons.2 ⟨fun x hx => first_cross h x (c2.subset hx), c3.imp fun h => by simpa [crossR] using h⟩)
    rw [List.length_append, c1] at this
    simpa using this
  ·have hpw := (hs.sublist tsub).and (List.pairwise_cons.1 t2).2
   have := layR_lower (l := l) (n := (refThr l).length) (C := tangleW l) ?_ (fun x hx y hy hne => ?_) ?_ (refThr l) [] (fun s hs => by cases hs) fun x hx => ?_
   ·rw [← f.len] at this; rw [← htl]; omega
   ·rw [ht]; exact (sub_pair_of h tsub).imp fun h => by omega
   ·rw [ht] at hx hy
    obtain ⟨x', hx', rfl⟩ := List.mem_map.1 hx
    obtain ⟨y', hy', rfl⟩ := List.mem_map.1 hy
    rcases pairwise_or hpw hx' hy' (fun e => hne (by rw [e])) with ⟨k1, k2⟩ | ⟨k1, k2⟩
    ·rw [cross_comm, cross_eq h (tsub.subset hx') (tsub.subset hy') k1]; simpa [crossR] using k2
    ·rw [cross_eq h (tsub.subset hy') (tsub.subset hx') k1]; simpa [crossR] using k2
   ·have := tsub.length_le
    rw [ht, hr, List.length_map, List.length_map]; omega
   ·rw [List.flatten_nil, List.nil_append, hr]
    rw [ht] at hx
    obtain ⟨x', hx', rfl⟩ := List.mem_map.1 hx
    exact List.mem_map.2 ⟨x', tsub.subset hx', rfl⟩
 ·rw [crossings_eq h] at hz
  have hap : (thr l).Pairwise fun x y => apartR x y = true := by
   have hz : pairs crossR (thr l) = 0 := by omega
   clear hs t1 t2 o1 o2 tsub osub ht ho htl hol f
   generalize thr l = T at hz
   induction T with
   | nil => exact List.Pairwise.nil
   | cons a r ih =>
    simp only [pairs] at hz
    refine List.pairwise_cons.2 ⟨fun x hx => ?_, ih (by omega)⟩
    have h0 : r.filter (crossR a) = [] := List.length_eq_zero_iff.1 (by omega)
    have := List.filter_eq_nil_iff.1 h0 x hx
    simp only [crossR, decide_eq_true_eq] at this
    simp only [apartR, decide_eq_true_eq]; omega
  constructor
  ·have := best_le (R := apartR) (a := (-1, -1)) (List.Sublist.refl (thr l)) (List.pairwise_cons.2 ⟨first_apart h, hap⟩)
   exact List.length_eq_zero_iff.1 (by omega)
  ·rw [← htl, ht, List.length_map]
   have hc := (List.pairwise_cons.1 t2).2
   have ha := hap.sublist tsub
   cases hp : pkI bt (thr l) with
   | nil => exact Nat.zero_le _
   | cons x r =>
    cases r with
    | nil => exact Nat.le_refl _
    | cons y r =>
     rw [hp] at hc ha
     have h1 := (List.pairwise_cons.1 hc).1 y List.mem_cons_self
     have h2 := (List.pairwise_cons.1 ha).1 y List.mem_cons_self
     simp only [crossR, apartR, decide_eq_true_eq] at h1 h2
     omega
theorem aput_new {F : List Int} {k : Int} (h : k ∉ F) : aput (.i .i64) (F.map fun x => (x, true)) k true = (F ++ [k]).map fun x => (x, true) := by
 induction F with
 | nil => rfl
 | cons a F ih =>
  have h1 : k ≠ a := fun e => h (by rw [e]; exact List.mem_cons_self)
  have h2 : k ∉ F := fun e => h (List.mem_cons_of_mem _ e)
  simp only [List.map_cons, List.cons_append]
  rw [aput_cons, if_neg h1, ih h2]
theorem aget_map {F : List Int} {k : Int} : gq.aget (.i .i64) (F.map fun x => (x, true)) k false = decide (k ∈ F) := by
 induction F with
 | nil => rfl
 | cons a F ih =>
  simp only [List.map_cons]
  rw [aget_cons, ih]
  by_cases e : k = a
  ·simp [e]
  ·simp [e]
def al_law11_Board_harness : AL (Int × List Int × List Int × List Int) := (.one (.agg (.cons (.k (.i .u8)) (.cons (.k (.list (.i .u8))) (.cons (.k (.list (.i .u16))) (.one (.k (.list (.i .u8)))))))))
def pre_law11_Board_harness (d : Int × List Int × List Int × List Int) : Prop := bOk d.1 d.2.1 d.2.2.1 d.2.2.2
def res_law11_Board_harness (d : Int × List Int × List Int × List Int) : SV := .agg [.val (.i .i64) (bHk d.1), .lst 0]
def obs_law11_Board_harness (d : Int × List Int × List Int × List Int) : List OB := [.lst 3 (.i .i64) (bWarps d.1 d.2.1) false]
def s_law11_Board_harness : CSp := mkSp al_law11_Board_harness pre_law11_Board_harness res_law11_Board_harness obs_law11_Board_harness
def vc_law11_Board_harness (h8 : Int) (ws : List Int) (rs : List Int) (ds : List Int) : Prop :=
 (I64 h8) ∧ ((10 : Int) ≠ 0) ∧ (I64 ((1 : Int) + (Int.tmod h8 (10 : Int)))) ∧ ∃ (e4 : Unit) (d40 : (List Int) × Int), ((True ∧ True ∧ True ∧ (0 : Int) = d40.2 ∧ True) ∧ ((h8 = h8 ∧ ws = ws ∧ rs = rs ∧ ds = ds ∧ (([] : List SV) = [])) ∧ ((0 : Int) = (0 : Int) ∧ True ∧ (([] : List SV) = [])) ∧ (((1 : Int) + (Int.tmod h8 (10 : Int))) = ((1 : Int) + (Int.tmod h8 (10 : Int))) ∧ True ∧ (([] : List SV) = [])) ∧ (d40.1 = [] ∧ (List.isEmpty d40.1) = true) ∧ True)) ∧
 LoopP (fun (d4 : (List Int) × Int) (q4 : ((List Int) × Int) → Prop) =>
  (((d4.2 == (0 : Int)) || ((decide (d4.2 < (lI ws))) && (decide (d4.2 < (24 : Int))))) = true →
   ((decide (d4.2 < (lI ws))) = true →
    (0 ≤ d4.2) ∧ (d4.2 < (List.length ws)) ∧ (I64 (gD ws d4.2 0)) ∧ (((1 : Int) + (Int.tmod h8 (10 : Int))) ≠ 0) ∧ (((List.length d4.1) + (List.length [(Int.tmod (gD ws d4.2 0) ((1 : Int) + (Int.tmod h8 (10 : Int))))])) * 8 ≤ 70368744177664) ∧ (I64 (d4.2 + (1 : Int))) ∧ (∃ d5 : (List Int) × Int, ((True ∧ True ∧ True ∧ (d4.2 + (1 : Int)) = d5.2 ∧ True) ∧ ((h8 = h8 ∧ ws = ws ∧ rs = rs ∧ ds = ds ∧ (([] : List SV) = [])) ∧ ((0 : Int) = (0 : Int) ∧ True ∧ (([] : List SV) = [])) ∧ (((1 : Int) + (Int.tmod h8 (10 : Int))) = ((1 : Int) + (Int.tmod h8 (10 : Int))) ∧ True ∧ (([] : List SV) = [])) ∧ ((d4.1 ++ [(Int.tmod (gD ws d4.2 0) ((1 : Int) + (Int.tmod h8 (10 : Int))))]) = d5.1 ∧ false = (List.isEmpty d5.1)) ∧ True)) ∧ q4 d5)) ∧
   ((decide (d4.2 < (lI ws))) = false →
    (((List.length d4.1) + (List.length [(0 : Int)])) * 8 ≤ 70368744177664) ∧ (I64 (d4.2 + (1 : Int))) ∧ (∃ d6 : (List Int) × Int, ((True ∧ True ∧ True ∧ (d4.2 + (1 : Int)) = d6.2 ∧ True) ∧ ((h8 = h8 ∧ ws = ws ∧ rs = rs ∧ ds = ds ∧ (([] : List SV) = [])) ∧ ((0 : Int) = (0 : Int) ∧ True ∧ (([] : List SV) = [])) ∧ (((1 : Int) + (Int.tmod h8 (10 : Int))) = ((1 : Int) + (Int.tmod h8 (10 : Int))) ∧ True ∧ (([] : List SV) = [])) ∧ ((d4.1 ++ [(0 : Int)]) = d6.1 ∧ false = (List.isEmpty d6.1)) ∧ True)) ∧ q4 d6))) ∧
  (((d4.2 == (0 : Int)) || ((decide (d4.2 < (lI ws))) && (decide (d4.2 < (24 : Int))))) = false →
   ((((1 : Int) + (Int.tmod h8 (10 : Int))) = (bHk h8) ∧ True ∧ (([] : List SV) = [])) ∧ ((d4.1 = (bWarps h8 ws) ∧ (List.isEmpty d4.1) = false) ∧ True)))) d40
def cx_law11_Board_harness : Cx := ⟨[(3, (.i .i64))], [], 48, [], 0, [], [], [], [], false⟩
def lp_law11_Board_harness (h8 : Int) (ws : List Int) (rs : List Int) (ds : List Int) : List (Nat × LoopAnn) := [(0, ⟨Unit, (List Int) × Int, [1, 2, 3, 4], fun e x => [.box 1 0, .box 2 0, .box 3 0, .val (.i .i64) x.2], fun e x => [(1, .slot 1, .cells [.val (.i .u8) h8, .val (.list (.i .u8)) ws, .val (.list (.i .u16)) rs, .val (.list (.i .u8)) ds] (some 58)), (2, .slot 2, .cells [.val (.i .i64) (0 : Int), .nilS] (some 24)), (3, .slot 3, .cells [.val (.i .i64) ((1 : Int) + (Int.tmod h8 (10 : Int))), .lst 45] (some 24)), (45, .cell 3 1, .lst 3 (.i .i64) x.1 (List.isEmpty x.1))]⟩)]
set_option maxRecDepth 100000 in
theorem vq_law11_Board_harness (d : Int × List Int × List Int × List Int) : gwp (cx_law11_Board_harness) (lp_law11_Board_harness d.1 d.2.1 d.2.2.1 d.2.2.2) c31 0 (gend [.cell 2 true 2] (res_law11_Board_harness d) (obs_law11_Board_harness d)) (gstart 48 (AL.can al_law11_Board_harness d)) = vc_law11_Board_harness d.1 d.2.1 d.2.2.1 d.2.2.2 := by kernel_rfl
abbrev Ok_law11_Board_harness : Prop := OkC Tryd.prog 31 s_law11_Board_harness
theorem mk_law11_Board_harness (h : ∀ (h8 : Int) (ws : List Int) (rs : List Int) (ds : List Int), (bOk h8 ws rs ds) → vc_law11_Board_harness h8 ws rs ds) : OkC Tryd.prog 31 s_law11_Board_harness :=
 okC_vc fun31 mixed (C := cx_law11_Board_harness) (V := fun (d : Int × List Int × List Int × List Int) => vc_law11_Board_harness d.1 d.2.1 d.2.2.1 d.2.2.2) ⟨.nil, XsOk.nil, ItsOk.nil⟩ (vq_law11_Board_harness) fun d hp => h d.1 d.2.1 d.2.2.1 d.2.2.2 hp
theorem hkN_range {m h8 : Int} (hm : 0 < m) (h : 0 ≤ h8) : 1 ≤ hkN m h8 ∧ hkN m h8 ≤ m := by
 have h1 := Int.tmod_nonneg m h
 have h2 := Int.tmod_lt_of_pos h8 hm
 simp only [hkN]; omega
theorem warpsN_len {hk : Int} {cap : Nat} {ws : List Int} : (warpsN hk cap ws).length = if ws = [] then 1 else min cap ws.length := by
 unfold warpsN; split <;> simp
theorem warpsN_get {hk : Int} {cap : Nat} {ws : List Int} {i : Nat} (h : i < ws.length) (hc : i < cap) : (warpsN hk cap ws)[i]? = some (Int.tmod (ws.getD i 0) hk) := by
 have hne : ws ≠ [] := by rintro rfl; simp at h
 unfold warpsN; rw [if_neg hne]
 simp [hc, h]
theorem ok_law11_Board_harness : Ok_law11_Board_harness := mk_law11_Board_harness fun h8 ws rs ds h => by
 obtain ⟨h1, h2, hws, hrs, hds⟩ := h
 have hk := hkN_range (m := 10) (by omega) h1
 have e : (1 + Int.tmod h8 10) = bHk h8 := rfl
 have hk : 1 ≤ bHk h8 ∧ bHk h8 ≤ 10 := hk
 unfold vc_law11_Board_harness; (try delta lI gD sT I64); simp only [true_and, and_true, exists_const, decide_eq_true_eq, decide_eq_false_iff_not, ne_eq, InK_i64, e]
 refine ⟨by omega, by omega, by omega, ([], 0), ⟨rfl, rfl, rfl⟩, ?_⟩
 have hN : (bWarps h8 ws).length = if ws = [] then 1 else min 24 ws.length := warpsN_len
 have hcond : ∀ k : Nat, (((k : Int) == 0) || (decide ((k : Int) < ws.length) && decide ((k : Int) < 24))) = decide (k < (bWarps h8 ws).length) := fun k => by
  rw [hN]
  by_cases hz : ws = []
  ·subst hz
   cases k <;> simp; omega
  ·have : 0 < ws.length := List.length_pos_iff.2 hz
   rw [if_neg hz]
   cases k with
   | zero => simp; omega
   | succ k =>
    rw [Bool.eq_iff_iff]
    simp; omega
 have hNle : (bWarps h8 ws).length ≤ 24 := by rw [hN]; split <;> omega
 refine LoopP.count2 (bWarps h8 ws).length (fun k xs => xs = (bWarps h8 ws).take k) (by simp) fun k xs hk hJ q hq => ?_
 dsimp only
 rw [hcond]
 simp only [decide_eq_true_eq, decide_eq_false_iff_not, Int.toNat_natCast, Int.ofNat_lt]
 refine ⟨fun hlt => ⟨fun hw => ?_, fun hw => ?_⟩, fun hge => ?_⟩
 ·have hw : k < ws.length := by omega
  have hws' := hws _ (List.getElem_mem hw)
  have hk24 : k < 24 := by omega
  simp only [getD_nat hw, List.length_singleton]
  have hv : (bWarps h8 ws)[k] = Int.tmod ws[k] (bHk h8) := by
   have := warpsN_get (hk := bHk h8) hw hk24
   rw [getD_nat hw] at this
   have h3 := List.getElem?_eq_getElem hlt
   exact Option.some.inj (h3.symm.trans this)
  refine ⟨by omega, by omega, by omega, by omega, by rw [hJ, List.length_take]; omega, by omega, (xs ++ [Int.tmod ws[k] (bHk h8)], (k : Int) + 1), ⟨rfl, rfl, by simp⟩, hq _ hlt ?_⟩
  rw [take_succ_eq hlt, ← hJ, hv]
 ·have hz : ws = [] := by
   cases hws : ws with
   | nil => rfl
   | cons a l =>
    exfalso
    rw [hN] at hlt
    have : ws ≠ [] := by rw [hws]; simp
    rw [if_neg this] at hlt
    omega
  have hk0 : k = 0 := by rw [hN, if_pos hz] at hlt; omega
  subst hk0
  simp only [List.length_singleton]
  refine ⟨by rw [hJ, List.length_take]; omega, by omega, (xs ++ [0], 1), ⟨rfl, rfl, by simp⟩, hq _ hlt ?_⟩
  rw [take_succ_eq hlt, ← hJ]
  simp [bWarps, warpsN, hz]
 ·have : k = (bWarps h8 ws).length := by omega
  subst this
  rw [List.take_length] at hJ
  subst hJ
  refine ⟨rfl, ?_⟩
  rw [List.isEmpty_eq_false_iff]
  intro hz
  rw [hz] at hN
  split at hN
  ·cases hN
  ·rename_i hne
   have := List.length_pos_iff.2 hne
   simp only [List.length_nil] at hN
   omega
def al_law11_Board_drawing : AL ((Int × List Int × List Int × List Int) × Int) := (.cons (.agg (.cons (.k (.i .u8)) (.cons (.k (.list (.i .u8))) (.cons (.k (.list (.i .u16))) (.one (.k (.list (.i .u8)))))))) (.one (.k (.i .i64))))
def pre_law11_Board_drawing (d : (Int × List Int × List Int × List Int) × Int) : Prop := 1 ≤ d.2 ∧ d.2 ≤ 24 ∧ bOk d.1.1 d.1.2.1 d.1.2.2.1 d.1.2.2.2
def res_law11_Board_drawing (d : (Int × List Int × List Int × List Int) × Int) : SV := .lst 0
def obs_law11_Board_drawing (d : (Int × List Int × List Int × List Int) × Int) : List OB := [.lst 3 (.i .i64) (bDraw d.1.2.2.2 d.2.toNat) false]
def s_law11_Board_drawing : CSp := mkSp al_law11_Board_drawing pre_law11_Board_drawing res_law11_Board_drawing obs_law11_Board_drawing
def vc_law11_Board_drawing (h8 : Int) (ws : List Int) (rs : List Int) (ds : List Int) (n : Int) : Prop :=
 ∃ (e3 : Unit) (d30 : (List Int) × Int), ((n = n ∧ True ∧ True ∧ (0 : Int) = d30.2 ∧ True) ∧ ((h8 = h8 ∧ ws = ws ∧ rs = rs ∧ ds = ds ∧ (([] : List SV) = [])) ∧ (([] : List Int) = d30.1 ∧ false = false) ∧ True)) ∧
 LoopP (fun (d3 : (List Int) × Int) (q3 : ((List Int) × Int) → Prop) =>
  ((decide (d3.2 < n)) = true →
   ((decide (d3.2 < (lI ds))) = true →
    (0 ≤ d3.2) ∧ (d3.2 < (List.length ds)) ∧ (I64 (gD ds d3.2 0)) ∧ ((16 : Int) ≠ 0) ∧ (((Int.tmod (gD ds d3.2 0) (16 : Int)) == (15 : Int)) = true →
     (((List.length d3.1) + (List.length [(-1 : Int)])) * 8 ≤ 70368744177664) ∧ (I64 (d3.2 + (1 : Int))) ∧ (∃ d4 : (List Int) × Int, ((n = n ∧ True ∧ True ∧ (d3.2 + (1 : Int)) = d4.2 ∧ True) ∧ ((h8 = h8 ∧ ws = ws ∧ rs = rs ∧ ds = ds ∧ (([] : List SV) = [])) ∧ ((d3.1 ++ [(-1 : Int)]) = d4.1 ∧ false = false) ∧ True)) ∧ q3 d4)) ∧
    (((Int.tmod (gD ds d3.2 0) (16 : Int)) == (15 : Int)) = false →
     ((decide ((gD ds d3.2 0) ≥ (80 : Int))) = true →
      (n ≠ 0) ∧ (((List.length d3.1) + (List.length [(Int.tmod (gD ds d3.2 0) n)])) * 8 ≤ 70368744177664) ∧ (I64 (d3.2 + (1 : Int))) ∧ (∃ d5 : (List Int) × Int, ((n = n ∧ True ∧ True ∧ (d3.2 + (1 : Int)) = d5.2 ∧ True) ∧ ((h8 = h8 ∧ ws = ws ∧ rs = rs ∧ ds = ds ∧ (([] : List SV) = [])) ∧ ((d3.1 ++ [(Int.tmod (gD ds d3.2 0) n)]) = d5.1 ∧ false = false) ∧ True)) ∧ q3 d5)) ∧
     ((decide ((gD ds d3.2 0) ≥ (80 : Int))) = false →
      (((List.length d3.1) + (List.length [d3.2])) * 8 ≤ 70368744177664) ∧ (I64 (d3.2 + (1 : Int))) ∧ (∃ d6 : (List Int) × Int, ((n = n ∧ True ∧ True ∧ (d3.2 + (1 : Int)) = d6.2 ∧ True) ∧ ((h8 = h8 ∧ ws = ws ∧ rs = rs ∧ ds = ds ∧ (([] : List SV) = [])) ∧ ((d3.1 ++ [d3.2]) = d6.1 ∧ false = false) ∧ True)) ∧ q3 d6)))) ∧
   ((decide (d3.2 < (lI ds))) = false →
    (((List.length d3.1) + (List.length [d3.2])) * 8 ≤ 70368744177664) ∧ (I64 (d3.2 + (1 : Int))) ∧ (∃ d7 : (List Int) × Int, ((n = n ∧ True ∧ True ∧ (d3.2 + (1 : Int)) = d7.2 ∧ True) ∧ ((h8 = h8 ∧ ws = ws ∧ rs = rs ∧ ds = ds ∧ (([] : List SV) = [])) ∧ ((d3.1 ++ [d3.2]) = d7.1 ∧ false = false) ∧ True)) ∧ q3 d7))) ∧
  ((decide (d3.2 < n)) = false →
   (True ∧ ((d3.1 = (bDraw ds n.toNat) ∧ false = false) ∧ True)))) d30
def cx_law11_Board_drawing : Cx := ⟨[(3, (.i .i64))], [], 40, [], 0, [], [], [], [], false⟩
def lp_law11_Board_drawing (h8 : Int) (ws : List Int) (rs : List Int) (ds : List Int) (n : Int) : List (Nat × LoopAnn) := [(0, ⟨Unit, (List Int) × Int, [1, 2, 5, 6], fun e x => [.val (.i .i64) n, .box 2 0, .lst 9, .val (.i .i64) x.2], fun e x => [(2, .slot 2, .cells [.val (.i .u8) h8, .val (.list (.i .u8)) ws, .val (.list (.i .u16)) rs, .val (.list (.i .u8)) ds] (some 58)), (9, .slot 5, .lst 3 (.i .i64) x.1 false)]⟩)]
set_option maxRecDepth 100000 in
theorem vq_law11_Board_drawing (d : (Int × List Int × List Int × List Int) × Int) : gwp (cx_law11_Board_drawing) (lp_law11_Board_drawing d.1.1 d.1.2.1 d.1.2.2.1 d.1.2.2.2 d.2) c33 0 (gend [.tmp 4] (res_law11_Board_drawing d) (obs_law11_Board_drawing d)) (gstart 40 (AL.can al_law11_Board_drawing d)) = vc_law11_Board_drawing d.1.1 d.1.2.1 d.1.2.2.1 d.1.2.2.2 d.2 := by kernel_rfl
abbrev Ok_law11_Board_drawing : Prop := OkC Tryd.prog 33 s_law11_Board_drawing
theorem mk_law11_Board_drawing (h : ∀ (h8 : Int) (ws : List Int) (rs : List Int) (ds : List Int) (n : Int), (1 ≤ n ∧ n ≤ 24 ∧ bOk h8 ws rs ds) → vc_law11_Board_drawing h8 ws rs ds n) : OkC Tryd.prog 33 s_law11_Board_drawing :=
 okC_vc fun33 mixed (C := cx_law11_Board_drawing) (V := fun (d : (Int × List Int × List Int × List Int) × Int) => vc_law11_Board_drawing d.1.1 d.1.2.1 d.1.2.2.1 d.1.2.2.2 d.2) ⟨.nil, XsOk.nil, ItsOk.nil⟩ (vq_law11_Board_drawing) fun d hp => h d.1.1 d.1.2.1 d.1.2.2.1 d.1.2.2.2 d.2 hp
theorem bDraw_len (ds : List Int) (n : Nat) : (bDraw ds n).length = n := by simp [bDraw]
theorem bDraw_get (ds : List Int) {n k : Nat} (h : k < n) : (bDraw ds n)[k]'(by rw [bDraw_len]; exact h) = if k < ds.length then (if Int.tmod (ds.getD k 0) 16 = 15 then -1 else if ds.getD k 0 ≥ 80 then Int.tmod (ds.getD k 0) n else k) else k := by
 simp [bDraw]
theorem ok_law11_Board_drawing : Ok_law11_Board_drawing := mk_law11_Board_drawing fun h8 ws rs ds n h => by
 obtain ⟨hn1, hn2, h1, h2, hws, hrs, hds⟩ := h
 obtain ⟨n, rfl⟩ := Int.eq_ofNat_of_zero_le (show 0 ≤ n by omega)
 unfold vc_law11_Board_drawing; (try delta lI gD sT I64); simp only [true_and, and_true, exists_const, decide_eq_true_eq, decide_eq_false_iff_not, beq_iff_eq, ne_eq, beq_eq_false_iff_ne, Int.toNat_natCast, ge_iff_le, InK_i64]
 refine ⟨([], 0), ⟨rfl, rfl⟩, ?_⟩
 have hl := bDraw_len ds n
 refine LoopP.count2 n (fun k xs => xs = (bDraw ds n).take k) (by simp) fun k xs hk hJ q hq => ?_
 have hxl : xs.length = k := by rw [hJ, List.length_take]; omega
 dsimp only
 simp only [Int.toNat_natCast, Int.ofNat_lt]
 have fin : ∀ (hlt : k < n) (v : Int), (bDraw ds n)[k]'(by rw [hl]; exact hlt) = v → ∃ d : List Int × Int, ((k : Int) + 1 = d.2 ∧ xs ++ [v] = d.1) ∧ q d := fun hlt v hv => by
  refine ⟨(xs ++ [v], (k : Int) + 1), ⟨rfl, rfl⟩, hq _ hlt ?_⟩
  rw [take_succ_eq (by rw [hl]; exact hlt), ← hJ, hv]
 refine ⟨fun hlt => ⟨fun hw => ?_, fun hw => ?_⟩, fun hge => ?_⟩
 ·have hw : k < ds.length := by omega
  have hd := hds _ (List.getElem_mem hw)
  have hg := bDraw_get ds (n := n) (k := k) (by omega)
  rw [if_pos hw] at hg
  simp only [getD_nat hw, List.length_singleton] at hg ⊢
  refine ⟨by omega, by omega, by omega, by omega, fun h16 => ?_, fun h16 => ⟨fun h80 => ?_, fun h80 => ?_⟩⟩
  ·rw [if_pos h16] at hg
   exact ⟨by omega, by omega, fin (by omega) _ hg⟩
  ·rw [if_neg h16, if_pos h80] at hg
   exact ⟨by omega, by omega, by omega, fin (by omega) _ hg⟩
  ·rw [if_neg h16, if_neg h80] at hg
   exact ⟨by omega, by omega, fin (by omega) _ hg⟩
 ·have hw : ¬ k < ds.length := by omega
  have hg := bDraw_get ds (n := n) (k := k) (by omega)
  rw [if_neg hw] at hg
  simp only [List.length_singleton]
  exact ⟨by omega, by omega, fin (by omega) _ hg⟩
 ·have : k = n := by omega
  subst this
  rw [hJ, List.take_of_length_le (by omega)]
end Go.Proofs.Tryd
set_option linter.unusedVariables false
namespace Go.Proofs.Tryd
open Go Go.V Go.Proofs
def markI (b : Bool) : Int := if b then 120 else 46
def pickS (lw : List Int) (row : Int) : List UInt8 := lw.map fun k => if row.toNat.testBit k.toNat then 120 else 46
def pointErr (hd : Int) (rows : List Int) : Int := if !inI hd 1 24 then 2 else if 60 < rows.length then 5 else if rows.length = 0 then 7 else if rows.any (fun x => !inI x 0 (2 ^ hd.toNat - 1)) then 2 else 0
def weaveErr (hk : Int) (lw : List Int) (hd : Int) (rows : List Int) : Int := if tieErr hk lw ≠ 0 then tieErr hk lw else if pointErr hd rows ≠ 0 then pointErr hd rows else if hd ≠ hk then 4 else 0
def weaveC (hk : Int) (lw : List Int) (hd : Int) (rows : List Int) : List (List UInt8) := if weaveErr hk lw hd rows = 0 then rows.map (pickS lw) else []
def drawC (l : List Int) (pick : List UInt8) : List UInt8 := l.map fun e => if e = -1 then 46 else pick.getD e.toNat 0
def eyeWErr (hk : Int) (lw l : List Int) (hd : Int) (rows : List Int) : Int := if eyeErr hk lw l ≠ 0 then eyeErr hk lw l else weaveErr hk lw hd rows
def eyeWC (hk : Int) (lw l : List Int) (hd : Int) (rows : List Int) : List (List UInt8) := if eyeWErr hk lw l hd rows = 0 then rows.map fun r => drawC l (pickS lw r) else []
def wrongN (lw l : List Int) (n : Nat) : List Int := ((List.range n).filter fun (w : Nat) => !isRight lw l (w : Int)).map fun (w : Nat) => (w : Int)
def wrongI (lw l : List Int) : List Int := wrongN lw l l.length
def wrongW (hk : Int) (lw l : List Int) : List Int := if eyeErr hk lw l = 0 then wrongI lw l else []
def al_point_within_1 : AL (Int × Int × Int) := (.cons (.k (.i .i64)) (.cons (.ptr (.one (.k (.i .i64)))) (.one (.ptr (.one (.k (.i .i64)))))))
def pre_point_within_1 (d : Int × Int × Int) : Prop := True
def res_point_within_1 (d : Int × Int × Int) : SV := .val .bo (decide (d.1 < d.2.1) || decide (d.2.2 < d.1))
def obs_point_within_1 (d : Int × Int × Int) : List OB := []
def s_point_within_1 : CSp := mkSp al_point_within_1 pre_point_within_1 res_point_within_1 obs_point_within_1
def vc_point_within_1 (n : Int) (a : Int) (b : Int) : Prop :=
 (((decide (n < a)) || (decide (n > b))) = (decide (n < a) || decide (b < n)) ∧ (True))
def cx_point_within_1 : Cx := ⟨[], [], 13, [], 0, [], [], [], [], false⟩
def lp_point_within_1 (n : Int) (a : Int) (b : Int) : List (Nat × LoopAnn) := []
set_option maxRecDepth 100000 in
theorem vq_point_within_1 (d : Int × Int × Int) : gwp (cx_point_within_1) (lp_point_within_1 d.1 d.2.1 d.2.2) c95 0 (gend [.tmp 4] (res_point_within_1 d) (obs_point_within_1 d)) (gstart 13 (AL.can al_point_within_1 d)) = vc_point_within_1 d.1 d.2.1 d.2.2 := by kernel_rfl
abbrev Ok_point_within_1 : Prop := OkC Tryd.prog 95 s_point_within_1
theorem mk_point_within_1 (h : ∀ (n : Int) (a : Int) (b : Int), (True) → vc_point_within_1 n a b) : OkC Tryd.prog 95 s_point_within_1 :=
 okC_vc fun95 mixed (C := cx_point_within_1) (V := fun (d : Int × Int × Int) => vc_point_within_1 d.1 d.2.1 d.2.2) ⟨.nil, XsOk.nil, ItsOk.nil⟩ (vq_point_within_1) fun d hp => h d.1 d.2.1 d.2.2 hp
theorem ok_point_within_1 : Ok_point_within_1 := mk_point_within_1 fun n a b _ => by
 exact ⟨rfl, trivial⟩
def al_point_within : AL (Int × Int × List Int) := (.cons (.k (.i .i64)) (.cons (.k (.i .i64)) (.one (.k (.list (.i .i64))))))
def pre_point_within (d : Int × Int × List Int) : Prop := d.2.2.length ≤ 1000000
def res_point_within (d : Int × Int × List Int) : SV := .val .bo (!(d.2.2.any fun n => decide (n < d.1) || decide (d.2.1 < n)))
def obs_point_within (d : Int × Int × List Int) : List OB := []
def s_point_within : CSp := mkSp al_point_within pre_point_within res_point_within obs_point_within
def vc_point_within (a : Int) (b : Int) (l : List Int) : Prop :=
 (l.length ≤ 1000000 ∧ ∀ x ∈ l, (fun (x1 : Int) => True) x) ∧ ((!(l.any (fun (x1 : Int) => (decide (x1 < a) || decide (b < x1))))) = (!(l.any fun n => decide (n < a) || decide (b < n))) ∧ (True))
def cx_point_within : Cx := ⟨[], [(85, s_slices_ContainsFunc_int_int), (95, s_point_within_1)], 11, [], 0, [], [], [], [], false⟩
def lp_point_within (a : Int) (b : Int) (l : List Int) : List (Nat × LoopAnn) := []
set_option maxRecDepth 100000 in
theorem vq_point_within (d : Int × Int × List Int) : gwp (cx_point_within) (lp_point_within d.1 d.2.1 d.2.2) c80 0 (gend [.tmp 6] (res_point_within d) (obs_point_within d)) (gstart 11 (AL.can al_point_within d)) = vc_point_within d.1 d.2.1 d.2.2 := by kernel_rfl
abbrev Ok_point_within : Prop := OkC Tryd.prog 80 s_point_within
theorem mk_point_within (h : ∀ (a : Int) (b : Int) (l : List Int), (l.length ≤ 1000000) → vc_point_within a b l) : OkC Tryd.prog 80 s_point_within :=
 okC_vc fun80 mixed (C := cx_point_within) (V := fun (d : Int × Int × List Int) => vc_point_within d.1 d.2.1 d.2.2) ⟨(.cons ok_slices_ContainsFunc_int_int (.cons ok_point_within_1 .nil)), XsOk.nil, ItsOk.nil⟩ (vq_point_within) fun d hp => h d.1 d.2.1 d.2.2 hp
theorem ok_point_within : Ok_point_within := mk_point_within fun a b l h => by
 exact ⟨⟨h, fun _ _ => trivial⟩, rfl, trivial⟩
def al_point_Check : AL (Int × List Int) := (.one (.agg (.cons (.k (.i .i64)) (.one (.k (.list (.i .i64)))))))
def pre_point_Check (d : Int × List Int) : Prop := d.2.length ≤ 1000000
def res_point_Check (d : Int × List Int) : SV := .val (.i .i64) (pointErr d.1 d.2)
def obs_point_Check (d : Int × List Int) : List OB := []
def s_point_Check : CSp := mkSp al_point_Check pre_point_Check res_point_Check obs_point_Check
def vc_point_Check (hd : Int) (rows : List Int) : Prop :=
 ([hd].length ≤ 1000000) ∧ ((!(!([hd].any fun n => decide (n < (1 : Int)) || decide ((24 : Int) < n)))) = true →
  ((2 : Int) = (pointErr hd rows) ∧ (True))) ∧
 ((!(!([hd].any fun n => decide (n < (1 : Int)) || decide ((24 : Int) < n)))) = false →
  ((decide ((lI rows) > (60 : Int))) = true →
   ((5 : Int) = (pointErr hd rows) ∧ (True))) ∧
  ((decide ((lI rows) > (60 : Int))) = false →
   (((lI rows) == (0 : Int)) = true →
    ((7 : Int) = (pointErr hd rows) ∧ (True))) ∧
   (((lI rows) == (0 : Int)) = false →
    (0 ≤ hd) ∧ (I64 (shlI .i64 (1 : Int) hd)) ∧ (I64 ((shlI .i64 (1 : Int) hd) - (1 : Int))) ∧ (rows.length ≤ 1000000) ∧ ((!(!(rows.any fun n => decide (n < (0 : Int)) || decide (((shlI .i64 (1 : Int) hd) - (1 : Int)) < n)))) = true →
     ((2 : Int) = (pointErr hd rows) ∧ (True))) ∧
    ((!(!(rows.any fun n => decide (n < (0 : Int)) || decide (((shlI .i64 (1 : Int) hd) - (1 : Int)) < n)))) = false →
     ((0 : Int) = (pointErr hd rows) ∧ (True))))))
def cx_point_Check : Cx := ⟨[(3, (.i .i64))], [(80, s_point_within)], 28, [], 0, [], [], [], [], false⟩
def lp_point_Check (hd : Int) (rows : List Int) : List (Nat × LoopAnn) := []
set_option maxRecDepth 100000 in
theorem vq_point_Check (d : Int × List Int) : gwp (cx_point_Check) (lp_point_Check d.1 d.2) c63 0 (gend [.tmp 2] (res_point_Check d) (obs_point_Check d)) (gstart 28 (AL.can al_point_Check d)) = vc_point_Check d.1 d.2 := by kernel_rfl
abbrev Ok_point_Check : Prop := OkC Tryd.prog 63 s_point_Check
theorem mk_point_Check (h : ∀ (hd : Int) (rows : List Int), (rows.length ≤ 1000000) → vc_point_Check hd rows) : OkC Tryd.prog 63 s_point_Check :=
 okC_vc fun63 mixed (C := cx_point_Check) (V := fun (d : Int × List Int) => vc_point_Check d.1 d.2) ⟨(.cons ok_point_within .nil), XsOk.nil, ItsOk.nil⟩ (vq_point_Check) fun d hp => h d.1 d.2 hp
theorem shl_one {h : Int} (h1 : 0 ≤ h) (h2 : h ≤ 62) : shlI .i64 1 h = 2 ^ h.toNat := by
 obtain ⟨n, rfl⟩ := Int.eq_ofNat_of_zero_le h1
 have : Nat.min n 64 = n := Nat.min_eq_left (by omega)
 simp only [shlI, Int.toNat_natCast, IntKind.bits, this, Int.one_mul]
theorem pow_bound {h : Int} (h1 : 1 ≤ h) (h2 : h ≤ 24) : (2 : Int) ≤ 2 ^ h.toNat ∧ (2 : Int) ^ h.toNat ≤ 16777216 := by
 obtain ⟨n, rfl⟩ := Int.eq_ofNat_of_zero_le (show 0 ≤ h by omega)
 have a1 : 2 ^ 1 ≤ 2 ^ n := Nat.pow_le_pow_right (by omega) (by omega)
 have a2 : 2 ^ n ≤ 2 ^ 24 := Nat.pow_le_pow_right (by omega) (by omega)
 simp only [Int.toNat_natCast]
 have e : ((2 : Int) ^ n) = ((2 ^ n : Nat) : Int) := by norm_cast
 rw [e]
 omega
theorem ok_point_Check : Ok_point_Check := mk_point_Check fun hd rows hl => by
 unfold vc_point_Check; (try delta lI gD sT I64); simp only [and_true, decide_eq_true_eq, decide_eq_false_iff_not, beq_iff_eq, ne_eq, beq_eq_false_iff_ne, gt_iff_lt, Bool.not_not]
 simp only [← nI]
 refine ⟨by simp, fun h1 => by simp at h1; simp [pointErr, h1], fun h1 => ⟨fun h2 => ?_, fun h2 => ⟨fun h3 => ?_, fun h3 => ?_⟩⟩⟩
 all_goals simp only [List.any_cons, List.any_nil, Bool.or_false, Bool.not_eq_false'] at h1
 ·have : 60 < rows.length := by omega
  simp [pointErr, h1, this]
 ·have h3 : rows.length = 0 := by omega
  simp [pointErr, h1, h3]
 have h2' : ¬ 60 < rows.length := by omega
 have h3' : ¬ rows.length = 0 := by omega
 have hi : 1 ≤ hd ∧ hd ≤ 24 := by simpa [inI] using h1
 have hp := pow_bound hi.1 hi.2
 have hte : pointErr hd rows = if rows.any (fun x => !inI x 0 (2 ^ hd.toNat - 1)) then 2 else 0 := by simp only [pointErr, h1, h2', h3']; simp
 rw [hte]
 simp only [InK_i64, shl_one (show 0 ≤ hd by omega) (by omega)]
 refine ⟨by omega, by omega, by omega, by omega, fun h => by rw [if_pos h], fun h => by rw [h]; rfl⟩
def al_tie_mark : AL (Bool) := (.one (.k .bo))
def pre_tie_mark (d : Bool) : Prop := True
def res_tie_mark (d : Bool) : SV := .val (.i .u8) (markI d)
def obs_tie_mark (d : Bool) : List OB := []
def s_tie_mark : CSp := mkSp al_tie_mark pre_tie_mark res_tie_mark obs_tie_mark
def vc_tie_mark (x : Bool) : Prop :=
 (x = true →
  ((120 : Int) = (markI x) ∧ (True))) ∧
 (x = false →
  ((46 : Int) = (markI x) ∧ (True)))
def cx_tie_mark : Cx := ⟨[], [], 4, [], 0, [], [], [], [], false⟩
def lp_tie_mark (x : Bool) : List (Nat × LoopAnn) := []
set_option maxRecDepth 100000 in
theorem vq_tie_mark (d : Bool) : gwp (cx_tie_mark) (lp_tie_mark d) c82 0 (gend [.tmp 2] (res_tie_mark d) (obs_tie_mark d)) (gstart 4 (AL.can al_tie_mark d)) = vc_tie_mark d := by kernel_rfl
abbrev Ok_tie_mark : Prop := OkC Tryd.prog 82 s_tie_mark
theorem mk_tie_mark (h : ∀ (x : Bool), (True) → vc_tie_mark x) : OkC Tryd.prog 82 s_tie_mark :=
 okC_vc fun82 mixed (C := cx_tie_mark) (V := fun (d : Bool) => vc_tie_mark d) ⟨.nil, XsOk.nil, ItsOk.nil⟩ (vq_tie_mark) fun d hp => h d hp
theorem ok_tie_mark : Ok_tie_mark := mk_tie_mark fun x _ => by
 cases x <;> simp [vc_tie_mark, markI]
def al_tie_harness_lifted : AL ((Int × List Int) × Int × Int) := (.cons (.agg (.cons (.k (.i .i64)) (.one (.k (.list (.i .i64)))))) (.cons (.k (.i .i64)) (.one (.k (.i .i64)))))
def pre_tie_harness_lifted (d : (Int × List Int) × Int × Int) : Prop := 0 ≤ d.2.2 ∧ d.2.2 < d.1.2.length ∧ 0 ≤ d.2.1 ∧ d.2.1 < 9223372036854775808 ∧ ∀ x ∈ d.1.2, 0 ≤ x ∧ x ≤ 60
def res_tie_harness_lifted (d : (Int × List Int) × Int × Int) : SV := .val .bo (d.2.1.toNat.testBit (d.1.2.getD d.2.2.toNat 0).toNat)
def obs_tie_harness_lifted (d : (Int × List Int) × Int × Int) : List OB := []
def s_tie_harness_lifted : CSp := mkSp al_tie_harness_lifted pre_tie_harness_lifted res_tie_harness_lifted obs_tie_harness_lifted
def vc_tie_harness_lifted (hk : Int) (lw : List Int) (row : Int) (w : Int) : Prop :=
 (0 ≤ w) ∧ (w < (List.length lw)) ∧ (0 ≤ (gD lw w 0)) ∧ (((vbits .and .i64 (shrI .i64 row (gD lw w 0)) (1 : Int)) == (1 : Int)) = (row.toNat.testBit (lw.getD w.toNat 0).toNat) ∧ (True))
def cx_tie_harness_lifted : Cx := ⟨[], [], 17, [], 0, [], [], [], [], false⟩
def lp_tie_harness_lifted (hk : Int) (lw : List Int) (row : Int) (w : Int) : List (Nat × LoopAnn) := []
set_option maxRecDepth 100000 in
theorem vq_tie_harness_lifted (d : (Int × List Int) × Int × Int) : gwp (cx_tie_harness_lifted) (lp_tie_harness_lifted d.1.1 d.1.2 d.2.1 d.2.2) c83 0 (gend [.tmp 6] (res_tie_harness_lifted d) (obs_tie_harness_lifted d)) (gstart 17 (AL.can al_tie_harness_lifted d)) = vc_tie_harness_lifted d.1.1 d.1.2 d.2.1 d.2.2 := by kernel_rfl
abbrev Ok_tie_harness_lifted : Prop := OkC Tryd.prog 83 s_tie_harness_lifted
theorem mk_tie_harness_lifted (h : ∀ (hk : Int) (lw : List Int) (row : Int) (w : Int), (0 ≤ w ∧ w < lw.length ∧ 0 ≤ row ∧ row < 9223372036854775808 ∧ ∀ x ∈ lw, 0 ≤ x ∧ x ≤ 60) → vc_tie_harness_lifted hk lw row w) : OkC Tryd.prog 83 s_tie_harness_lifted :=
 okC_vc fun83 mixed (C := cx_tie_harness_lifted) (V := fun (d : (Int × List Int) × Int × Int) => vc_tie_harness_lifted d.1.1 d.1.2 d.2.1 d.2.2) ⟨.nil, XsOk.nil, ItsOk.nil⟩ (vq_tie_harness_lifted) fun d hp => h d.1.1 d.1.2 d.2.1 d.2.2 hp
theorem ok_tie_harness_lifted : Ok_tie_harness_lifted := mk_tie_harness_lifted fun hk lw row w h => by
 obtain ⟨h1, h2, h3, h4, h5⟩ := h
 obtain ⟨w, rfl⟩ := Int.eq_ofNat_of_zero_le h1
 obtain ⟨r, rfl⟩ := Int.eq_ofNat_of_zero_le h3
 have hw : w < lw.length := by omega
 have hx := h5 _ (List.getElem_mem hw)
 obtain ⟨k, hk⟩ := Int.eq_ofNat_of_zero_le hx.1
 unfold vc_tie_harness_lifted; (try delta lI gD sT I64); simp only [and_true, Int.toNat_natCast, Int.ofNat_lt, getD_nat hw, hk]
 refine ⟨by omega, by omega, by omega, ?_⟩
 exact shr_bit (by omega) (by omega)
end Go.Proofs.Tryd
set_option linter.unusedVariables false
namespace Go.Proofs.Tryd
open Go Go.V Go.Proofs
def cx_strings_Builder_copyCheck : Cx := ⟨[], [], 20, [], 0, [(108, sameX)], [], [], [], false⟩
def x_strings_Builder_copyCheck : XSp := inlX cx_strings_Builder_copyCheck (fun _ => []) c96 [] 20
theorem okx_strings_Builder_copyCheck : XOk Tryd.prog 96 x_strings_Builder_copyCheck := inlX_ok fun96 mixed (C := cx_strings_Builder_copyCheck) ⟨.nil, (XsOk.cons (sameX_ok same108) XsOk.nil), ItsOk.nil⟩ _
def cx_strings_Builder_WriteByte : Cx := ⟨[(5, (.i .u8))], [], 17, [], 0, [(96, x_strings_Builder_copyCheck)], [], [], [], false⟩
def x_strings_Builder_WriteByte : XSp := inlX cx_strings_Builder_WriteByte (fun _ => []) c81 [.tmp 4] 17
theorem okx_strings_Builder_WriteByte : XOk Tryd.prog 81 x_strings_Builder_WriteByte := inlX_ok fun81 mixed (C := cx_strings_Builder_WriteByte) ⟨.nil, (XsOk.cons okx_strings_Builder_copyCheck XsOk.nil), ItsOk.nil⟩ _
def cx_strings_Builder_String : Cx := ⟨[], [], 14, [], 0, [], [], [], [], false⟩
def x_strings_Builder_String : XSp := inlX cx_strings_Builder_String (fun _ => []) c84 [.tmp 2] 14
theorem okx_strings_Builder_String : XOk Tryd.prog 84 x_strings_Builder_String := inlX_ok fun84 mixed (C := cx_strings_Builder_String) ⟨.nil, XsOk.nil, ItsOk.nil⟩ _
def al_tie_harness_pick : AL ((Int × List Int) × Int) := (.cons (.agg (.cons (.k (.i .i64)) (.one (.k (.list (.i .i64)))))) (.one (.k (.i .i64))))
def pre_tie_harness_pick (d : (Int × List Int) × Int) : Prop := d.1.2.length ≤ 110 ∧ 0 ≤ d.2 ∧ d.2 < 9223372036854775808 ∧ ∀ x ∈ d.1.2, 0 ≤ x ∧ x ≤ 60
def res_tie_harness_pick (d : (Int × List Int) × Int) : SV := .val .st (pickS d.1.2 d.2)
def obs_tie_harness_pick (d : (Int × List Int) × Int) : List OB := []
def s_tie_harness_pick : CSp := mkSp al_tie_harness_pick pre_tie_harness_pick res_tie_harness_pick obs_tie_harness_pick
def vc_tie_harness_pick (hk : Int) (lw : List Int) (row : Int) : Prop :=
 ∃ (e4 : Unit) (d40 : Bool × (List Int) × Int), ((row = row ∧ True ∧ True ∧ (lI lw) = (lI lw) ∧ (0 : Int) = d40.2.2 ∧ True) ∧ ((hk = hk ∧ lw = lw ∧ (([] : List SV) = [])) ∧ (d40.1 = false ∧ True ∧ (([] : List SV) = [])) ∧ (d40.2.1 = [] ∧ (List.isEmpty d40.2.1) = true) ∧ True)) ∧
 LoopP (fun (d4 : Bool × (List Int) × Int) (q4 : (Bool × (List Int) × Int) → Prop) =>
  ((decide (d4.2.2 < (lI lw))) = true →
   (0 ≤ d4.2.2 ∧ d4.2.2 < lw.length ∧ 0 ≤ row ∧ row < 9223372036854775808 ∧ ∀ x ∈ lw, 0 ≤ x ∧ x ≤ 60) ∧ (True) ∧ ∀ w5 : List Value, ∀ w6 : List Value, ((!d4.1) = true →
    w6 = w6 ∧ (((List.length d4.2.1) + (List.length [(markI (row.toNat.testBit (lw.getD d4.2.2.toNat 0).toNat))])) * 1 ≤ 70368744177664) ∧ w5 = w5 ∧ (I64 (d4.2.2 + (1 : Int))) ∧ (∃ d7 : Bool × (List Int) × Int, ((row = row ∧ True ∧ True ∧ (lI lw) = (lI lw) ∧ (d4.2.2 + (1 : Int)) = d7.2.2 ∧ True) ∧ ((hk = hk ∧ lw = lw ∧ (([] : List SV) = [])) ∧ (d7.1 = true ∧ True ∧ (([] : List SV) = [])) ∧ ((d4.2.1 ++ [(markI (row.toNat.testBit (lw.getD d4.2.2.toNat 0).toNat))]) = d7.2.1 ∧ false = (List.isEmpty d7.2.1)) ∧ True)) ∧ q4 d7)) ∧
   ((!d4.1) = false →
    (d4.1 = true) ∧ ((!true) = true →
     False) ∧
    ((!true) = false →
     w6 = w6 ∧ (((List.length d4.2.1) + (List.length [(markI (row.toNat.testBit (lw.getD d4.2.2.toNat 0).toNat))])) * 1 ≤ 70368744177664) ∧ w5 = w5 ∧ (I64 (d4.2.2 + (1 : Int))) ∧ (∃ d8 : Bool × (List Int) × Int, ((row = row ∧ True ∧ True ∧ (lI lw) = (lI lw) ∧ (d4.2.2 + (1 : Int)) = d8.2.2 ∧ True) ∧ ((hk = hk ∧ lw = lw ∧ (([] : List SV) = [])) ∧ (d4.1 = d8.1 ∧ True ∧ (([] : List SV) = [])) ∧ ((d4.2.1 ++ [(markI (row.toNat.testBit (lw.getD d4.2.2.toNat 0).toNat))]) = d8.2.1 ∧ false = (List.isEmpty d8.2.1)) ∧ True)) ∧ q4 d8)))) ∧
  ((decide (d4.2.2 < (lI lw))) = false →
   ∀ w9 : List Value, ((List.isEmpty d4.2.1) = false → d4.2.1 ≠ []) ∧ ((lI d4.2.1) = (List.length d4.2.1)) ∧ ((List.length d4.2.1) ≤ 4611686018427387904) ∧ w9 = w9 ∧ ((bytesI d4.2.1) = (pickS lw row) ∧ (True)))) d40
def cx_tie_harness_pick : Cx := ⟨[(5, (.i .u8))], [(83, s_tie_harness_lifted), (82, s_tie_mark)], 22, [], 0, [(81, x_strings_Builder_WriteByte), (96, x_strings_Builder_copyCheck), (108, sameX), (84, x_strings_Builder_String)], [], [], [], false⟩
def lp_tie_harness_pick (hk : Int) (lw : List Int) (row : Int) : List (Nat × LoopAnn) := [(0, ⟨Unit, Bool × (List Int) × Int, [1, 2, 5, 10, 11], fun e x => [.val (.i .i64) row, .box 2 0, .box 5 0, .val (.i .i64) (((List.length lw) : Nat) : Int), .val (.i .i64) x.2.2], fun e x => [(2, .slot 2, .cells [.val (.i .i64) hk, .val (.list (.i .i64)) lw] (some 107)), (5, .slot 5, .cells [.dd 5 (.obx x.1), .lst 2000014] (some 131)), (2000014, .cell 5 1, .lst 5 (.i .u8) x.2.1 (List.isEmpty x.2.1))]⟩)]
set_option maxRecDepth 100000 in
theorem vq_tie_harness_pick (d : (Int × List Int) × Int) : gwp (cx_tie_harness_pick) (lp_tie_harness_pick d.1.1 d.1.2 d.2) c64 0 (gend [.tmp 4] (res_tie_harness_pick d) (obs_tie_harness_pick d)) (gstart 22 (AL.can al_tie_harness_pick d)) = vc_tie_harness_pick d.1.1 d.1.2 d.2 := by kernel_rfl
abbrev Ok_tie_harness_pick : Prop := OkC Tryd.prog 64 s_tie_harness_pick
theorem mk_tie_harness_pick (h : ∀ (hk : Int) (lw : List Int) (row : Int), (lw.length ≤ 110 ∧ 0 ≤ row ∧ row < 9223372036854775808 ∧ ∀ x ∈ lw, 0 ≤ x ∧ x ≤ 60) → vc_tie_harness_pick hk lw row) : OkC Tryd.prog 64 s_tie_harness_pick :=
 okC_vc fun64 mixed (C := cx_tie_harness_pick) (V := fun (d : (Int × List Int) × Int) => vc_tie_harness_pick d.1.1 d.1.2 d.2) ⟨(.cons ok_tie_harness_lifted (.cons ok_tie_mark .nil)), (XsOk.cons okx_strings_Builder_WriteByte (XsOk.cons okx_strings_Builder_copyCheck (XsOk.cons (sameX_ok same108) (XsOk.cons okx_strings_Builder_String XsOk.nil)))), ItsOk.nil⟩ (vq_tie_harness_pick) fun d hp => h d.1.1 d.1.2 d.2 hp
theorem bytes_mark (lw : List Int) (row : Int) : bytesI (lw.map fun k => markI (row.toNat.testBit k.toNat)) = pickS lw row := by
 simp only [bytesI, pickS, List.map_map]
 refine List.map_congr_left fun k _ => ?_
 simp only [Function.comp, markI]
 split <;> rfl
theorem ok_tie_harness_pick : Ok_tie_harness_pick := mk_tie_harness_pick fun hk lw row h => by
 obtain ⟨h1, h2, h3, h4⟩ := h
 unfold vc_tie_harness_pick; (try delta lI gD sT I64); simp only [true_and, and_true, exists_const, decide_eq_true_eq, decide_eq_false_iff_not, ne_eq, Bool.not_eq_true', Bool.not_eq_false', InK_i64]
 refine ⟨(false, [], 0), ⟨rfl, rfl, rfl, rfl⟩, ?_⟩
 refine ⟨fun d => ∃ i : Nat, i ≤ lw.length ∧ d.2.2 = i ∧ d.2.1 = (lw.take i).map fun k => markI (row.toNat.testBit k.toNat), fun d => lw.length - d.2.2.toNat, ⟨0, Nat.zero_le _, rfl, by simp⟩, ?_⟩
 rintro ⟨c, xs, _⟩ ⟨i, hi, rfl, hxs⟩
 dsimp only at hxs ⊢
 have hxl : xs.length = i := by rw [hxs]; simp; omega
 refine ⟨fun hlt => ?_, fun hge => ?_⟩
 ·have hlt : i < lw.length := by omega
  have hn : xs ++ [markI (row.toNat.testBit lw[i].toNat)] = (lw.take (i + 1)).map fun k => markI (row.toNat.testBit k.toNat) := by rw [hxs, take_succ_eq hlt, List.map_append]; rfl
  simp only [Int.toNat_natCast, getD_nat hlt, List.length_singleton]
  refine ⟨⟨by omega, by omega, h2, h3, h4⟩, fun _ w6 => ⟨fun hc => ?_, fun hc => ?_⟩⟩
  ·exact ⟨by omega, by omega, (true, xs ++ [markI (row.toNat.testBit lw[i].toNat)], (i : Int) + 1), ⟨rfl, rfl, rfl, by simp⟩, ⟨i + 1, by omega, by simp, hn⟩, by dsimp only; omega⟩
  ·refine ⟨by simpa using hc, ?_⟩
   refine ⟨fun h => by simp at h, fun _ => ?_⟩
   exact ⟨by omega, by omega, (c, xs ++ [markI (row.toNat.testBit lw[i].toNat)], (i : Int) + 1), ⟨rfl, rfl, rfl, by simp⟩, ⟨i + 1, by omega, by simp, hn⟩, by dsimp only; omega⟩
 ·have : i = lw.length := by omega
  subst this
  rw [List.take_length] at hxs
  refine fun _ => ⟨?_, by omega, ?_⟩
  ·intro hne h0; rw [h0] at hne; simp at hne
  ·rw [hxs]; exact bytes_mark lw row
end Go.Proofs.Tryd
set_option linter.unusedVariables false
namespace Go.Proofs.Tryd
open Go Go.V Go.Proofs
def al_tie_Weave : AL ((Int × List Int) × Int × List Int) := (.cons (.agg (.cons (.k (.i .i64)) (.one (.k (.list (.i .i64)))))) (.one (.agg (.cons (.k (.i .i64)) (.one (.k (.list (.i .i64))))))))
def pre_tie_Weave (d : (Int × List Int) × Int × List Int) : Prop := d.1.2.length ≤ 110 ∧ d.2.2.length ≤ 110
def res_tie_Weave (d : (Int × List Int) × Int × List Int) : SV := .tup [.lst 0, .val (.i .i64) (weaveErr d.1.1 d.1.2 d.2.1 d.2.2)]
def obs_tie_Weave (d : (Int × List Int) × Int × List Int) : List OB := [.lst 9 .st (weaveC d.1.1 d.1.2 d.2.1 d.2.2) ((weaveC d.1.1 d.1.2 d.2.1 d.2.2).isEmpty)]
def s_tie_Weave : CSp := mkSp al_tie_Weave pre_tie_Weave res_tie_Weave obs_tie_Weave
def vc_tie_Weave (hk : Int) (lw : List Int) (hd : Int) (rows : List Int) : Prop :=
 (lw.length ≤ 1000000) ∧ (((tieErr hk lw) != (0 : Int)) = true →
  ((True ∧ (tieErr hk lw) = weaveErr hk lw hd rows ∧ (([] : List SV) = [])) ∧ (((weaveC hk lw hd rows) = [] ∧ (weaveC hk lw hd rows).isEmpty = true) ∧ True))) ∧
 (((tieErr hk lw) != (0 : Int)) = false →
  (rows.length ≤ 1000000) ∧ (((pointErr hd rows) != (0 : Int)) = true →
   ((True ∧ (pointErr hd rows) = weaveErr hk lw hd rows ∧ (([] : List SV) = [])) ∧ (((weaveC hk lw hd rows) = [] ∧ (weaveC hk lw hd rows).isEmpty = true) ∧ True))) ∧
  (((pointErr hd rows) != (0 : Int)) = false →
   ((hd != hk) = true →
    ((True ∧ (4 : Int) = weaveErr hk lw hd rows ∧ (([] : List SV) = [])) ∧ (((weaveC hk lw hd rows) = [] ∧ (weaveC hk lw hd rows).isEmpty = true) ∧ True))) ∧
   ((hd != hk) = false →
    ∃ (e4 : Unit) (d40 : (List (List UInt8)) × Int), ((True ∧ True ∧ rows = rows ∧ (lI rows) = (lI rows) ∧ (0 : Int) = d40.2 ∧ True) ∧ ((hk = hk ∧ lw = lw ∧ (([] : List SV) = [])) ∧ (d40.1 = [] ∧ (List.isEmpty d40.1) = true) ∧ True)) ∧
    LoopP (fun (d4 : (List (List UInt8)) × Int) (q4 : ((List (List UInt8)) × Int) → Prop) =>
     ((decide (d4.2 < (lI rows))) = true →
      (0 ≤ d4.2) ∧ (d4.2 < (List.length rows)) ∧ (lw.length ≤ 110 ∧ 0 ≤ (gD rows d4.2 0) ∧ (gD rows d4.2 0) < 9223372036854775808 ∧ ∀ x ∈ lw, 0 ≤ x ∧ x ≤ 60) ∧ (((List.length d4.1) + (List.length [(pickS lw (gD rows d4.2 0))])) * 16 ≤ 70368744177664) ∧ (I64 (d4.2 + (1 : Int))) ∧ (∃ d5 : (List (List UInt8)) × Int, ((True ∧ True ∧ rows = rows ∧ (lI rows) = (lI rows) ∧ (d4.2 + (1 : Int)) = d5.2 ∧ True) ∧ ((hk = hk ∧ lw = lw ∧ (([] : List SV) = [])) ∧ ((d4.1 ++ [(pickS lw (gD rows d4.2 0))]) = d5.1 ∧ false = (List.isEmpty d5.1)) ∧ True)) ∧ q4 d5)) ∧
     ((decide (d4.2 < (lI rows))) = false →
      ((True ∧ (0 : Int) = weaveErr hk lw hd rows ∧ (([] : List SV) = [])) ∧ ((d4.1 = (weaveC hk lw hd rows) ∧ (List.isEmpty d4.1) = (weaveC hk lw hd rows).isEmpty) ∧ True)))) d40)))
def cx_tie_Weave : Cx := ⟨[(9, .st)], [(62, s_tie_Check), (63, s_point_Check), (64, s_tie_harness_pick)], 43, [], 0, [], [], [], [], false⟩
def lp_tie_Weave (hk : Int) (lw : List Int) (hd : Int) (rows : List Int) : List (Nat × LoopAnn) := [(1, ⟨Unit, (List (List UInt8)) × Int, [2, 4, 28, 29, 30], fun e x => [.box 2 0, .lst 40, .val (.list (.i .i64)) rows, .val (.i .i64) (((List.length rows) : Nat) : Int), .val (.i .i64) x.2], fun e x => [(2, .slot 2, .cells [.val (.i .i64) hk, .val (.list (.i .i64)) lw] (some 24)), (40, .slot 4, .lst 9 .st x.1 (List.isEmpty x.1))]⟩)]
set_option maxRecDepth 100000 in
theorem vq_tie_Weave (d : (Int × List Int) × Int × List Int) : gwp (cx_tie_Weave) (lp_tie_Weave d.1.1 d.1.2 d.2.1 d.2.2) c36 0 (gend [.tmp 4, .tmp 5] (res_tie_Weave d) (obs_tie_Weave d)) (gstart 43 (AL.can al_tie_Weave d)) = vc_tie_Weave d.1.1 d.1.2 d.2.1 d.2.2 := by kernel_rfl
abbrev Ok_tie_Weave : Prop := OkC Tryd.prog 36 s_tie_Weave
theorem mk_tie_Weave (h : ∀ (hk : Int) (lw : List Int) (hd : Int) (rows : List Int), (lw.length ≤ 110 ∧ rows.length ≤ 110) → vc_tie_Weave hk lw hd rows) : OkC Tryd.prog 36 s_tie_Weave :=
 okC_vc fun36 mixed (C := cx_tie_Weave) (V := fun (d : (Int × List Int) × Int × List Int) => vc_tie_Weave d.1.1 d.1.2 d.2.1 d.2.2) ⟨(.cons ok_tie_Check (.cons ok_point_Check (.cons ok_tie_harness_pick .nil))), XsOk.nil, ItsOk.nil⟩ (vq_tie_Weave) fun d hp => h d.1.1 d.1.2 d.2.1 d.2.2 hp
theorem tieErr_zero {hk : Int} {lw : List Int} (h : tieErr hk lw = 0) : 1 ≤ hk ∧ hk ≤ 24 ∧ lw.length ≤ 96 ∧ lw.length ≠ 0 ∧ ∀ x ∈ lw, 0 ≤ x ∧ x < hk := by
 unfold tieErr at h
 split at h
 ·cases h
 ·rename_i h1
  split at h
  ·cases h
  ·rename_i h2
   split at h
   ·cases h
   ·rename_i h3
    split at h
    ·cases h
    ·rename_i h4
     have h1 : 1 ≤ hk ∧ hk ≤ 24 := by simpa [inI] using h1
     refine ⟨h1.1, h1.2, by omega, h3, fun x hx => ?_⟩
     have h5 : ∀ x ∈ lw, inI x 0 (hk - 1) = true := by simpa using h4
     have := h5 x hx
     simp only [inI, Bool.and_eq_true, decide_eq_true_eq] at this
     omega
theorem pointErr_zero {hd : Int} {rows : List Int} (h : pointErr hd rows = 0) : 1 ≤ hd ∧ hd ≤ 24 ∧ rows.length ≤ 60 ∧ rows.length ≠ 0 ∧ ∀ x ∈ rows, 0 ≤ x ∧ x < 2 ^ hd.toNat := by
 unfold pointErr at h
 split at h
 ·cases h
 ·rename_i h1
  split at h
  ·cases h
  ·rename_i h2
   split at h
   ·cases h
   ·rename_i h3
    split at h
    ·cases h
    ·rename_i h4
     have h1 : 1 ≤ hd ∧ hd ≤ 24 := by simpa [inI] using h1
     refine ⟨h1.1, h1.2, by omega, h3, fun x hx => ?_⟩
     have h5 : ∀ x ∈ rows, inI x 0 (2 ^ hd.toNat - 1) = true := by simpa using h4
     have := h5 x hx
     simp only [inI, Bool.and_eq_true, decide_eq_true_eq] at this
     omega
theorem ok_tie_Weave : Ok_tie_Weave := mk_tie_Weave fun hk lw hd rows h => by
 obtain ⟨h1, h2⟩ := h
 unfold vc_tie_Weave; (try delta lI gD sT I64); simp only [true_and, and_true, exists_const, decide_eq_true_eq, decide_eq_false_iff_not, bne_iff_ne, ne_eq, bne_eq_false_iff_eq, InK_i64]
 refine ⟨by omega, fun he => ?_, fun he => ⟨by omega, fun hp => ?_, fun hp => ⟨fun hh => ?_, fun hh => ?_⟩⟩⟩
 ·have e : weaveErr hk lw hd rows = tieErr hk lw := by simp [weaveErr, he]
  have e2 : weaveC hk lw hd rows = [] := by simp [weaveC, e, he]
  rw [e, e2]; exact ⟨rfl, rfl, rfl⟩
 ·have e : weaveErr hk lw hd rows = pointErr hd rows := by simp [weaveErr, he, hp]
  have e2 : weaveC hk lw hd rows = [] := by simp [weaveC, e, hp]
  rw [e, e2]; exact ⟨rfl, rfl, rfl⟩
 ·have e : weaveErr hk lw hd rows = 4 := by simp [weaveErr, he, hp, hh]
  have e2 : weaveC hk lw hd rows = [] := by simp [weaveC, e]
  rw [e, e2]; exact ⟨rfl, rfl, rfl⟩
 have e : weaveErr hk lw hd rows = 0 := by unfold weaveErr; rw [if_neg (by omega), if_neg (by omega), if_neg (by omega)]
 have e2 : weaveC hk lw hd rows = rows.map (pickS lw) := by simp [weaveC, e]
 obtain ⟨t1, t2, t3, t4, t5⟩ := tieErr_zero he
 obtain ⟨p1, p2, p3, p4, p5⟩ := pointErr_zero hp
 have hpw := pow_bound p1 p2
 rw [e, e2]
 refine ⟨([], 0), ⟨rfl, rfl, rfl⟩, ?_⟩
 refine LoopP.count2 rows.length (fun k xs => xs = (rows.take k).map (pickS lw)) (by simp) fun k xs hk hJ q hq => ?_
 have hxl : xs.length = k := by rw [hJ]; simp; omega
 dsimp only
 refine ⟨fun hlt => ?_, fun hge => ?_⟩
 ·have hlt : k < rows.length := by omega
  have hr := p5 _ (List.getElem_mem hlt)
  simp only [Int.toNat_natCast, getD_nat hlt, List.length_singleton]
  refine ⟨by omega, by omega, ⟨h1, hr.1, by omega, fun x hx => by have := t5 x hx; omega⟩, by omega, by omega, (xs ++ [pickS lw rows[k]], (k : Int) + 1), ⟨rfl, rfl, by simp⟩, hq _ hlt ?_⟩
  rw [take_succ_eq hlt, List.map_append, ← hJ]; rfl
 ·have : k = rows.length := by omega
  subst this
  rw [List.take_length] at hJ
  rw [hJ]
  exact ⟨rfl, rfl, rfl⟩
end Go.Proofs.Tryd