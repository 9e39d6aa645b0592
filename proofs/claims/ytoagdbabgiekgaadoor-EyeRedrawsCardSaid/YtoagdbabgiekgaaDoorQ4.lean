/- A framework for walks, contracts of functions, and their proofs: part 4. -/
import Derived.Test.YtoagdbabgiekgaaDoorProg
import Derived.ProofKit
import Derived.OpenShut
import Derived.LaidMore
import Derived.Carry
import Derived.Lib.SmallJoins
import Derived.Test.YtoagdbabgiekgaaDoorQ3
namespace Go.V
open Go
def gres1 (s : St) : VResult → Option SV
  | .tmp t => some (s.env.getD t .any)
  | .cell a agg size => bif Nat.blt 0 size then gload s.own agg size (s.env.getD a .any) else none
def gresults (s : St) (rs : List VResult) : Option SV :=
  match rs with
  | [r] => gres1 s r
  | rs => (rs.mapM (gres1 s)).map .tup
def radd (mp : List (Nat × Option Nat)) (j : Nat) (a : Option Nat) : Option (List (Nat × Option Nat)) :=
  if (alook mp j).isSome then none else match a with
  | some x => if mp.any fun p => p.2 == some x then none else some (mp ++ [(j, a)])
  | none => some (mp ++ [(j, a)])
mutual
def rmap : SV → SV → List (Nat × Option Nat) → Option (List (Nat × Option Nat))
  | .lst j, v, mp => match v with | .lst a => radd mp j (some a) | .nilS => radd mp j none | _ => none
  | .map j, v, mp => match v with | .map a => radd mp j (some a) | _ => none
  | .box j _, v, mp => match v with | .box a _ => radd mp j (some a) | _ => none
  | .agg l, v, mp => match v with | .agg l' => rmaps l l' mp | _ => none
  | .tup l, v, mp => match v with | .tup l' => rmaps l l' mp | _ => none
  | .any, _, mp => some mp
  | .val _ _, _, mp => some mp
  | .nilS, _, mp => some mp
  | .nilP, _, mp => some mp
  | .nilM, _, mp => some mp
  | .nilF, _, mp => some mp
  | .sub _ _ _ _, _, _ | .elp _ _ _ _, _, _ | .grd _ _, _, _ | .cp _ _, _, _ | .fn _ _ _, _, _ | .rop _ _ _ _, _, _ | .pf _ _ _ _, _, _ | .bid _ _, _, _ => none
def rmaps : List SV → List SV → List (Nat × Option Nat) → Option (List (Nat × Option Nat))
  | [], _, mp => some mp
  | s :: ss, l, mp => match l with
    | v :: vs => match rmap s v mp with | some mp => rmaps ss vs mp | none => none
    | [] => none
end
def gobsR (s : St) (mp : List (Nat × Option Nat)) : Nat → List OB → Prop
  | _, [] => True
  | j, b :: r => obEq s mp j b ∧ gobsR s mp (j + 1) r
def gend (rs : List VResult) (v : SV) (bs : List OB) : Exit → St → Prop := fun e s =>
  let fin := match gresults s rs with
    | some r => (match rmap v r [] with
      | some mp => svEq mp v r ∧ gobsR s mp 0 bs
      | none => False)
    | none => False
  match e with
  | .normal => fin
  | .ret => fin
  | _ => False
section
variable {P : Program} {B F : Heap} {pl : Nat → Value} {tb : Nat → Option Bool} {s : St} {env : Env} {σ : Heap}
theorem gres1_sound (hG : Gam P B F pl tb s env σ) {r : VResult} {v : SV} (h : gres1 s r = some v) : ∃ u, vresult env σ r = some u ∧ SR P B pl tb v u := by
  cases r with
  | tmp t => obtain rfl := Option.some.inj h; exact ⟨_, rfl, hG.env.getD t undef⟩
  | cell a agg size =>
    simp only [gres1] at h
    cases hb : Nat.blt 0 size with
    | false => rw [hb] at h; cases h
    | true =>
      rw [hb] at h
      obtain ⟨i, o, c, e, wr, t, u, h1, h2, h3, h4⟩ := gload_sound hG.leB hG.obj (by simpa [Nat.blt_eq] using hb) h (hG.env.getD a undef)
      refine ⟨u, ?_, h4⟩
      simp only [vresult, vact, evalO, h1, h2, h3]; rfl
theorem gresults_sound (hG : Gam P B F pl tb s env σ) {rs : List VResult} {v : SV} (h : gresults s rs = some v) : ∃ u, vresults env σ rs = some u ∧ SR P B pl tb v u := by
  have all : ∀ (rs : List VResult) (l : List SV), rs.mapM (gres1 s) = some l → ∃ us, rs.mapM (vresult env σ) = some us ∧ SRs P B pl tb l us := by
    intro rs
    induction rs with
    | nil => intro l h; simp at h; subst h; exact ⟨[], rfl, rfl⟩
    | cons r rs ih =>
      intro l h
      rw [List.mapM_cons] at h
      cases h1 : gres1 s r with
      | none => simp [h1] at h
      | some a =>
        cases h2 : rs.mapM (gres1 s) with
        | none => simp [h1, h2] at h
        | some l' =>
          simp [h1, h2] at h
          subst h
          obtain ⟨u, h3, h4⟩ := gres1_sound hG h1
          obtain ⟨us, h5, h6⟩ := ih l' h2
          exact ⟨u :: us, by rw [List.mapM_cons]; simp [h3, h5], by simp only [SRs]; exact ⟨u, us, rfl, h4, h6⟩⟩
  have tup : (rs.mapM (gres1 s)).map SV.tup = some v → ∃ u, (rs.mapM (vresult env σ)).map (fun vs => Value.tuple vs.toArray) = some u ∧ SR P B pl tb v u := fun h => by
    simp only [Option.map_eq_some_iff] at h
    obtain ⟨l, h1, rfl⟩ := h
    obtain ⟨us, h2, h3⟩ := all rs l h1
    exact ⟨.tuple us.toArray, by rw [h2]; rfl, by simp only [SR]; exact ⟨us, rfl, h3⟩⟩
  match rs, h, tup with
  | [r], h, _ => exact gres1_sound hG h
  | [], h, tup => exact tup h
  | _ :: _ :: _, h, tup => exact tup h
theorem radd_inj {mp mp' : List (Nat × Option Nat)} {j : Nat} {a : Option Nat} (h : radd mp j a = some mp') (hi : Inj mp) : Inj mp' := by
  unfold radd at h
  split at h
  · cases h
  · split at h
    · rename_i x
      split at h
      · cases h
      · rename_i hc
        obtain rfl := Option.some.inj h
        have hfr : ∀ d, alook mp d ≠ some (some x) := fun d hd => by
          obtain ⟨p, h1, h2, h3⟩ := alook_mem hd
          exact hc (List.any_eq_true.2 ⟨p, h1, by rw [h3]; simp⟩)
        intro t1 t2 a' h1 h2
        rw [alook_append] at h1 h2
        split at h1
        · rename_i y1 e1
          split at h2
          · rename_i y2 e2
            obtain rfl := Option.some.inj h1
            obtain rfl := Option.some.inj h2
            exact hi t1 t2 a' e1 e2
          · split at h2
            · obtain rfl := Option.some.inj (Option.some.inj h2)
              obtain rfl := Option.some.inj h1
              exact absurd e1 (hfr t1)
            · cases h2
        · split at h1
          · obtain rfl := Option.some.inj (Option.some.inj h1)
            split at h2
            · rename_i y2 e2
              obtain rfl := Option.some.inj h2
              exact absurd e2 (hfr t2)
            · split at h2
              · omega
              · cases h2
          · cases h1
    · obtain rfl := Option.some.inj h
      intro t1 t2 a' h1 h2
      rw [alook_append] at h1 h2
      split at h1
      · rename_i y1 e1
        split at h2
        · rename_i y2 e2
          obtain rfl := Option.some.inj h1
          obtain rfl := Option.some.inj h2
          exact hi t1 t2 a' e1 e2
        · split at h2 <;> cases h2
      · split at h1 <;> cases h1
mutual
theorem rmap_inj : ∀ (v r : SV) (mp mp' : List (Nat × Option Nat)), rmap v r mp = some mp' → Inj mp → Inj mp'
  | .lst j, r, mp, mp', h, hi => by
    simp only [rmap] at h
    split at h
    · exact radd_inj h hi
    · exact radd_inj h hi
    · cases h
  | .map j, r, mp, mp', h, hi => by
    simp only [rmap] at h
    split at h
    · exact radd_inj h hi
    · cases h
  | .box j _, r, mp, mp', h, hi => by
    simp only [rmap] at h
    split at h
    · exact radd_inj h hi
    · cases h
  | .agg l, r, mp, mp', h, hi => by
    simp only [rmap] at h
    split at h
    · exact rmaps_inj l _ mp mp' h hi
    · cases h
  | .tup l, r, mp, mp', h, hi => by
    simp only [rmap] at h
    split at h
    · exact rmaps_inj l _ mp mp' h hi
    · cases h
  | .any, r, mp, mp', h, hi | .val _ _, r, mp, mp', h, hi | .nilS, r, mp, mp', h, hi | .nilP, r, mp, mp', h, hi | .nilM, r, mp, mp', h, hi | .nilF, r, mp, mp', h, hi => by
    simp only [rmap] at h; obtain rfl := Option.some.inj h; exact hi
  | .sub _ _ _ _, r, mp, mp', h, hi | .elp _ _ _ _, r, mp, mp', h, hi | .grd _ _, r, mp, mp', h, hi | .cp _ _, r, mp, mp', h, hi | .fn _ _ _, r, mp, mp', h, hi | .rop _ _ _ _, r, mp, mp', h, hi | .pf _ _ _ _, r, mp, mp', h, hi | .bid _ _, r, mp, mp', h, hi => by cases h
theorem rmaps_inj : ∀ (v r : List SV) (mp mp' : List (Nat × Option Nat)), rmaps v r mp = some mp' → Inj mp → Inj mp'
  | [], r, mp, mp', h, hi => by simp only [rmaps] at h; obtain rfl := Option.some.inj h; exact hi
  | s :: ss, [], mp, mp', h, hi => by cases h
  | s :: ss, r :: rs, mp, mp', h, hi => by
    simp only [rmaps] at h
    split at h
    · rename_i mp1 h1
      exact rmaps_inj ss rs mp1 mp' h (rmap_inj s r mp mp1 h1 hi)
    · cases h
end
theorem gobsR_get {mp : List (Nat × Option Nat)} : ∀ (bs : List OB) (n : Nat), gobsR s mp n bs → ∀ j b, bs[j]? = some b → obEq s mp (n + j) b
  | [], n, _, j, b, hj => by simp at hj
  | b0 :: r, n, h, j, b, hj => by
    obtain ⟨h1, h2⟩ := h
    cases j with
    | zero => simp at hj; subst hj; exact h1
    | succ j =>
      have := gobsR_get r (n + 1) h2 j b (by simpa using hj)
      rwa [Nat.add_assoc, Nat.add_comm 1 j] at this
mutual
theorem ren_self {n : Nat} {π : Nat → Nat} : ∀ (v : SV) (u : Value), v.ret 0 = true → SR P B pl tb v u → Ren n π u u
  | .val k x, u, h, hs => by
    simp only [SR] at hs
    cases k with
    | i ik => simp only [KC] at hs; obtain rfl := (List.cons.inj hs).1; exact .plain _ rfl
    | bo => simp only [KC] at hs; obtain rfl := (List.cons.inj hs).1; exact .plain _ rfl
    | st => simp only [KC] at hs; obtain rfl := (List.cons.inj hs).1; exact .plain _ rfl
    | list k => cases h
    | pair a b =>
      have h1 := KC.length hs
      have h2 := a.size_pos
      have h3 := b.size_pos
      simp only [Kind.size, List.length_singleton] at h1
      omega
  | .nilS, u, _, hs | .nilP, u, _, hs | .nilM, u, _, hs | .nilF, u, _, hs => by simp only [SR] at hs; subst hs; exact .plain _ rfl
  | .lst j, u, h, _ | .box j _, u, h, _ | .map j, u, h, _ => by simp [SV.ret, Nat.blt_eq] at h
  | .agg l, u, h, hs => by
    simp only [SR] at hs
    obtain ⟨cs, rfl, h2⟩ := hs
    have := rens_self (n := n) (π := π) l cs h h2
    exact .agg _ _ rfl fun i h3 _ => this _ (by simp)
  | .tup l, u, h, hs => by
    simp only [SR] at hs
    obtain ⟨cs, rfl, h2⟩ := hs
    have := rens_self (n := n) (π := π) l cs h h2
    exact .tuple _ _ rfl fun i h3 _ => this _ (by simp)
  | .any, _, h, _ | .bid _ _, _, h, _ | .grd _ _, _, h, _ | .sub _ _ _ _, _, h, _ | .elp _ _ _ _, _, h, _ | .rop _ _ _ _, _, h, _ | .cp _ _, _, h, _ | .fn _ _ _, _, h, _ | .pf _ _ _ _, _, h, _ => by cases h
theorem rens_self {n : Nat} {π : Nat → Nat} : ∀ (v : List SV) (u : List Value), SVs.ret 0 v = true → SRs P B pl tb v u → ∀ x ∈ u, Ren n π x x
  | [], u, _, hs => by simp only [SRs] at hs; subst hs; intro x hx; cases hx
  | s :: ss, u, h, hs => by
    simp only [SVs.ret, Bool.and_eq_true] at h
    simp only [SRs] at hs
    obtain ⟨x, y, rfl, h1, h2⟩ := hs
    intro z hz
    rcases List.mem_cons.1 hz with rfl | hz
    · exact ren_self s z h.1 h1
    · exact rens_self ss y h.2 h2 z hz
end
theorem gend_sound (exact : Bool) {σ0 : Heap} {sf : St} {envf : Env} {σf : Heap} (hR : GRel P σ0 σ0 σ0 sf envf σf) {rs : List VResult} {v : SV} {bs : List OB} {e : Exit} (hv : v.ret bs.length = true) (hb : bs.all OB.ret = true) (h : gend rs v bs e sf) (hx : exact = true → bs.all OB.isL = true ∧ noBox v = true) :
    EndK σ0 rs (fun u σ' => if exact then u = cval (canP σ0 bs) v ∧ σ' = canH σ0 bs else Ret P σ0 v bs u σ') e envf σf := by
  have main : (match gresults sf rs with
    | some r => (match rmap v r [] with
      | some mp => svEq mp v r ∧ gobsR sf mp 0 bs
      | none => False)
    | none => False) → obind (vresults envf σf rs) fun u => ∃ v' σ', DropTo σ0 u σf v' σ' ∧ (if exact then v' = cval (canP σ0 bs) v ∧ σ' = canH σ0 bs else Ret P σ0 v bs v' σ') := fun h => by
    split at h
    · rename_i r hr
      split at h
      · rename_i mp hmp
        obtain ⟨h1, h2⟩ := h
        obtain ⟨B, F, pl, tb, ⟨hB, hF, _, hd⟩, hG⟩ := hR
        obtain ⟨u, h3, h4⟩ := gresults_sound hG hr
        have hsr := svEq_sound v r u h1 h4
        have hinj := rmap_inj v r [] mp hmp (fun t t' a h => by cases h)
        have hob : ∀ j b, bs[j]? = some b → obEq sf mp j b := fun j b hj => by have := gobsR_get bs 0 h2 j b hj; rwa [Nat.zero_add] at this
        rw [h3]
        have hle : σ0.Le σf := hF.trans hG.le
        have hA : Agree σ0 σf := fun i hi => by
          cases hg : σ0.get i with
          | none => exact hd.2 i hi hg
          | some b => exact hle.2 i b hg
        have hpl : ∀ j b, bs[j]? = some b → OR P hNil (mapP pl mp) noTb σf (mapP pl mp j) b ∧ ∀ i, oid (mapP pl mp j) = some i → σ0.get i = none ∧ σ0.n ≤ i := fun j b hj => by
          obtain ⟨k1, k2⟩ := obEq_sound hG (hob j b hj)
          have hret := List.all_eq_true.1 hb b (List.mem_of_getElem? hj)
          have hlive : b.live = true := by cases b <;> first | rfl | cases hret
          refine ⟨k1.retd hret fun _ _ => rfl, fun i hi => ?_⟩
          obtain ⟨a, e1, e2, e3⟩ := k2 hlive i hi
          have hBn := hG.fresh a i e2 e3
          have hn : σ0.get i = none := by
            cases hg : σ0.get i with
            | none => rfl
            | some b => rw [hF.2 i b hg] at hBn; cases hBn
          refine ⟨hn, Nat.le_of_not_lt fun hlt => ?_⟩
          have hdead := hd.2 i hlt hn
          have hob := hG.obj a
          cases ho : oget sf.own a with
          | dead => rw [ho] at e2; cases e2
          | lst ty k xs nl =>
            rw [ho] at hob
            rcases hob with ⟨_, _, h2⟩ | ⟨_, i', cap, c, t, h2, _, h3, _⟩
            · rw [h2] at e3; cases e3
            · rw [h2] at e3; obtain rfl := Option.some.inj e3; rw [h3] at hdead; cases hdead
          | cells l => rw [ho] at hob; obtain ⟨i', c, e, t, h2, h3, _⟩ := hob; rw [h2] at e3; obtain rfl := Option.some.inj e3; rw [h3] at hdead; cases hdead
          | map kk vk m => rw [ho] at hob; obtain ⟨i', es, cl, h2, h3, _⟩ := hob; rw [h2] at e3; obtain rfl := Option.some.inj e3; rw [h3] at hdead; cases hdead
          | stk l vals => rw [ho] at e2; cases e2
        have hsep : ∀ j j' i, j < bs.length → j' < bs.length → j ≠ j' → oid (mapP pl mp j) = some i → oid (mapP pl mp j') = some i → False := fun j j' i hj hj' hne hi hi' => by
          have hb1 := List.getElem?_eq_getElem hj
          have hb2 := List.getElem?_eq_getElem hj'
          have r1 := List.all_eq_true.1 hb _ (List.getElem_mem hj)
          have r2 := List.all_eq_true.1 hb _ (List.getElem_mem hj')
          have l1 : (bs[j]).live = true := by cases hbb : bs[j] <;> first | rfl | (rw [hbb] at r1; cases r1)
          have l2 : (bs[j']).live = true := by cases hbb : bs[j'] <;> first | rfl | (rw [hbb] at r2; cases r2)
          obtain ⟨a, e1, e2, e3⟩ := (obEq_sound hG (hob j _ hb1)).2 l1 i hi
          obtain ⟨a', e1', e2', e3'⟩ := (obEq_sound hG (hob j' _ hb2)).2 l2 i hi'
          by_cases e : a = a'
          · subst e; exact hne (hinj j j' a e1 e1')
          · exact hG.sep a a' i e e2 e2' e3 e3'
        cases hex : exact with
        | true =>
          obtain ⟨hl, hnb⟩ := hx hex
          have hdrop := canon_drop (P := P) hA hle.1 hv hnb hb hl (pl := mapP pl mp) (u := u) (fun j b hj => ⟨(hpl j b hj).1, fun i hi => ((hpl j b hj).2 i hi).2⟩) hsep (hsr.retd (fun j hj => rfl) _ _ hv)
          exact ⟨_, _, hdrop, by simp⟩
        | false =>
          simp only [Bool.false_eq_true, if_false]
          by_cases hbs : bs = []
          · subst hbs
            refine ⟨u, σ0, .rename (fun i => i) (Nat.le_refl _) (fun i hi => ⟨rfl, (hA i hi).symm, .inl (hA i hi)⟩) (fun i k1 k2 => by omega) (fun _ _ _ _ _ _ h => h) (ren_self v u hv hsr), ?_⟩
            exact ⟨⟨Heap.Le.refl _, Dead.refl _⟩, fun _ => rfl, noPl, (fun j b hj => by simp at hj), (fun j j' i hj => by simp at hj), hsr.retd (fun j hj => by simp at hj) _ _ hv⟩
          · exact ⟨u, σf, .refl _ _ _, ⟨hle, hd⟩, fun e => absurd e hbs, mapP pl mp, hpl, hsep, hsr.retd (fun j hj => rfl) _ _ hv⟩
      · exact h.elim
    · exact h.elim
  cases e with
  | normal => exact main h
  | ret => exact main h
  | _ => exact h.elim
def gstart (nt : Nat) (args : List SV) : St := ⟨args ++ List.replicate (nt - args.length) .any, [], 0⟩
theorem gstart_rel {args : List SV} {vs : List Value} (h : SRs P σ noPl noTb args vs) (nt : Nat) : GRel P σ σ σ (gstart nt args) (vs ++ List.replicate (nt - vs.length) undef) σ := by
  have und : ∀ n, SRs P σ noPl noTb (List.replicate n .any) (List.replicate n undef) := by
    intro n
    induction n with
    | zero => simp [SRs]
    | succ n ih => simp only [List.replicate_succ, SRs]; exact ⟨_, _, rfl, by simp [SR], ih⟩
  refine ⟨σ, σ, noPl, noTb, ⟨Heap.Le.refl _, Heap.Le.refl _, (fun i b h1 h2 => by rw [h2] at h1; cases h1), Dead.refl _⟩, Heap.Le.refl _, Heap.Le.refl _, ?_, fun d => trivial, (fun d i hl => by cases hl), (fun d d' i _ hl => by cases hl), fun _ _ => rfl⟩
  have := h.length
  simp only [gstart, this]
  exact h.append (und _)
theorem Fun.okC {f : Nat} {vc : VCode} {rs : List VResult} {nt : Nat} (h : Fun P f vc rs nt) (hm : P.follows .mixedOrders = true) {sp : CSp}
    (hb : ∀ ap, ApOk P ap → ∀ args c v bs, sp ap args = some (c, v, bs) → c → ∃ (C : Cx) (L : List (Nat × LoopAnn)) (args' : List SV), (∀ σ vs, SRs P σ noPl noTb args vs → SRs P σ noPl noTb args' vs) ∧ COk P C ∧ gwp C L vc 0 (gend rs v bs) (gstart nt args')) : OkC P f sp := by
  intro ap hap σ args vs c v bs hargs hsp hv hbs hc
  obtain ⟨C, L, args', h1, h2, h3⟩ := hb ap hap args c v bs hsp hc
  have main : ∀ exact : Bool, (exact = true → bs.all OB.isL = true ∧ noBox v = true) → VCalled P f vs σ fun u σ' => if exact then u = cval (canP σ bs) v ∧ σ' = canH σ bs else Ret P σ v bs u σ' := fun exact hx => by
    refine h.calls hm okSem ?_
    exact gwp_sound h2 vc 0 _ _ _ σ none _ trivial (gstart_rel (h1 σ vs hargs) nt) h3 fun e s' env' σ' k1 k2 => gend_sound exact k2 hv hbs k1 hx
  refine ⟨(main false fun e => by cases e).mono fun u σ' hr => by simpa using hr, fun hl hnb => (main true fun _ => ⟨hl, hnb⟩).mono fun u σ' hr => by simpa using hr⟩
theorem OkC.true {f : Nat} {sp : CSp} (h : OkC P f sp) (he : Enterable P f) {σ : Heap} {args : List SV} {vs : List Value} (ha : SRs P σ noPl noTb args vs) {c : Prop} (hs : sp (fun _ _ => none) args = some (c, .val .bo true, [])) (hc : c) :
    VCallsTo P f vs σ fun v _ => v = .bool true := by
  have := (h (fun _ _ => none) (fun _ _ _ _ _ _ _ _ _ h => by cases h) σ args vs c _ [] ha hs rfl rfl hc).1
  intro ρ w cargs hH hL
  rcases this ρ w cargs hH hL with ⟨_, h2⟩ | ⟨c', _, h2⟩
  · refine h2.mono fun e w' ⟨c', h3, h4⟩ => ⟨c', h3, h4.mono fun u σ' hr => ?_⟩
    have := (hr.flat rfl).2
    simpa only [SR, KC, List.cons.injEq, and_true] using this
  · have := h2 w (Like.refl ρ w)
    rw [run_callFunc he cargs w] at this
    cases this
end
end Go.V

namespace Go.V
open Go
mutual
inductive AP : Type → Type 1 where
  | k (k : Kind) : AP k.T
  | agg {D : Type} (l : AL D) : AP D
  | ptr {D : Type} (l : AL D) : AP D
  | fn (ks : List Kind) (r : Kind) : AP ((AT ks → Prop) × (AT ks → r.T))
inductive AL : Type → Type 1 where
  | nil : AL Unit
  | one {D : Type} (a : AP D) : AL D
  | cons {D E : Type} (a : AP D) (r : AL E) : AL (D × E)
end
def atSVs : (ks : List Kind) → AT ks → List SV
  | [], _ => []
  | [k], x => [kval k x]
  | k :: k' :: ks, x => kval k x.1 :: atSVs (k' :: ks) x.2
abbrev Ap := SV → List SV → Option (Prop × SV)
def fnDom (ap : Ap) (f : SV) (ks : List Kind) (r : Kind) (x : AT ks) : Prop := match ap f (atSVs ks x) with
  | some (c, v) => (match gap.asV r v with | some _ => c | none => False)
  | none => False
def fnP (ap : Ap) (f : SV) (ks : List Kind) (r : Kind) (x : AT ks) : r.T := match ap f (atSVs ks x) with
  | some (_, v) => (match gap.asV r v with | some y => y | none => r.dflt)
  | none => r.dflt
mutual
def AP.dec (ap : Ap) : {D : Type} → (p : AP D) → SV → Option D
  | _, .k k, v => match k with
    | .list k => view [] k v
    | .i ik => deck (.i ik) [v]
    | .bo => deck .bo [v]
    | .st => deck .st [v]
    | .pair _ _ => none
  | _, .agg l, v => match v with | .agg vs => AL.dec ap l vs | _ => none
  | _, .ptr l, v => match v with | .cp vs 0 => AL.dec ap l vs | _ => none
  | _, .fn ks r, v => match v with
    | .fn g a b => some (fnDom ap (.fn g a b) ks r, fnP ap (.fn g a b) ks r)
    | .pf ks' r' dom p => some (fnDom ap (.pf ks' r' dom p) ks r, fnP ap (.pf ks' r' dom p) ks r)
    | _ => none
def AL.dec (ap : Ap) : {D : Type} → (l : AL D) → List SV → Option D
  | _, .nil, vs => match vs with | [] => some () | _ => none
  | _, .one a, vs => match vs with | [v] => AP.dec ap a v | _ => none
  | _, .cons a r, vs => match vs with
    | v :: vs => (match AP.dec ap a v, AL.dec ap r vs with | some x, some y => some (x, y) | _, _ => none)
    | [] => none
end
mutual
def AP.can : {D : Type} → (p : AP D) → D → SV
  | _, .k k, x => .val k x
  | _, .agg l, x => .agg (AL.can l x)
  | _, .ptr l, x => .cp (AL.can l x) 0
  | _, .fn ks r, x => .pf ks r x.1 x.2
def AL.can : {D : Type} → (l : AL D) → D → List SV
  | _, .nil, _ => []
  | _, .one a, x => [AP.can a x]
  | _, .cons a r, x => AP.can a x.1 :: AL.can r x.2
end
def mkSp {D : Type} (l : AL D) (pre : D → Prop) (res : D → SV) (obs : D → List OB) : CSp := fun ap args => match AL.dec ap l args with
  | some d => some (pre d, res d, obs d)
  | none => none
section
variable {P : Program} {σ : Heap}
theorem atSVs_sound : ∀ {ks : List Kind} {x : AT ks} {vs : List Value}, atVals σ ks x vs → SRs P σ noPl noTb (atSVs ks x) vs
  | [], x, vs, h => by simp only [atVals] at h; subst h; simp [atSVs, SRs]
  | [k], x, vs, h => by
    obtain ⟨v, rfl, h1⟩ := h
    simp only [atSVs, SRs]; exact ⟨v, [], rfl, kval_sound h1, rfl⟩
  | k :: k' :: ks, x, vs, h => by
    obtain ⟨v, vs', rfl, h1, h2⟩ := h
    simp only [atSVs, SRs]; exact ⟨v, vs', rfl, kval_sound h1, atSVs_sound h2⟩
theorem fn_sound {ap : Ap} (hap : ApOk P ap) {f : SV} {v : Value} (hf : SR P σ noPl noTb f v) (hv : ∃ g a b, v = .func (.func g) a b) (ks : List Kind) (r : Kind) : SR P σ noPl noTb (.pf ks r (fnDom ap f ks r) (fnP ap f ks r)) v := by
  obtain ⟨g, a, b, rfl⟩ := hv
  simp only [SR]
  refine ⟨g, a, b, rfl, fun x hd τ vs hle hvs => ?_⟩
  unfold fnDom at hd
  split at hd
  · rename_i c u hap1
    split at hd
    · rename_i y hy
      obtain ⟨h1, g', a', b', h2, h3⟩ := hap τ f (atSVs ks x) c u (.func (.func g) a b) vs (SR.mono hle (fun _ _ h => h) _ _ hf) (atSVs_sound hvs) hap1 hd
      obtain ⟨rfl, rfl, rfl⟩ := (by simpa using h2 : g = g' ∧ a = a' ∧ b = b')
      have hp : fnP ap f ks r x = y := by simp [fnP, hap1, hy]
      rw [hp]
      exact h3.mono fun u' σ' hu => ⟨hu.1, (asV_sound hy hu.2).vcall (empty_le _)⟩
    · exact hd.elim
  · exact hd.elim
theorem oget_nil (d : Nat) : oget [] d = .dead := rfl
mutual
theorem AP.dec_sound {ap : Ap} (hap : ApOk P ap) : ∀ {D : Type} (p : AP D) {v : SV} {x : D} {u : Value}, AP.dec ap p v = some x → SR P σ noPl noTb v u → SR P σ noPl noTb (AP.can p x) u
  | _, .k k, v, x, u, h, hs => by
    have one : SRs P σ noPl noTb [v] [u] := by simp only [SRs]; exact ⟨u, [], rfl, hs, rfl⟩
    simp only [AP.can, SR]
    cases k with
    | list k =>
      have := view_sound (own := []) (Heap.Le.refl σ) (fun d => (trivial : OR P σ noPl noTb σ (noPl d) .dead)) (show view [] k v = some x from h) hs
      exact ⟨u, rfl, this⟩
    | i ik => exact deck_sound (k := .i ik) h one
    | bo => exact deck_sound (k := .bo) h one
    | st => exact deck_sound (k := .st) h one
    | pair a b => cases h
  | _, .agg l, v, x, u, h, hs => by
    simp only [AP.dec] at h
    split at h
    · simp only [SR] at hs
      obtain ⟨cs, rfl, hs⟩ := hs
      simp only [AP.can, SR]
      exact ⟨cs, rfl, AL.dec_sound hap l h hs⟩
    · cases h
  | _, .ptr l, v, x, u, h, hs => by
    simp only [AP.dec] at h
    split at h
    · simp only [SR] at hs
      obtain ⟨b, c, e, wr, t, h1, rfl, h3⟩ := hs
      simp only [AP.can, SR]
      exact ⟨b, c, e, wr, t, h1, rfl, AL.dec_sound hap l h h3⟩
    · cases h
  | _, .fn ks r, v, x, u, h, hs => by
    simp only [AP.dec] at h
    split at h
    · obtain rfl := Option.some.inj h
      exact fn_sound hap hs (by simp only [SR] at hs; obtain ⟨x, y, rfl, _⟩ := hs; exact ⟨_, _, _, rfl⟩) ks r
    · obtain rfl := Option.some.inj h
      exact fn_sound hap hs (by simp only [SR] at hs; obtain ⟨g, x, y, rfl, _⟩ := hs; exact ⟨_, _, _, rfl⟩) ks r
    · cases h
theorem AL.dec_sound {ap : Ap} (hap : ApOk P ap) : ∀ {D : Type} (l : AL D) {vs : List SV} {x : D} {us : List Value}, AL.dec ap l vs = some x → SRs P σ noPl noTb vs us → SRs P σ noPl noTb (AL.can l x) us
  | _, .nil, vs, x, us, h, hs => by
    simp only [AL.dec] at h
    split at h
    · exact hs
    · cases h
  | _, .one a, vs, x, us, h, hs => by
    simp only [AL.dec] at h
    split at h
    · obtain ⟨u, rfl, h1⟩ := hs.one
      simp only [AL.can, SRs]; exact ⟨u, [], rfl, AP.dec_sound hap a h h1, rfl⟩
    · cases h
  | _, .cons a r, vs, x, us, h, hs => by
    simp only [AL.dec] at h
    split at h
    · rename_i v vs'
      split at h
      · rename_i y z h1 h2
        obtain rfl := Option.some.inj h
        simp only [SRs] at hs
        obtain ⟨u, us', rfl, h3, h4⟩ := hs
        simp only [AL.can, SRs]
        exact ⟨u, us', rfl, AP.dec_sound hap a h1 h3, AL.dec_sound hap r h2 h4⟩
      · cases h
    · cases h
end
theorem CsOk.nil : CsOk P [] := fun f sp h => by cases h
theorem CsOk.cons {f : Nat} {sp : CSp} {cs : List (Nat × CSp)} (h : OkC P f sp) (t : CsOk P cs) : CsOk P ((f, sp) :: cs) := fun g sp' hg => by
  simp only [alook] at hg
  cases hb : Nat.beq f g with
  | true => rw [hb] at hg; obtain rfl := Nat.eq_of_beq_eq_true hb; obtain rfl := Option.some.inj hg; exact h
  | false => rw [hb] at hg; exact t g sp' hg
theorem COk.cons {C : Cx} {f : Nat} {sp : CSp} (h : OkC P f sp) (t : COk P C) : COk P { C with cs := (f, sp) :: C.cs } := ⟨CsOk.cons h t.cs, t.xs, t.it⟩
theorem COk.consX {C : Cx} {f : Nat} {x : XSp} (h : XOk P f x) (t : COk P C) : COk P { C with xs := (f, x) :: C.xs } := ⟨t.cs, fun g y hg => by
  simp only [alook] at hg
  cases hb : Nat.beq f g with
  | true => rw [hb] at hg; obtain rfl := Nat.eq_of_beq_eq_true hb; obtain rfl := Option.some.inj hg; exact h
  | false => rw [hb] at hg; exact t.xs g y hg, t.it⟩
theorem COk.consI {C : Cx} {f : Nat} {x : ISp} (h : ItOk P f x) (t : COk P C) : COk P { C with it := (f, x) :: C.it } := ⟨t.cs, t.xs, fun g y hg => by
  simp only [alook] at hg
  cases hb : Nat.beq f g with
  | true => rw [hb] at hg; obtain rfl := Nat.eq_of_beq_eq_true hb; obtain rfl := Option.some.inj hg; exact h
  | false => rw [hb] at hg; exact t.it g y hg⟩
theorem COk.nil {kt : List (Nat × Kind)} {nt : Nat} {raw : List Nat} {off : Nat} : COk P ⟨kt, [], nt, raw, off, [], []⟩ := ⟨CsOk.nil, fun f x h => (by cases h), fun f x h => (by cases h)⟩
theorem okC_mk {f : Nat} {vc : VCode} {rs : List VResult} {nt : Nat} (h : Fun P f vc rs nt) (hm : P.follows .mixedOrders = true) {D : Type} {l : AL D} {pre : D → Prop} {res : D → SV} {obs : D → List OB}
    {C : Cx} (hcs : COk P C) (L : D → List (Nat × LoopAnn)) (hb : ∀ d, pre d → gwp C (L d) vc 0 (gend rs (res d) (obs d)) (gstart nt (AL.can l d))) : OkC P f (mkSp l pre res obs) := by
  refine h.okC hm fun ap hap args c v bs hs hc => ?_
  unfold mkSp at hs
  split at hs
  · rename_i d hd
    obtain ⟨rfl, rfl, rfl⟩ := (by simpa using hs : pre d = c ∧ res d = v ∧ obs d = bs)
    exact ⟨C, L d, AL.can l d, fun σ vs hv => AL.dec_sound hap l hd hv, hcs, hb d hc⟩
  · cases hs
theorem okC_rec {f : Nat} {vc : VCode} {rs : List VResult} {nt : Nat} (h : Fun P f vc rs nt) (hm : P.follows .mixedOrders = true) {D : Type} {l : AL D} {pre : D → Prop} {res : D → SV} {obs : D → List OB} (μ : D → Nat)
    {C : Cx} (hcs : COk P C) (L : D → List (Nat × LoopAnn)) (hb : ∀ n d, pre d → μ d = n → gwp { C with cs := (f, mkSp l (fun d => pre d ∧ μ d < n) res obs) :: C.cs } (L d) vc 0 (gend rs (res d) (obs d)) (gstart nt (AL.can l d))) : OkC P f (mkSp l pre res obs) := by
  have key : ∀ n, OkC P f (mkSp l (fun d => pre d ∧ μ d < n) res obs) := by
    intro n
    induction n using Nat.strongRecOn with
    | _ n ih =>
      refine h.okC hm fun ap hap args c v bs hs hc => ?_
      unfold mkSp at hs
      split at hs
      · rename_i d hd
        obtain ⟨rfl, rfl, rfl⟩ := (by simpa using hs : (pre d ∧ μ d < n) = c ∧ res d = v ∧ obs d = bs)
        exact ⟨{ C with cs := (f, mkSp l (fun d' => pre d' ∧ μ d' < μ d) res obs) :: C.cs }, L d, AL.can l d, fun σ vs hv => AL.dec_sound hap l hd hv, ⟨CsOk.cons (ih _ hc.2) hcs.cs, hcs.xs, hcs.it⟩, hb _ d hc.1 rfl⟩
      · cases hs
  intro ap hap σ args vs c v bs hargs hs hv hbs hc
  unfold mkSp at hs
  split at hs
  · rename_i d hd
    obtain ⟨rfl, rfl, rfl⟩ := (by simpa using hs : pre d = c ∧ res d = v ∧ obs d = bs)
    exact key (μ d + 1) ap hap σ args vs (pre d ∧ μ d < μ d + 1) _ _ hargs (by unfold mkSp; rw [hd]) hv hbs ⟨hc, by omega⟩
  · cases hs
theorem okC_vc {f : Nat} {vc : VCode} {rs : List VResult} {nt : Nat} (h : Fun P f vc rs nt) (hm : P.follows .mixedOrders = true) {D : Type} {l : AL D} {pre : D → Prop} {res : D → SV} {obs : D → List OB}
    {C : Cx} (hcs : COk P C) {L : D → List (Nat × LoopAnn)} {V : D → Prop} (hq : ∀ d, gwp C (L d) vc 0 (gend rs (res d) (obs d)) (gstart nt (AL.can l d)) = V d) (hb : ∀ d, pre d → V d) : OkC P f (mkSp l pre res obs) :=
  okC_mk h hm hcs L fun d hp => (hq d).mpr (hb d hp)
theorem okC_vcrec {f : Nat} {vc : VCode} {rs : List VResult} {nt : Nat} (h : Fun P f vc rs nt) (hm : P.follows .mixedOrders = true) {D : Type} {l : AL D} {pre : D → Prop} {res : D → SV} {obs : D → List OB} {μ : D → Nat}
    {C : Cx} (hcs : COk P C) {L : D → List (Nat × LoopAnn)} {V : Nat → D → Prop} (hq : ∀ n d, gwp { C with cs := (f, mkSp l (fun d => pre d ∧ μ d < n) res obs) :: C.cs } (L d) vc 0 (gend rs (res d) (obs d)) (gstart nt (AL.can l d)) = V n d)
    (hb : ∀ n d, pre d → μ d = n → V n d) : OkC P f (mkSp l pre res obs) :=
  okC_rec h hm μ hcs L fun n d hp hn => (hq n d).mpr (hb n d hp hn)
end
end Go.V

namespace Go.V
open Go
def ginlK (key : Nat) (vals : List Value) (rs : List VResult) (K : SV → St → Prop) : Exit → St → Prop := fun e s =>
  let fin := match gresults s rs, oget s.own key with
    | some r, .stk l vs => vs = vals ∧ K r ⟨l, s.own, s.nx⟩
    | _, _ => False
  match e with
  | .normal => fin
  | .ret => fin
  | _ => False
def inlX (C : Cx) (L : List Value → List (Nat × LoopAnn)) (vc : VCode) (rs : List VResult) (nt : Nat) : XSp := fun d args s K =>
  ∀ vals, gwp { C with off := 100000 * (d + 1) } (L vals) vc 0 (ginlK (100000 * (d + 1) - 1) vals rs K) ⟨SVs.kill (100000 * (d + 1) - 1) args ++ List.replicate (nt - args.length) .any, (gstk (100000 * (d + 1) - 1) vals s).own, s.nx⟩
section
variable {P : Program}
theorem und_rel {B : Heap} {pl : Nat → Value} {tb : Nat → Option Bool} : ∀ n, SRs P B pl tb (List.replicate n .any) (List.replicate n undef)
  | 0 => by simp [SRs]
  | n + 1 => by simp only [List.replicate_succ, SRs]; exact ⟨_, _, rfl, by simp [SR], und_rel n⟩
theorem inlX_ok {f : Nat} {vc : VCode} {rs : List VResult} {nt : Nat} (h : Fun P f vc rs nt) (hm : P.follows .mixedOrders = true) {C : Cx} (hcs : COk P C) (L : List Value → List (Nat × LoopAnn)) : XOk P f (inlX C L vc rs nt) := by
  intro B F pl tb s env σ d args vs K R hG ha hx hK
  have hx := hx env
  refine h.calls hm okSem ?_
  have q3 : Gam P B F (updP pl (100000 * (d + 1) - 1) poison) tb (gstk (100000 * (d + 1) - 1) env s) env σ := by
    refine hG.make _ _ poison hG.le (fun _ _ _ _ _ => rfl) ?_ (fun i hl _ => by cases hl)
    exact SRs.upd (.refl _) (fun _ _ h => h) (fun j hj => by simp [updP, hj]) _ _ hG.env
  have hcs' : COk P { C with off := 100000 * (d + 1) } := ⟨hcs.cs, hcs.xs, hcs.it⟩
  have hargs := SRs.upd (P := P) (Heap.Le.refl B) (fun _ _ h => h) (pl' := updP pl (100000 * (d + 1) - 1) poison) (tb' := tb) (o := 100000 * (d + 1) - 1) (fun j hj => by simp [updP, hj]) _ _ ha
  have hst : GRel P B F σ ⟨SVs.kill (100000 * (d + 1) - 1) args ++ List.replicate (nt - args.length) .any, (gstk (100000 * (d + 1) - 1) env s).own, s.nx⟩ (vs ++ List.replicate (nt - vs.length) undef) σ := by
    refine ⟨B, F, _, tb, .of hG.bf (.refl _), ⟨q3.bf, q3.le, ?_, q3.obj, q3.fresh, q3.sep, q3.free⟩⟩
    rw [ha.length]; exact hargs.append (und_rel _)
  refine gwp_sound hcs' vc 0 _ _ _ σ none _ trivial hst hx fun e s' env' σ' h1 h2 => ?_
  · have main : (match gresults s' rs, oget s'.own (100000 * (d + 1) - 1) with
      | some r, .stk l vs => vs = env ∧ K r ⟨l, s'.own, s'.nx⟩
      | _, _ => False) → obind (vresults env' σ' rs) fun v => ∃ v' σ'', DropTo σ v σ' v' σ'' ∧ R v' σ'' := fun h => by
      obtain ⟨B', F', pl', tb', k1, k2⟩ := h2
      split at h
      · rename_i r l vs' hr hstk
        obtain ⟨rfl, h⟩ := h
        obtain ⟨u, h3, h4⟩ := gresults_sound k2 hr
        rw [h3]
        have hob := k2.obj (100000 * (d + 1) - 1)
        rw [hstk] at hob
        exact ⟨u, σ', .refl _ _ _, hK r _ B' F' pl' tb' u σ' h k1 ⟨k2.bf, k2.le, hob, k2.obj, k2.fresh, k2.sep, k2.free⟩ h4⟩
      · exact h.elim
    cases e with
    | normal => exact main h1
    | ret => exact main h1
    | _ => exact h1.elim
end
end Go.V

namespace Go.V
open Go
def lkey : SV → Option Nat
  | .lst o => some o
  | .box o off => bif Nat.beq off 0 then some o else none
  | _ => none
def lsv : OB → SV
  | .lst _ _ _ _ => .lst 0
  | _ => .box 0 0
def lfit : SV → OB → Bool
  | .lst _, .lst _ _ _ _ => true
  | .box _ _, .cells _ => true
  | _, _ => false
abbrev LSp := Ap → OB → List SV → Option (Prop × SV × OB)
def lentX (ap : Ap) (sp : LSp) : XSp := fun _ args s K =>
  match args with
  | a :: args => (match lkey a with
    | some o => bif (oget s.own o).ret && lfit a (oget s.own o) then (match sp ap (oget s.own o) (ress (oset s.own o .dead) args) with
        | some (c, v, b) => bif v.ret 0 && b.ret then c ∧ K v ⟨s.env, oset s.own o b, s.nx⟩ else False
        | none => False) else False
    | none => False)
  | [] => False
def lstart (nt : Nat) (a0 : SV) (b : OB) (vals : List Value) (args : List SV) : St := ⟨a0 :: (args ++ List.replicate (nt - (args.length + 1)) .any), [(0, b), (4000000, .stk [a0] vals)], 0⟩
def lendK (vals : List Value) (rs : List VResult) (v : SV) (b : OB) (a0 : SV) : Exit → St → Prop := fun e s =>
  let fin := match gresults s rs, oget s.own 4000000 with
    | some r, .stk l vs => vs = vals ∧ svEqs [(0, some 0)] [a0] l ∧ svEq [] v r ∧ obEq s [(0, some 0)] 0 b
    | _, _ => False
  match e with
  | .normal => fin
  | .ret => fin
  | _ => False
section
variable {P : Program}
theorem Heap.Le.kill' {B σ : Heap} (h : B.Le σ) {i : Nat} (hi : B.get i = none) : B.Le (σ.kill i) := ⟨h.1, fun j b hb => by
  have : j ≠ i := by rintro rfl; rw [hi] at hb; cases hb
  rw [Heap.get_kill_ne _ this]; exact h.2 _ _ hb⟩
theorem Heap.kill_le (σ : Heap) (i : Nat) : (σ.kill i).Le σ := ⟨Nat.le_refl _, fun j b hb => by
  by_cases e : j = i
  · subst e; rw [Heap.get_kill_self] at hb; cases hb
  · rwa [Heap.get_kill_ne _ e] at hb⟩
def lentH (σ : Heap) (p : Value) : Heap := match oid p with | some i => σ.kill i | none => σ
theorem lentH_le (σ : Heap) (p : Value) : (lentH σ p).Le σ := by
  unfold lentH; split
  · exact Heap.kill_le _ _
  · exact .refl _
theorem lentH_of {B σ : Heap} {p : Value} (h : B.Le σ) (hi : ∀ i, oid p = some i → B.get i = none) : B.Le (lentH σ p) := by
  unfold lentH; split
  · rename_i i e; exact h.kill' (hi i e)
  · exact h
theorem lentH_none {σ : Heap} {p : Value} {i : Nat} (h : oid p = some i) : (lentH σ p).get i = none := by
  unfold lentH; rw [h]; exact Heap.get_kill_self _ _
theorem lentH_get {σ : Heap} {p : Value} {i : Nat} (h : oid p ≠ some i) : (lentH σ p).get i = σ.get i := by
  unfold lentH; split
  · rename_i j e; exact Heap.get_kill_ne _ (by rintro rfl; exact h e)
  · rfl
theorem OB.ret_live {b : OB} (h : b.ret = true) : b.live = true := by cases b <;> first | rfl | cases h
theorem lfit_lst {o : Nat} {b : OB} (h : lfit (.lst o) b = true) : lsv b = .lst 0 := by cases b <;> first | rfl | cases h
theorem lfit_box {o off : Nat} {b : OB} (h : lfit (.box o off) b = true) : lsv b = .box 0 0 := by cases b <;> first | rfl | cases h
theorem lentX_ok {f : Nat} {vc : VCode} {rs : List VResult} {nt : Nat} (h : Fun P f vc rs nt) (hm : P.follows .mixedOrders = true) {sp : LSp} {ap : Ap}
    (hb : ∀ b args c v b', sp ap b args = some (c, v, b') → c → ∃ (C : Cx) (L : List Value → List (Nat × LoopAnn)) (args' : List SV), SVs.pure args' = true ∧ (∀ σ vs, SRs P σ noPl noTb args vs → SRs P σ noPl noTb args' vs) ∧ COk P C ∧ ∀ vals, gwp C (L vals) vc 0 (lendK vals rs v b' (lsv b)) (lstart nt (lsv b) b vals args')) : XOk P f (lentX ap sp) := by
  intro B F pl tb s env σ d args vs K R hG ha hx hK
  unfold lentX at hx
  split at hx
  · rename_i a args
    split at hx
    · rename_i o hkey
      cases hbf : ((oget s.own o).ret && lfit a (oget s.own o)) with
      | false => rw [hbf] at hx; exact hx.elim
      | true =>
      rw [hbf] at hx
      simp only [_root_.cond_true] at hx
      simp only [Bool.and_eq_true] at hbf
      obtain ⟨hbr, hfit⟩ := hbf
      split at hx
      · rename_i c v b' hsp
        cases hvr : (v.ret 0 && b'.ret) with
        | false => rw [hvr] at hx; exact hx.elim
        | true =>
        rw [hvr] at hx
        obtain ⟨hc, hx⟩ := hx
        simp only [Bool.and_eq_true] at hvr
        simp only [SRs] at ha
        obtain ⟨u, us, rfl, hau, hus⟩ := ha
        have hlive := OB.ret_live hbr
        have hob := hG.obj o
        have hid : ∀ i, oid (pl o) = some i → F.get i = none := fun i => hG.fresh o i hlive
        have hidB : ∀ i, oid (pl o) = some i → B.get i = none := fun i hi => by
          cases hg : B.get i with
          | none => rfl
          | some b => have := hG.bf.2 _ _ hg; rw [hid i hi] at this; cases this
        have hpin : ∀ (B : Heap) (pl' : Nat → Value) (tb' : Nat → Option Bool), (SR P B pl' tb' (lsv (oget s.own o)) u ↔ pl' 0 = pl o) := fun B pl' tb' => by
          unfold lkey at hkey
          split at hkey
          · obtain rfl := Option.some.inj hkey
            simp only [SR] at hau
            rw [lfit_lst hfit]
            simp only [SR]
            obtain ⟨rfl, hs⟩ := hau
            exact ⟨fun h => h.1.symm, fun h => ⟨h.symm, hs⟩⟩
          · rename_i o' off
            cases hoff : Nat.beq off 0 with
            | false => rw [hoff] at hkey; cases hkey
            | true =>
              rw [hoff] at hkey
              obtain rfl := Option.some.inj hkey
              obtain rfl := Nat.eq_of_beq_eq_true hoff
              simp only [SR] at hau
              rw [lfit_box hfit]
              simp only [SR]
              obtain ⟨i, h1, rfl⟩ := hau
              rw [h1]
              constructor
              · rintro ⟨i', h2, h3⟩; rw [h2]; simpa using h3.symm
              · intro h2; exact ⟨i, h2, rfl⟩
          · cases hkey
        obtain ⟨C, L, args', hpure, hdec, hcs, hg⟩ := hb _ _ c v b' hsp hc
        have hg := hg [u]
        let σc := lentH σ (pl o)
        have hBc : B.Le σc := lentH_of hG.leB hidB
        have hFc : F.Le σc := lentH_of hG.le hid
        have hargs : SRs P σc noPl noTb args' us := by
          refine hdec σc us (ress_sound (own := oset s.own o .dead) hBc (pl := pl) (tb := tb) (fun d => ?_) hus)
          rw [oget_oset]
          by_cases e : d = o
          · rw [if_pos e]; trivial
          · rw [if_neg e]
            exact (hG.obj d).mono (.refl _) (fun _ _ h => h) fun hl i hi => lentH_get fun hio => hG.sep d o i e hl hlive hi hio
        let plC : Nat → Value := fun j => if j = 0 then pl o else poison
        have hst : GRel P σc σc σ (lstart nt (lsv (oget s.own o)) (oget s.own o) [u] args') (u :: us ++ List.replicate (nt - (u :: us).length) undef) σ := by
          refine ⟨σc, σc, plC, noTb, ⟨.refl _, .refl _, fun _ _ _ h => h, .refl _⟩, .refl _, lentH_le _ _, ?_, fun j => ?_, fun j i h1 h2 => ?_, fun j j' i hne h1 h2 h3 h4 => ?_, fun _ _ => rfl⟩
          · simp only [lstart, SRs, List.cons_append]
            refine ⟨u, _, rfl, (hpin _ _ _).2 (by simp [plC]), ?_⟩
            rw [hargs.length, List.length_cons]
            refine SRs.append ?_ (und_rel _)
            exact pures_sound _ _ hpure hargs
          · simp only [lstart, oget]
            by_cases e0 : j = 0
            · subst e0
              simp only [Nat.beq_refl, _root_.cond_true]
              exact hob.retd hbr fun i _ => rfl
            · rw [beq_ne (fun e => e0 e.symm), cond_false]
              by_cases e1 : j = 4000000
              · subst e1
                simp only [Nat.beq_refl, _root_.cond_true]
                exact ⟨u, [], rfl, (hpin _ _ _).2 (by simp [plC]), rfl⟩
              · rw [beq_ne (fun e => e1 e.symm), cond_false]; trivial
          · simp only [lstart, oget] at h1
            by_cases e0 : j = 0
            · subst e0
              exact lentH_none h2
            · rw [beq_ne (fun e => e0 e.symm), cond_false] at h1
              by_cases e1 : j = 4000000
              · subst e1; cases h1
              · rw [beq_ne (fun e => e1 e.symm), cond_false] at h1; cases h1
          · have z : ∀ j, (oget (lstart nt (lsv (oget s.own o)) (oget s.own o) [u] args').own j).live = true → j = 0 := fun j h1 => by
              simp only [lstart, oget] at h1
              by_cases e0 : j = 0
              · exact e0
              · rw [beq_ne (fun e => e0 e.symm), cond_false] at h1
                by_cases e1 : j = 4000000
                · subst e1; cases h1
                · rw [beq_ne (fun e => e1 e.symm), cond_false] at h1; cases h1
            exact hne ((z j h1).trans (z j' h2).symm)
        refine h.calls hm okSem ?_
        refine gwp_sound hcs vc 0 _ _ _ σ none _ trivial hst hg fun e s' env' σ' h1 h2 => ?_
        have main : (match gresults s' rs, oget s'.own 4000000 with
          | some r, .stk l vs => vs = [u] ∧ svEqs [(0, some 0)] [lsv (oget s.own o)] l ∧ svEq [] v r ∧ obEq s' [(0, some 0)] 0 b'
          | _, _ => False) → obind (vresults env' σ' rs) fun v => ∃ v' σ'', DropTo σ v σ' v' σ'' ∧ R v' σ'' := fun h => by
          obtain ⟨B', F', pl', tb', k1, k2⟩ := h2
          split at h
          · rename_i r l vs' hr hstk
            obtain ⟨rfl, m1, m2, m3⟩ := h
            obtain ⟨w, h3, h4⟩ := gresults_sound k2 hr
            rw [h3]
            have hstko := k2.obj 4000000
            rw [hstk] at hstko
            have hpl0 : pl' 0 = pl o := by
              have := svEqs_sound [lsv (oget s.own o)] l [u] m1 hstko
              simp only [SRs] at this
              obtain ⟨u', _, hu', h5, _⟩ := this
              obtain rfl : u = u' := (List.cons.inj hu').1
              have := (hpin _ _ _).1 h5
              simpa [mapP, alook] using this
            have hob' := (obEq_sound k2 m3).1
            have hmp : mapP pl' [(0, some 0)] 0 = pl o := by simpa [mapP, alook] using hpl0
            rw [hmp] at hob'
            have hres := (svEq_sound v r w m2 h4).retd (B' := B) (pl' := pl) (tb' := tb) (n := 0) (fun j hj => by omega) _ _ hvr.1
            have hle : σc.Le σ' := k1.f.trans k2.le
            refine ⟨w, σ', .refl _ _ _, hK v _ B F pl tb w σ' hx (.of hG.bf k1.d) ⟨hG.bf, hFc.trans hle, hG.env, fun d => ?_, fun d i q1 q2 => ?_, fun d d' i hne q1 q2 q3 q4 => ?_, hG.free⟩ hres⟩
            · simp only [oget_oset]
              by_cases e : d = o
              · subst e; rw [if_pos rfl]
                exact hob'.retd hvr.2 fun _ _ => rfl
              · rw [if_neg e]
                refine (hG.obj d).mono (.refl _) (fun _ _ h => h) fun hl i hi => ?_
                have hlt := (hG.obj d).id_lt hl hi
                cases hg : σ.get i with
                | none => exact k1.d.2 i hlt hg
                | some bb => exact hle.2 _ _ (by rw [lentH_get fun hio => hG.sep d o i e hl hlive hi hio]; exact hg)
            · simp only [oget_oset] at q1
              by_cases e : d = o
              · subst e; exact hG.fresh d i hlive q2
              · rw [if_neg e] at q1; exact hG.fresh d i q1 q2
            · have lv : ∀ d, (oget (oset s.own o b') d).live = true → (oget s.own d).live = true := fun d h => by
                rw [oget_oset] at h
                by_cases e : d = o
                · subst e; exact hlive
                · rwa [if_neg e] at h
              exact hG.sep d d' i hne (lv d q1) (lv d' q2) q3 q4
          · exact h.elim
        cases e with
        | normal => exact main h1
        | ret => exact main h1
        | _ => exact h1.elim
      · exact hx.elim
    · exact hx.elim
  · exact hx.elim
mutual
theorem AP.can_pure : ∀ {D : Type} (p : AP D) (x : D), (AP.can p x).pure = true
  | _, .k k, x => rfl
  | _, .agg l, x => by simp only [AP.can, SV.pure]; exact AL.can_pure l x
  | _, .ptr l, x => by simp only [AP.can, SV.pure]; exact AL.can_pure l x
  | _, .fn ks r, x => rfl
theorem AL.can_pure : ∀ {D : Type} (l : AL D) (x : D), SVs.pure (AL.can l x) = true
  | _, .nil, x => rfl
  | _, .one a, x => by simp only [AL.can, SVs.pure, AP.can_pure a x]; rfl
  | _, .cons a r, x => by simp only [AL.can, SVs.pure, AP.can_pure a x.1, AL.can_pure r x.2]; rfl
end
def lentL (ty : Nat) (k : Kind) {D : Type} (l : AL D) (pre : List k.T → Bool → D → Prop) (res : List k.T → Bool → D → SV) (post : List k.T → Bool → D → List k.T) : LSp := fun ap b args => match b with
  | .lst ty' _k' xs nl => if ty' = ty then (match castL xs k, AL.dec ap l args with
    | some xs, some d => some (pre xs nl d, res xs nl d, .lst ty k (post xs nl d) nl)
    | _, _ => none) else none
  | _ => none
theorem lentL_ok {f : Nat} {vc : VCode} {rs : List VResult} {nt : Nat} (h : Fun P f vc rs nt) (hm : P.follows .mixedOrders = true) {ap : Ap} (hap : ApOk P ap) {ty : Nat} {k : Kind} {D : Type} {l : AL D} {pre : List k.T → Bool → D → Prop} {res : List k.T → Bool → D → SV} {post : List k.T → Bool → D → List k.T}
    {C : Cx} (hcs : COk P C) {L : List k.T → Bool → D → List Value → List (Nat × LoopAnn)} {V : List k.T → Bool → D → Prop}
    (hq : ∀ xs nl d, (∀ vals, gwp C (L xs nl d vals) vc 0 (lendK vals rs (res xs nl d) (.lst ty k (post xs nl d) nl) (.lst 0)) (lstart nt (.lst 0) (.lst ty k xs nl) vals (AL.can l d))) = V xs nl d)
    (hb : ∀ xs nl d, pre xs nl d → V xs nl d) : XOk P f (lentX ap (lentL ty k l pre res post)) := by
  refine lentX_ok h hm fun b args c v b' hs hc => ?_
  unfold lentL at hs
  split at hs
  · rename_i ty' k' xs nl
    split at hs
    · rename_i e
      subst e
      split at hs
      · rename_i ys d h1 h2
        obtain ⟨rfl, rfl, rfl⟩ := (by simpa using hs : pre ys nl d = c ∧ res ys nl d = v ∧ OB.lst ty' k (post ys nl d) nl = b')
        unfold castL at h1
        split at h1
        · rename_i e
          subst e
          obtain rfl := Option.some.inj h1
          exact ⟨C, L xs nl d, AL.can l d, AL.can_pure l d, fun σ vs hv => AL.dec_sound hap l h2 hv, hcs, (hq xs nl d).mpr (hb xs nl d hc)⟩
        · cases h1
      · cases hs
    · cases hs
  · cases hs
end
end Go.V

namespace Go.V
open Go
theorem InK_i64 (x : Int) : InK .i64 x ↔ -9223372036854775808 ≤ x ∧ x ≤ 9223372036854775807 := by
  simp [InK, IntKind.min, IntKind.max, IntKind.bits, IntKind.signed]
theorem InK_u8 (x : Int) : InK .u8 x ↔ 0 ≤ x ∧ x ≤ 255 := by
  simp [InK, IntKind.min, IntKind.max, IntKind.bits, IntKind.signed]
theorem InK_u16 (x : Int) : InK .u16 x ↔ 0 ≤ x ∧ x ≤ 65535 := by
  simp [InK, IntKind.min, IntKind.max, IntKind.bits, IntKind.signed]
theorem InK_u32 (x : Int) : InK .u32 x ↔ 0 ≤ x ∧ x ≤ 4294967295 := by
  simp [InK, IntKind.min, IntKind.max, IntKind.bits, IntKind.signed]
theorem InK_i32 (x : Int) : InK .i32 x ↔ -2147483648 ≤ x ∧ x ≤ 2147483647 := by
  simp [InK, IntKind.min, IntKind.max, IntKind.bits, IntKind.signed]
theorem InK_u64 (x : Int) : InK .u64 x ↔ 0 ≤ x ∧ x ≤ 18446744073709551615 := by
  simp [InK, IntKind.min, IntKind.max, IntKind.bits, IntKind.signed]
theorem LoopP.mk {D : Type} {F : D → (D → Prop) → Prop} {d0 : D} (I : D → Prop) (μ : D → Nat) (h0 : I d0) (hr : ∀ d, I d → ∀ q : D → Prop, (∀ d', I d' → μ d' < μ d → q d') → (∀ q', (∀ d', q d' → q' d') → F d q → F d q') → F d q) (hm : ∀ d q q', (∀ d', q d' → q' d') → F d q → F d q') : LoopP F d0 :=
  ⟨I, μ, h0, fun d hd => hr d hd _ (fun _d' h1 h2 => ⟨h1, h2⟩) (fun q' h => hm d _ q' h)⟩
theorem LoopP.count {F : Int → (Int → Prop) → Prop} (n : Nat) (J : Nat → Prop) (h0 : J 0) (hr : ∀ k : Nat, k ≤ n → J k → ∀ q : Int → Prop, (k < n → J (k + 1) → q ((k : Int) + 1)) → F k q) : LoopP F 0 := by
  refine ⟨fun d => ∃ k : Nat, d = k ∧ k ≤ n ∧ J k, fun d => n - d.toNat, ⟨0, rfl, Nat.zero_le _, h0⟩, fun d ⟨k, hd, hk, hJ⟩ => ?_⟩
  subst hd
  refine hr k hk hJ _ fun hlt hJ' => ⟨⟨k + 1, by simp, hlt, hJ'⟩, ?_⟩
  simp; omega
theorem LoopP.countFrom {F : Int → (Int → Prop) → Prop} (a n : Nat) (J : Nat → Prop) (ha : a ≤ n) (h0 : J a) (hr : ∀ k : Nat, a ≤ k → k ≤ n → J k → ∀ q : Int → Prop, (k < n → J (k + 1) → q ((k : Int) + 1)) → F k q) : LoopP F a := by
  refine ⟨fun d => ∃ k : Nat, d = k ∧ a ≤ k ∧ k ≤ n ∧ J k, fun d => n - d.toNat, ⟨a, rfl, Nat.le_refl _, ha, h0⟩, fun d ⟨k, hd, hak, hk, hJ⟩ => ?_⟩
  subst hd
  refine hr k hak hk hJ _ fun hlt hJ' => ⟨⟨k + 1, by simp, by omega, hlt, hJ'⟩, ?_⟩
  simp; omega
theorem LoopP.count1 {X : Type} {F : Int × X → (Int × X → Prop) → Prop} (n : Nat) (J : Nat → X → Prop) {x0 : X} (h0 : J 0 x0) (hr : ∀ (k : Nat) (x : X), k ≤ n → J k x → ∀ q : Int × X → Prop, (∀ x', k < n → J (k + 1) x' → q ((k : Int) + 1, x')) → F ((k : Int), x) q) : LoopP F (0, x0) := by
  refine ⟨fun d => ∃ k : Nat, d.1 = k ∧ k ≤ n ∧ J k d.2, fun d => n - d.1.toNat, ⟨0, rfl, Nat.zero_le _, h0⟩, fun ⟨d, x⟩ ⟨k, hd, hk, hJ⟩ => ?_⟩
  simp only at hd hJ
  subst hd
  refine hr k x hk hJ _ fun x' hlt hJ' => ⟨⟨k + 1, by simp, hlt, hJ'⟩, ?_⟩
  simp; omega
theorem LoopP.count1From {X : Type} {F : Int × X → (Int × X → Prop) → Prop} (a n : Nat) (J : Nat → X → Prop) {x0 : X} (ha : a ≤ n) (h0 : J a x0) (hr : ∀ (k : Nat) (x : X), a ≤ k → k ≤ n → J k x → ∀ q : Int × X → Prop, (∀ x', k < n → J (k + 1) x' → q ((k : Int) + 1, x')) → F ((k : Int), x) q) : LoopP F ((a : Int), x0) := by
  refine ⟨fun d => ∃ k : Nat, d.1 = k ∧ a ≤ k ∧ k ≤ n ∧ J k d.2, fun d => n - d.1.toNat, ⟨a, rfl, Nat.le_refl _, ha, h0⟩, fun ⟨d, x⟩ ⟨k, hd, hak, hk, hJ⟩ => ?_⟩
  simp only at hd hJ
  subst hd
  refine hr k x hak hk hJ _ fun x' hlt hJ' => ⟨⟨k + 1, by simp, by omega, hlt, hJ'⟩, ?_⟩
  simp; omega
theorem LoopP.count2 {X : Type} {F : X × Int → (X × Int → Prop) → Prop} (n : Nat) (J : Nat → X → Prop) {x0 : X} (h0 : J 0 x0) (hr : ∀ (k : Nat) (x : X), k ≤ n → J k x → ∀ q : X × Int → Prop, (∀ x', k < n → J (k + 1) x' → q (x', (k : Int) + 1)) → F (x, (k : Int)) q) : LoopP F (x0, 0) := by
  refine ⟨fun d => ∃ k : Nat, d.2 = k ∧ k ≤ n ∧ J k d.1, fun d => n - d.2.toNat, ⟨0, rfl, Nat.zero_le _, h0⟩, fun ⟨x, d⟩ ⟨k, hd, hk, hJ⟩ => ?_⟩
  simp only at hd hJ
  subst hd
  refine hr k x hk hJ _ fun x' hlt hJ' => ⟨⟨k + 1, by simp, hlt, hJ'⟩, ?_⟩
  simp; omega
theorem pair_eta {α β : Type} (p : α × β) : (p.1, p.2) = p := rfl
theorem getD_nat {α : Type} {l : List α} {k : Nat} {d : α} (h : k < l.length) : l.getD k d = l[k] := by
  simp [List.getD_eq_getElem?_getD, List.getElem?_eq_getElem h]
theorem take_succ_eq {α : Type} {l : List α} {k : Nat} (h : k < l.length) : l.take (k + 1) = l.take k ++ [l[k]] := by
  rw [List.take_succ_eq_append_getElem h]
theorem toNat_add1 (k : Nat) : ((k : Int) + 1).toNat = k + 1 := by omega
theorem cast_lt (a b : Nat) : ((a : Int) < (b : Int)) ↔ a < b := Int.ofNat_lt
end Go.V

namespace Go.V
open Go
def bwCode (agg : Bool) (sz : Nat) : VCode :=
  .seq (.region [
    ⟨(some 4), .load false 1 (.tmp 1), none⟩,
    ⟨(some 5), .len (.tmp 4), none⟩,
    ⟨(some 6), .arith .sub (.tmp 5) (.const (.int .i64 (1))), none⟩,
    ⟨(some 3), .move (.tmp 6), none⟩])
  (.block 0 (.loop (.seq (.seq (.region [
        ⟨(some 7), .move (.tmp 3), none⟩,
        ⟨(some 8), .cmp .geq (.tmp 7) (.const (.int .i64 (0))), none⟩])
      (.cond (.tmp 8) (.skip)
        (.exit 0)))
      (.seq (.block 1 (.seq (.region [
          ⟨(some 11), .move (.tmp 0), none⟩,
          ⟨(some 12), .move (.tmp 3), none⟩,
          ⟨(some 13), .load false 1 (.tmp 1), none⟩,
          ⟨(some 14), .move (.tmp 3), none⟩,
          ⟨(some 15), .indexAddr sz (.tmp 13) (.tmp 14), none⟩,
          ⟨(some 16), .load agg sz (.tmp 15), none⟩,
          ⟨(some 17), .callV (.tmp 11) [.tmp 12, .tmp 16], none⟩,
          ⟨(some 18), .un .not (.tmp 17), none⟩])
        (.cond (.tmp 18) (.ret)
          (.skip))))
      (.region [
        ⟨(some 9), .move (.tmp 3), none⟩,
        ⟨(some 10), .arith .sub (.tmp 9) (.const (.int .i64 (1))), none⟩,
        ⟨(some 3), .move (.tmp 10), none⟩])))))
def bwIt (k : Kind) : ISp := fun args => match args with
  | [.cp l 0] => (match l with
    | [.val (.list _k') l] => (match castL l k with
      | some l => some (l.length < 4611686018427387904, l.length, 2, fun j => [.val (.i .i64) ((l.length : Int) - 1 - j), kval k (l.getD (l.length - 1 - j) k.dflt)])
      | none => none)
    | _ => none)
  | _ => none
section
variable {P : Program}
theorem kval_pure : ∀ (k : Kind) (x : k.T), (kval k x).pure = true
  | .i _, _ | .bo, _ | .st, _ | .list _, _ => rfl
  | .pair a b, x => by
    have app : ∀ l m : List SV, SVs.pure l = true → SVs.pure m = true → SVs.pure (l ++ m) = true := by
      intro l m hl hm
      induction l with
      | nil => exact hm
      | cons s l ih =>
        simp only [SVs.pure, Bool.and_eq_true, List.cons_append] at hl ⊢
        exact ⟨hl.1, ih hl.2⟩
    have cells : ∀ (k : Kind) (x : k.T), SVs.pure (kcells k x) = true := by
      intro k
      induction k with
      | pair a b iha ihb => intro x; exact app _ _ (iha x.1) (ihb x.2)
      | _ => intro x; rfl
    simp only [kval, SV.pure]; exact cells (.pair a b) x
theorem st1 {S : VSpecs} {d : Nat} {op : VOp} {rest : List VOper} {env : Env} {σ : Heap} {K : Env → Heap → Prop} {v : Value} (hv : ∀ K', vop S op env σ K' = obind (vact op (evalO env) σ) fun p => K' p.1 p.2) (h : vact op (evalO env) σ = some (v, σ)) (hr : vops S rest (env.set d v) σ K) : vops S (⟨some d, op, none⟩ :: rest) env σ K := by
  show obind (some true) _
  refine ⟨fun _ => ?_, fun e => by cases e⟩
  rw [hv, h]
  exact hr
theorem elem_at {B τ : Heap} (hle : B.Le τ) {k : Kind} {l : List k.T} {x : Value} (hs : SlRel B k.size (fun x c => KC B k x c) l x) {n : Nat} (hn : n < l.length) :
    ∃ i o cap c e wr t w, x = .slice (some ⟨i, o, none⟩) l.length cap ∧ τ.get i = some (.cells c e wr t) ∧ vpart (!k.one) k.size c (o + n * k.size) = some w ∧ KV B k l[n] w := by
  rcases hs with ⟨rfl, _⟩ | ⟨i, o, cap, c, e, wr, t, h1, h2, h3, h4, h5, h6⟩
  · simp at hn
  · have hmul : n * k.size + k.size ≤ l.length * k.size := by
      have := Nat.mul_le_mul_right k.size (show n + 1 ≤ l.length from hn)
      rwa [Nat.add_mul, Nat.one_mul] at this
    have hat := h6.at (n := k.size) (fun x c hx => KC.length hx) hn
    have e1 : (((c.drop o).take (l.length * k.size)).drop (n * k.size)).take k.size = (c.drop (o + n * k.size)).take k.size := by
      rw [List.drop_take, List.drop_drop, List.take_take, Nat.min_eq_left (by omega)]
    rw [e1] at hat
    have hlen := KC.length hat
    cases hone : k.one with
    | true =>
      have hsz := Kind.one_size hone
      rw [hsz] at hat hlen hmul h5 ⊢
      have hlt : o + n * 1 < c.length := by omega
      refine ⟨i, o, cap, c, e, wr, t, c[o + n * 1], h1, hle.2 _ _ h3, ?_, .inl ⟨hone, ?_⟩⟩
      · simp [vpart]
      · have : (c.drop (o + n * 1)).take 1 = [c[o + n * 1]] := by
          rw [List.drop_eq_getElem_cons hlt]; rfl
        rw [this] at hat; exact hat
    | false =>
      refine ⟨i, o, cap, c, e, wr, t, _, h1, hle.2 _ _ h3, ?_, .inr ⟨hone, _, rfl, hat⟩⟩
      simp only [vpart, Bool.not_false, if_true]
      rw [if_pos (by omega)]
theorem VYields.mono {i : Nat} {args : List Value} {σ : Heap} {R R' : Value → Heap → Prop} (h : VYields P i args σ R) (hr : ∀ v σ', R v σ' → R' v σ') : VYields P i args σ R' := by
  intro ρ w cargs hH hL
  obtain ⟨p, h1, fn, tmps, asg, body, h2, h3⟩ := h ρ w cargs hH hL
  exact ⟨p, h1, fn, tmps, asg, body, h2, h3.mono fun e w' ⟨c, he, hg⟩ => ⟨c, he, hg.mono hr⟩⟩
set_option maxHeartbeats 4000000 in
theorem bw_round {B τ : Heap} {k : Kind} {l1 : List k.T} {x : Value} {i b j : Nat} {Y : VSpec} {J : Nat → Heap → Prop} {E : Heap → Prop} (hY : OkYield P i Y)
    (hld : ∀ (env : Env) (j : Nat), evalO env (.tmp j) = .pointer (some ⟨b, 0, none⟩) → vact (.load false 1 (.tmp j)) (evalO env) τ = some (x, τ)) (hsl : SlRel B k.size (fun x c => KC B k x c) l1 x) (hjle : B.Le τ) (hj1 : j ≤ l1.length) (hc : l1.length < 4611686018427387904)
    (hround : j < l1.length → ∀ us, SRs P B noPl noTb [.val (.i .i64) ((l1.length : Int) - 1 - j), kval k (l1[l1.length - 1 - j]?.getD k.dflt)] us → Y us τ fun v τ' => (v = .bool true ∧ J (j + 1) τ') ∨ (v = .bool false ∧ E τ'))
    {Q : Exit → Env → Heap → Prop} (hQ1 : J l1.length τ → ∀ env, Q .normal env τ) (hQ2 : ∀ τ, E τ → ∀ env, Q .ret env τ) (hJ : J j τ) {n : Nat} (hj2 : n = l1.length - j) (len : Nat) (hlen : len = 19) :
    vwp (semSpecs P) (.seq (.seq (.region [
        ⟨(some 7), .move (.tmp 3), none⟩,
        ⟨(some 8), .cmp .geq (.tmp 7) (.const (.int .i64 (0))), none⟩])
      (.cond (.tmp 8) (.skip)
        (.exit 0)))
      (.seq (.block 1 (.seq (.region [
          ⟨(some 11), .move (.tmp 0), none⟩,
          ⟨(some 12), .move (.tmp 3), none⟩,
          ⟨(some 13), .load false 1 (.tmp 1), none⟩,
          ⟨(some 14), .move (.tmp 3), none⟩,
          ⟨(some 15), .indexAddr k.size (.tmp 13) (.tmp 14), none⟩,
          ⟨(some 16), .load (!k.one) k.size (.tmp 15), none⟩,
          ⟨(some 17), .callV (.tmp 11) [.tmp 12, .tmp 16], none⟩,
          ⟨(some 18), .un .not (.tmp 17), none⟩])
        (.cond (.tmp 18) (.ret)
          (.skip))))
      (.region [
        ⟨(some 9), .move (.tmp 3), none⟩,
        ⟨(some 10), .arith .sub (.tmp 9) (.const (.int .i64 (1))), none⟩,
        ⟨(some 3), .move (.tmp 10), none⟩]))) none (fun e env' σ'' => match e with
      | .normal => ∃ n', n' < n ∧ ∃ j, j ≤ l1.length ∧ n' = l1.length - j ∧ pickE [0, 1, 3] env' = [.func (.yield i) #[] #[], .pointer (some ⟨b, 0, none⟩), .int .i64 ((l1.length : Int) - 1 - j)] ∧ J j σ''
      | e => blockK 0 Q e env' σ'') (spreadE [0, 1, 3] [.func (.yield i) #[] #[], .pointer (some ⟨b, 0, none⟩), .int .i64 ((l1.length : Int) - 1 - j)] (List.replicate len poison)) τ := by
  subst hlen
  show vops _ _ [.func (.yield i) #[] #[], .pointer (some ⟨b, 0, none⟩), poison, .int .i64 ((l1.length : Int) - 1 - j), poison, poison, poison, poison, poison, poison, poison, poison, poison, poison, poison, poison, poison, poison, poison] _ _
  refine st1 (fun _ => rfl) rfl ?_
  refine st1 (v := .bool (decide ((0 : Int) ≤ (l1.length : Int) - 1 - j))) (fun _ => rfl) rfl ?_
  show vcond (.bool _) _ _
  refine ⟨fun hge => ?_, fun hlt => ?_⟩
  · have hge : (0 : Int) ≤ (l1.length : Int) - 1 - j := by simpa using hge
    have hnl : l1.length - 1 - j < l1.length := by omega
    obtain ⟨i', o', cap', c', e', wr', t', w, q1, q2, q3, q4⟩ := elem_at hjle hsl hnl
    show vops _ _ _ _ _
    refine st1 (fun _ => rfl) rfl ?_
    refine st1 (fun _ => rfl) rfl ?_
    refine st1 (fun _ => rfl) (hld _ _ rfl) ?_
    refine st1 (fun _ => rfl) rfl ?_
    refine st1 (v := .pointer (some ⟨i', o' + (l1.length - 1 - j) * k.size, none⟩)) (fun _ => rfl) ?_ ?_
    · rw [q1]
      show (if 0 ≤ (l1.length : Int) - 1 - j ∧ (l1.length : Int) - 1 - j < l1.length then some (Value.pointer (some ⟨i', o' + ((l1.length : Int) - 1 - j).toNat * k.size, none⟩), τ) else none) = _
      rw [if_pos ⟨hge, by omega⟩]
      have : ((l1.length : Int) - 1 - j).toNat = l1.length - 1 - j := by omega
      rw [this]
    refine st1 (v := w) (fun _ => rfl) ?_ ?_
    · show (match τ.get i' with | some (.cells c _ _ _) => (match vpart (!k.one) k.size c (o' + (l1.length - 1 - j) * k.size) with | some v => some (v, τ) | none => none) | _ => none) = _
      rw [q2]; simp only [q3]
    show obind (some true) _
    refine ⟨fun _ => ?_, fun e => by cases e⟩
    show VYields P i [.int .i64 ((l1.length : Int) - 1 - j), w] τ _
    refine VYields.mono (hY _ _ _ (hround (by omega) [.int .i64 ((l1.length : Int) - 1 - j), w] ?_)) ?_
    · simp only [SRs]
      refine ⟨_, _, rfl, rfl, w, [], rfl, ?_, rfl⟩
      rw [List.getElem?_eq_getElem hnl]
      exact kval_sound q4
    · rintro v τ' (⟨rfl, hJ'⟩ | ⟨rfl, hE⟩)
      · show vops _ _ _ _ _
        refine st1 (v := .bool false) (fun _ => rfl) rfl ?_
        show vcond (.bool false) _ _
        refine ⟨(fun e => by cases e), fun _ => ?_⟩
        show vops _ _ _ _ _
        refine st1 (fun _ => rfl) rfl ?_
        refine st1 (v := .int .i64 ((l1.length : Int) - 1 - (j + 1 : Nat))) (fun _ => rfl) ?_ ?_
        · show (if IntKind.i64 = IntKind.i64 then some (Value.int .i64 (IntKind.i64.wrap ((l1.length : Int) - 1 - j - 1)), τ') else none) = _
          rw [if_pos rfl, wrap64_id (by omega)]
          simp only [Option.some.injEq, Prod.mk.injEq, Value.int.injEq, true_and, and_true]
          omega
        refine st1 (fun _ => rfl) rfl ?_
        exact ⟨l1.length - (j + 1), by omega, j + 1, by omega, rfl, rfl, hJ'⟩
      · show vops _ _ _ _ _
        refine st1 (v := .bool true) (fun _ => rfl) rfl ?_
        show vcond (.bool true) _ _
        refine ⟨fun _ => ?_, fun e => by cases e⟩
        exact hQ2 _ hE _
  · have hlt : ¬ (0 : Int) ≤ (l1.length : Int) - 1 - j := by simpa using hlt
    have hj : j = l1.length := by omega
    subst hj
    exact hQ1 hJ _
theorem bw_ok {f : Nat} {k : Kind} (h : Fun P f (bwCode (!k.one) k.size) [] 19) (hm : P.follows .mixedOrders = true) : ItOk P f (bwIt k) := by
  refine ⟨h.enterable, fun B args vs c m ar xs hs hit hc => ?_⟩
  unfold bwIt at hit
  split at hit
  · rename_i l0
    split at hit
    · rename_i k' l1
      split at hit
      · rename_i l hl
        unfold castL at hl
        split at hl
        · rename_i e
          subst e
          obtain rfl := Option.some.inj hl
          obtain ⟨rfl, rfl, rfl, rfl⟩ := (by simpa using hit : (l1.length < 4611686018427387904) = c ∧ l1.length = m ∧ 2 = ar ∧ _ = xs)
          refine ⟨fun j => ⟨rfl, by simp only [SVs.pure, SV.pure, kval_pure]; rfl⟩, fun i Y J E τ0 hY hle hround h0 => ?_⟩
          simp only [SRs, SR] at hs
          obtain ⟨cap, _, rfl, ⟨b, cc, e, wr, t, hb, rfl, x, _, rfl, ⟨y, hy, hsl⟩, rfl⟩, rfl⟩ := hs
          obtain rfl : x = y := by simpa using hy
          have cell : ∀ τ, B.Le τ → τ.get b = some (.cells [x] e wr t) := fun τ hτ => hτ.2 _ _ hb
          obtain ⟨xa, xcap, hxs⟩ := SlRel.len hsl
          have hxl : ∀ (env : Env) (σ : Heap) (j : Nat), evalO env (.tmp j) = x → vact (.len (.tmp j)) (evalO env) σ = some (.int .i64 l1.length, σ) := fun env σ j hj => by
            simp only [vact, hj, hxs]
          refine h.callsTo hm okSem ?_
          have hld : ∀ (env : Env) (σ : Heap) (j : Nat), B.Le σ → evalO env (.tmp j) = .pointer (some ⟨b, 0, none⟩) → vact (.load false 1 (.tmp j)) (evalO env) σ = some (x, σ) := fun env σ j hσ hj => by
            simp only [vact, hj, cell σ hσ, vpart]; rfl
          have h0le := hle 0 τ0 h0
          show vops _ _ _ _ _
          refine st1 (fun _ => rfl) (hld _ _ _ h0le rfl) ?_
          refine st1 (fun _ => rfl) (hxl _ _ _ rfl) ?_
          refine st1 (v := .int .i64 ((l1.length : Int) - 1)) (fun _ => rfl) ?_ ?_
          · show (if IntKind.i64 = IntKind.i64 then some (Value.int .i64 (IntKind.i64.wrap ((l1.length : Int) - 1)), τ0) else none) = _
            rw [if_pos rfl, wrap64_id (by omega)]
          refine st1 (v := .int .i64 ((l1.length : Int) - 1)) (fun _ => rfl) rfl ?_
          show VLoop _ _ _ _
          refine ⟨[0, 1, 3], fun n vs τ => ∃ j, j ≤ l1.length ∧ n = l1.length - j ∧ vs = [.func (.yield i) #[] #[], .pointer (some ⟨b, 0, none⟩), .int .i64 ((l1.length : Int) - 1 - j)] ∧ J j τ, l1.length, ⟨0, Nat.zero_le _, rfl, ?_, h0⟩, fun n vs τ ⟨j, hj1, hj2, hj3, hJ⟩ => ?_⟩
          · simp [pickE]
          · subst hj3
            have hjle := hle j τ hJ
            refine bw_round (J := J) (E := E) hY (fun env jj h => hld _ _ _ hjle h) hsl hjle hj1 hc (fun hlt us hus => hround j us τ hlt hJ hus) ?_ ?_ hJ hj2 _ rfl
            · exact fun hJ env => ⟨_, _, .refl _ _ _, .inl hJ⟩
            · exact fun τ hE env => ⟨_, _, .refl _ _ _, .inr hE⟩
        · cases hl
      · cases hit
    · cases hit
  · cases hit
theorem XsOk.nil : ∀ f x, alook ([] : List (Nat × XSp)) f = some x → XOk P f x := fun f x h => by cases h
theorem XsOk.cons {f : Nat} {x : XSp} {l : List (Nat × XSp)} (h : XOk P f x) (t : ∀ g y, alook l g = some y → XOk P g y) : ∀ g y, alook ((f, x) :: l) g = some y → XOk P g y := fun g y hg => by
  simp only [alook] at hg
  cases hb : Nat.beq f g with
  | true => rw [hb] at hg; obtain rfl := Nat.eq_of_beq_eq_true hb; obtain rfl := Option.some.inj hg; exact h
  | false => rw [hb] at hg; exact t g y hg
theorem ItsOk.nil : ∀ f x, alook ([] : List (Nat × ISp)) f = some x → ItOk P f x := fun f x h => by cases h
theorem ItsOk.cons {f : Nat} {x : ISp} {l : List (Nat × ISp)} (h : ItOk P f x) (t : ∀ g y, alook l g = some y → ItOk P g y) : ∀ g y, alook ((f, x) :: l) g = some y → ItOk P g y := fun g y hg => by
  simp only [alook] at hg
  cases hb : Nat.beq f g with
  | true => rw [hb] at hg; obtain rfl := Nat.eq_of_beq_eq_true hb; obtain rfl := Option.some.inj hg; exact h
  | false => rw [hb] at hg; exact t g y hg
def apNone : Ap := fun _ _ => none
theorem apNone_ok : ApOk P apNone := fun _ _ _ _ _ _ _ _ _ h => by cases h
end
end Go.V

namespace Go.Proofs.Tryd
open Go Go.V Go.Proofs
theorem mixed : Tryd.prog.follows .mixedOrders = true := by kernel_rfl
noncomputable def cof (fn : Func) : VCode := match fn.body.bind (comp Tryd.prog) with | some c => c | none => .bad
theorem cof_ok {fn : Func} (h : (fn.body.bind (comp Tryd.prog)).isSome = true) : fn.body.bind (comp Tryd.prog) = some (cof fn) := by
  unfold cof
  cases h2 : fn.body.bind (comp Tryd.prog) with
  | none => rw [h2] at h; cases h
  | some c => rfl
noncomputable def c2 : VCode := cof Tryd.f2
theorem fun2 : Fun Tryd.prog 2 c2 [] 1 := ⟨Tryd.f2, Tryd.func2, cof_ok (by kernel_rfl), by kernel_rfl, rfl, rfl⟩
noncomputable def c3 : VCode := cof Tryd.f3
theorem fun3 : Fun Tryd.prog 3 c3 [.tmp 4] 79 := ⟨Tryd.f3, Tryd.func3, cof_ok (by kernel_rfl), by kernel_rfl, rfl, rfl⟩
noncomputable def c4 : VCode := cof Tryd.f4
theorem fun4 : Fun Tryd.prog 4 c4 [.tmp 2] 114 := ⟨Tryd.f4, Tryd.func4, cof_ok (by kernel_rfl), by kernel_rfl, rfl, rfl⟩
noncomputable def c5 : VCode := cof Tryd.f5
theorem fun5 : Fun Tryd.prog 5 c5 [.tmp 2] 167 := ⟨Tryd.f5, Tryd.func5, cof_ok (by kernel_rfl), by kernel_rfl, rfl, rfl⟩
noncomputable def c6 : VCode := cof Tryd.f6
theorem fun6 : Fun Tryd.prog 6 c6 [.tmp 4] 270 := ⟨Tryd.f6, Tryd.func6, cof_ok (by kernel_rfl), by kernel_rfl, rfl, rfl⟩
noncomputable def c7 : VCode := cof Tryd.f7
theorem fun7 : Fun Tryd.prog 7 c7 [.tmp 4] 232 := ⟨Tryd.f7, Tryd.func7, cof_ok (by kernel_rfl), by kernel_rfl, rfl, rfl⟩
noncomputable def c8 : VCode := cof Tryd.f8
theorem fun8 : Fun Tryd.prog 8 c8 [.tmp 2] 434 := ⟨Tryd.f8, Tryd.func8, cof_ok (by kernel_rfl), by kernel_rfl, rfl, rfl⟩
noncomputable def c9 : VCode := cof Tryd.f9
theorem fun9 : Fun Tryd.prog 9 c9 [.tmp 6] 235 := ⟨Tryd.f9, Tryd.func9, cof_ok (by kernel_rfl), by kernel_rfl, rfl, rfl⟩
noncomputable def c10 : VCode := cof Tryd.f10
theorem fun10 : Fun Tryd.prog 10 c10 [.tmp 4] 380 := ⟨Tryd.f10, Tryd.func10, cof_ok (by kernel_rfl), by kernel_rfl, rfl, rfl⟩
noncomputable def c11 : VCode := cof Tryd.f11
theorem fun11 : Fun Tryd.prog 11 c11 [.tmp 6] 22 := ⟨Tryd.f11, Tryd.func11, cof_ok (by kernel_rfl), by kernel_rfl, rfl, rfl⟩
noncomputable def c12 : VCode := cof Tryd.f12
theorem fun12 : Fun Tryd.prog 12 c12 [.tmp 0] 240 := ⟨Tryd.f12, Tryd.func12, cof_ok (by kernel_rfl), by kernel_rfl, rfl, rfl⟩
noncomputable def c13 : VCode := cof Tryd.f13
theorem fun13 : Fun Tryd.prog 13 c13 [.cell 2 true 2] 9 := ⟨Tryd.f13, Tryd.func13, cof_ok (by kernel_rfl), by kernel_rfl, rfl, rfl⟩
noncomputable def c14 : VCode := cof Tryd.f14
theorem fun14 : Fun Tryd.prog 14 c14 [.tmp 2] 6 := ⟨Tryd.f14, Tryd.func14, cof_ok (by kernel_rfl), by kernel_rfl, rfl, rfl⟩
noncomputable def c15 : VCode := cof Tryd.f15
theorem fun15 : Fun Tryd.prog 15 c15 [.cell 4 false 1, .tmp 5, .tmp 6] 86 := ⟨Tryd.f15, Tryd.func15, cof_ok (by kernel_rfl), by kernel_rfl, rfl, rfl⟩
noncomputable def c16 : VCode := cof Tryd.f16
theorem fun16 : Fun Tryd.prog 16 c16 [.tmp 4] 38 := ⟨Tryd.f16, Tryd.func16, cof_ok (by kernel_rfl), by kernel_rfl, rfl, rfl⟩
noncomputable def c17 : VCode := cof Tryd.f17
theorem fun17 : Fun Tryd.prog 17 c17 [.tmp 4] 26 := ⟨Tryd.f17, Tryd.func17, cof_ok (by kernel_rfl), by kernel_rfl, rfl, rfl⟩
noncomputable def c18 : VCode := cof Tryd.f18
theorem fun18 : Fun Tryd.prog 18 c18 [.tmp 4] 34 := ⟨Tryd.f18, Tryd.func18, cof_ok (by kernel_rfl), by kernel_rfl, rfl, rfl⟩
noncomputable def c19 : VCode := cof Tryd.f19
theorem fun19 : Fun Tryd.prog 19 c19 [.tmp 4, .tmp 5] 125 := ⟨Tryd.f19, Tryd.func19, cof_ok (by kernel_rfl), by kernel_rfl, rfl, rfl⟩
noncomputable def c20 : VCode := cof Tryd.f20
theorem fun20 : Fun Tryd.prog 20 c20 [.tmp 2] 19 := ⟨Tryd.f20, Tryd.func20, cof_ok (by kernel_rfl), by kernel_rfl, rfl, rfl⟩
noncomputable def c21 : VCode := cof Tryd.f21
theorem fun21 : Fun Tryd.prog 21 c21 [.tmp 2] 22 := ⟨Tryd.f21, Tryd.func21, cof_ok (by kernel_rfl), by kernel_rfl, rfl, rfl⟩
noncomputable def c22 : VCode := cof Tryd.f22
theorem fun22 : Fun Tryd.prog 22 c22 [.tmp 2, .tmp 3] 40 := ⟨Tryd.f22, Tryd.func22, cof_ok (by kernel_rfl), by kernel_rfl, rfl, rfl⟩
noncomputable def c23 : VCode := cof Tryd.f23
theorem fun23 : Fun Tryd.prog 23 c23 [.tmp 2, .tmp 3] 75 := ⟨Tryd.f23, Tryd.func23, cof_ok (by kernel_rfl), by kernel_rfl, rfl, rfl⟩
noncomputable def c24 : VCode := cof Tryd.f24
theorem fun24 : Fun Tryd.prog 24 c24 [.tmp 2, .tmp 3] 55 := ⟨Tryd.f24, Tryd.func24, cof_ok (by kernel_rfl), by kernel_rfl, rfl, rfl⟩
noncomputable def c25 : VCode := cof Tryd.f25
theorem fun25 : Fun Tryd.prog 25 c25 [.tmp 2, .tmp 3] 87 := ⟨Tryd.f25, Tryd.func25, cof_ok (by kernel_rfl), by kernel_rfl, rfl, rfl⟩
noncomputable def c26 : VCode := cof Tryd.f26
theorem fun26 : Fun Tryd.prog 26 c26 [.tmp 2] 27 := ⟨Tryd.f26, Tryd.func26, cof_ok (by kernel_rfl), by kernel_rfl, rfl, rfl⟩
noncomputable def c27 : VCode := cof Tryd.f27
theorem fun27 : Fun Tryd.prog 27 c27 [.tmp 2, .tmp 3] 52 := ⟨Tryd.f27, Tryd.func27, cof_ok (by kernel_rfl), by kernel_rfl, rfl, rfl⟩
noncomputable def c28 : VCode := cof Tryd.f28
theorem fun28 : Fun Tryd.prog 28 c28 [.tmp 8] 67 := ⟨Tryd.f28, Tryd.func28, cof_ok (by kernel_rfl), by kernel_rfl, rfl, rfl⟩
noncomputable def c29 : VCode := cof Tryd.f29
theorem fun29 : Fun Tryd.prog 29 c29 [.tmp 6] 15 := ⟨Tryd.f29, Tryd.func29, cof_ok (by kernel_rfl), by kernel_rfl, rfl, rfl⟩
noncomputable def c30 : VCode := cof Tryd.f30
theorem fun30 : Fun Tryd.prog 30 c30 [.tmp 6] 32 := ⟨Tryd.f30, Tryd.func30, cof_ok (by kernel_rfl), by kernel_rfl, rfl, rfl⟩
noncomputable def c31 : VCode := cof Tryd.f31
theorem fun31 : Fun Tryd.prog 31 c31 [.cell 2 true 2] 48 := ⟨Tryd.f31, Tryd.func31, cof_ok (by kernel_rfl), by kernel_rfl, rfl, rfl⟩
noncomputable def c32 : VCode := cof Tryd.f32
theorem fun32 : Fun Tryd.prog 32 c32 [.cell 2 true 2] 51 := ⟨Tryd.f32, Tryd.func32, cof_ok (by kernel_rfl), by kernel_rfl, rfl, rfl⟩
noncomputable def c33 : VCode := cof Tryd.f33
theorem fun33 : Fun Tryd.prog 33 c33 [.tmp 4] 40 := ⟨Tryd.f33, Tryd.func33, cof_ok (by kernel_rfl), by kernel_rfl, rfl, rfl⟩
noncomputable def c34 : VCode := cof Tryd.f34
theorem fun34 : Fun Tryd.prog 34 c34 [.tmp 6, .tmp 7] 61 := ⟨Tryd.f34, Tryd.func34, cof_ok (by kernel_rfl), by kernel_rfl, rfl, rfl⟩
noncomputable def c35 : VCode := cof Tryd.f35
theorem fun35 : Fun Tryd.prog 35 c35 [.cell 2 true 2] 9 := ⟨Tryd.f35, Tryd.func35, cof_ok (by kernel_rfl), by kernel_rfl, rfl, rfl⟩
noncomputable def c36 : VCode := cof Tryd.f36
theorem fun36 : Fun Tryd.prog 36 c36 [.tmp 4, .tmp 5] 43 := ⟨Tryd.f36, Tryd.func36, cof_ok (by kernel_rfl), by kernel_rfl, rfl, rfl⟩
noncomputable def c37 : VCode := cof Tryd.f37
theorem fun37 : Fun Tryd.prog 37 c37 [.tmp 4, .tmp 5] 31 := ⟨Tryd.f37, Tryd.func37, cof_ok (by kernel_rfl), by kernel_rfl, rfl, rfl⟩
noncomputable def c38 : VCode := cof Tryd.f38
theorem fun38 : Fun Tryd.prog 38 c38 [.tmp 4] 26 := ⟨Tryd.f38, Tryd.func38, cof_ok (by kernel_rfl), by kernel_rfl, rfl, rfl⟩
noncomputable def c39 : VCode := cof Tryd.f39
theorem fun39 : Fun Tryd.prog 39 c39 [.tmp 6, .tmp 7, .tmp 8] 97 := ⟨Tryd.f39, Tryd.func39, cof_ok (by kernel_rfl), by kernel_rfl, rfl, rfl⟩
noncomputable def c40 : VCode := cof Tryd.f40
theorem fun40 : Fun Tryd.prog 40 c40 [.tmp 2] 6 := ⟨Tryd.f40, Tryd.func40, cof_ok (by kernel_rfl), by kernel_rfl, rfl, rfl⟩
noncomputable def c41 : VCode := cof Tryd.f41
theorem fun41 : Fun Tryd.prog 41 c41 [.tmp 4] 67 := ⟨Tryd.f41, Tryd.func41, cof_ok (by kernel_rfl), by kernel_rfl, rfl, rfl⟩
noncomputable def c42 : VCode := cof Tryd.f42
theorem fun42 : Fun Tryd.prog 42 c42 [.tmp 6, .tmp 7, .tmp 8] 106 := ⟨Tryd.f42, Tryd.func42, cof_ok (by kernel_rfl), by kernel_rfl, rfl, rfl⟩
noncomputable def c43 : VCode := cof Tryd.f43
theorem fun43 : Fun Tryd.prog 43 c43 [.tmp 6, .tmp 7] 50 := ⟨Tryd.f43, Tryd.func43, cof_ok (by kernel_rfl), by kernel_rfl, rfl, rfl⟩
noncomputable def c44 : VCode := cof Tryd.f44
theorem fun44 : Fun Tryd.prog 44 c44 [.cell 0 true 2] 3 := ⟨Tryd.f44, Tryd.func44, cof_ok (by kernel_rfl), by kernel_rfl, rfl, rfl⟩
noncomputable def c45 : VCode := cof Tryd.f45
theorem fun45 : Fun Tryd.prog 45 c45 [.tmp 4] 26 := ⟨Tryd.f45, Tryd.func45, cof_ok (by kernel_rfl), by kernel_rfl, rfl, rfl⟩
noncomputable def c46 : VCode := cof Tryd.f46
theorem fun46 : Fun Tryd.prog 46 c46 [.tmp 2] 8 := ⟨Tryd.f46, Tryd.func46, cof_ok (by kernel_rfl), by kernel_rfl, rfl, rfl⟩
noncomputable def c47 : VCode := cof Tryd.f47
theorem fun47 : Fun Tryd.prog 47 c47 [.tmp 2] 4 := ⟨Tryd.f47, Tryd.func47, cof_ok (by kernel_rfl), by kernel_rfl, rfl, rfl⟩
noncomputable def c48 : VCode := cof Tryd.f48
theorem fun48 : Fun Tryd.prog 48 c48 [.tmp 4] 28 := ⟨Tryd.f48, Tryd.func48, cof_ok (by kernel_rfl), by kernel_rfl, rfl, rfl⟩
noncomputable def c49 : VCode := cof Tryd.f49
theorem fun49 : Fun Tryd.prog 49 c49 [] 28 := ⟨Tryd.f49, Tryd.func49, cof_ok (by kernel_rfl), by kernel_rfl, rfl, rfl⟩
noncomputable def c50 : VCode := cof Tryd.f50
theorem fun50 : Fun Tryd.prog 50 c50 [.tmp 2] 33 := ⟨Tryd.f50, Tryd.func50, cof_ok (by kernel_rfl), by kernel_rfl, rfl, rfl⟩
noncomputable def c51 : VCode := cof Tryd.f51
theorem fun51 : Fun Tryd.prog 51 c51 [.tmp 6] 28 := ⟨Tryd.f51, Tryd.func51, cof_ok (by kernel_rfl), by kernel_rfl, rfl, rfl⟩
noncomputable def c52 : VCode := cof Tryd.f52
theorem fun52 : Fun Tryd.prog 52 c52 [.tmp 2] 11 := ⟨Tryd.f52, Tryd.func52, cof_ok (by kernel_rfl), by kernel_rfl, rfl, rfl⟩
noncomputable def c53 : VCode := cof Tryd.f53
theorem fun53 : Fun Tryd.prog 53 c53 [.tmp 2] 22 := ⟨Tryd.f53, Tryd.func53, cof_ok (by kernel_rfl), by kernel_rfl, rfl, rfl⟩
noncomputable def c54 : VCode := cof Tryd.f54
theorem fun54 : Fun Tryd.prog 54 c54 [.tmp 4] 10 := ⟨Tryd.f54, Tryd.func54, cof_ok (by kernel_rfl), by kernel_rfl, rfl, rfl⟩
noncomputable def c55 : VCode := cof Tryd.f55
theorem fun55 : Fun Tryd.prog 55 c55 [.tmp 4] 9 := ⟨Tryd.f55, Tryd.func55, cof_ok (by kernel_rfl), by kernel_rfl, rfl, rfl⟩
noncomputable def c56 : VCode := cof Tryd.f56
theorem fun56 : Fun Tryd.prog 56 c56 [.tmp 4] 48 := ⟨Tryd.f56, Tryd.func56, cof_ok (by kernel_rfl), by kernel_rfl, rfl, rfl⟩
noncomputable def c57 : VCode := cof Tryd.f57
theorem fun57 : Fun Tryd.prog 57 c57 [.tmp 2] 7 := ⟨Tryd.f57, Tryd.func57, cof_ok (by kernel_rfl), by kernel_rfl, rfl, rfl⟩
noncomputable def c58 : VCode := cof Tryd.f58
theorem fun58 : Fun Tryd.prog 58 c58 [.tmp 4] 40 := ⟨Tryd.f58, Tryd.func58, cof_ok (by kernel_rfl), by kernel_rfl, rfl, rfl⟩
noncomputable def c59 : VCode := cof Tryd.f59
theorem fun59 : Fun Tryd.prog 59 c59 [.tmp 6] 34 := ⟨Tryd.f59, Tryd.func59, cof_ok (by kernel_rfl), by kernel_rfl, rfl, rfl⟩
noncomputable def c60 : VCode := cof Tryd.f60
theorem fun60 : Fun Tryd.prog 60 c60 [.tmp 4] 19 := ⟨Tryd.f60, Tryd.func60, cof_ok (by kernel_rfl), by kernel_rfl, rfl, rfl⟩
noncomputable def c61 : VCode := cof Tryd.f61
theorem fun61 : Fun Tryd.prog 61 c61 [.tmp 3] 8 := ⟨Tryd.f61, Tryd.func61, cof_ok (by kernel_rfl), by kernel_rfl, rfl, rfl⟩
noncomputable def c62 : VCode := cof Tryd.f62
theorem fun62 : Fun Tryd.prog 62 c62 [.tmp 2] 27 := ⟨Tryd.f62, Tryd.func62, cof_ok (by kernel_rfl), by kernel_rfl, rfl, rfl⟩
noncomputable def c63 : VCode := cof Tryd.f63
theorem fun63 : Fun Tryd.prog 63 c63 [.tmp 2] 28 := ⟨Tryd.f63, Tryd.func63, cof_ok (by kernel_rfl), by kernel_rfl, rfl, rfl⟩
noncomputable def c64 : VCode := cof Tryd.f64
theorem fun64 : Fun Tryd.prog 64 c64 [.tmp 4] 22 := ⟨Tryd.f64, Tryd.func64, cof_ok (by kernel_rfl), by kernel_rfl, rfl, rfl⟩
noncomputable def c65 : VCode := cof Tryd.f65
theorem fun65 : Fun Tryd.prog 65 c65 [.tmp 3] 20 := ⟨Tryd.f65, Tryd.func65, cof_ok (by kernel_rfl), by kernel_rfl, rfl, rfl⟩
noncomputable def c66 : VCode := cof Tryd.f66
theorem fun66 : Fun Tryd.prog 66 c66 [.tmp 6] 11 := ⟨Tryd.f66, Tryd.func66, cof_ok (by kernel_rfl), by kernel_rfl, rfl, rfl⟩
noncomputable def c67 : VCode := cof Tryd.f67
theorem fun67 : Fun Tryd.prog 67 c67 [.tmp 4] 22 := ⟨Tryd.f67, Tryd.func67, cof_ok (by kernel_rfl), by kernel_rfl, rfl, rfl⟩
noncomputable def c68 : VCode := cof Tryd.f68
theorem fun68 : Fun Tryd.prog 68 c68 [.tmp 4] 9 := ⟨Tryd.f68, Tryd.func68, cof_ok (by kernel_rfl), by kernel_rfl, rfl, rfl⟩
noncomputable def c69 : VCode := cof Tryd.f69
theorem fun69 : Fun Tryd.prog 69 c69 [.tmp 4] 48 := ⟨Tryd.f69, Tryd.func69, cof_ok (by kernel_rfl), by kernel_rfl, rfl, rfl⟩
noncomputable def c70 : VCode := cof Tryd.f70
theorem fun70 : Fun Tryd.prog 70 c70 [.tmp 4] 48 := ⟨Tryd.f70, Tryd.func70, cof_ok (by kernel_rfl), by kernel_rfl, rfl, rfl⟩
noncomputable def c71 : VCode := cof Tryd.f71
theorem fun71 : Fun Tryd.prog 71 c71 [.cell 6 true 4, .tmp 7] 50 := ⟨Tryd.f71, Tryd.func71, cof_ok (by kernel_rfl), by kernel_rfl, rfl, rfl⟩
noncomputable def c72 : VCode := cof Tryd.f72
theorem fun72 : Fun Tryd.prog 72 c72 [.tmp 2, .tmp 3] 46 := ⟨Tryd.f72, Tryd.func72, cof_ok (by kernel_rfl), by kernel_rfl, rfl, rfl⟩
noncomputable def c73 : VCode := cof Tryd.f73
theorem fun73 : Fun Tryd.prog 73 c73 [.tmp 4] 16 := ⟨Tryd.f73, Tryd.func73, cof_ok (by kernel_rfl), by kernel_rfl, rfl, rfl⟩
noncomputable def c74 : VCode := cof Tryd.f74
theorem fun74 : Fun Tryd.prog 74 c74 [.tmp 9] 45 := ⟨Tryd.f74, Tryd.func74, cof_ok (by kernel_rfl), by kernel_rfl, rfl, rfl⟩
noncomputable def c75 : VCode := cof Tryd.f75
theorem fun75 : Fun Tryd.prog 75 c75 [] 19 := ⟨Tryd.f75, Tryd.func75, cof_ok (by kernel_rfl), by kernel_rfl, rfl, rfl⟩
noncomputable def c76 : VCode := cof Tryd.f76
theorem fun76 : Fun Tryd.prog 76 c76 [.tmp 6] 15 := ⟨Tryd.f76, Tryd.func76, cof_ok (by kernel_rfl), by kernel_rfl, rfl, rfl⟩
noncomputable def c77 : VCode := cof Tryd.f77
theorem fun77 : Fun Tryd.prog 77 c77 [.tmp 2] 4 := ⟨Tryd.f77, Tryd.func77, cof_ok (by kernel_rfl), by kernel_rfl, rfl, rfl⟩
noncomputable def c78 : VCode := cof Tryd.f78
theorem fun78 : Fun Tryd.prog 78 c78 [.tmp 2] 25 := ⟨Tryd.f78, Tryd.func78, cof_ok (by kernel_rfl), by kernel_rfl, rfl, rfl⟩
noncomputable def c79 : VCode := cof Tryd.f79
theorem fun79 : Fun Tryd.prog 79 c79 [.tmp 6] 11 := ⟨Tryd.f79, Tryd.func79, cof_ok (by kernel_rfl), by kernel_rfl, rfl, rfl⟩
noncomputable def c80 : VCode := cof Tryd.f80
theorem fun80 : Fun Tryd.prog 80 c80 [.tmp 6] 11 := ⟨Tryd.f80, Tryd.func80, cof_ok (by kernel_rfl), by kernel_rfl, rfl, rfl⟩
noncomputable def c81 : VCode := cof Tryd.f81
theorem fun81 : Fun Tryd.prog 81 c81 [.tmp 4] 17 := ⟨Tryd.f81, Tryd.func81, cof_ok (by kernel_rfl), by kernel_rfl, rfl, rfl⟩
noncomputable def c82 : VCode := cof Tryd.f82
theorem fun82 : Fun Tryd.prog 82 c82 [.tmp 2] 4 := ⟨Tryd.f82, Tryd.func82, cof_ok (by kernel_rfl), by kernel_rfl, rfl, rfl⟩
noncomputable def c83 : VCode := cof Tryd.f83
theorem fun83 : Fun Tryd.prog 83 c83 [.tmp 6] 17 := ⟨Tryd.f83, Tryd.func83, cof_ok (by kernel_rfl), by kernel_rfl, rfl, rfl⟩
noncomputable def c84 : VCode := cof Tryd.f84
theorem fun84 : Fun Tryd.prog 84 c84 [.tmp 2] 14 := ⟨Tryd.f84, Tryd.func84, cof_ok (by kernel_rfl), by kernel_rfl, rfl, rfl⟩
noncomputable def c85 : VCode := cof Tryd.f85
theorem fun85 : Fun Tryd.prog 85 c85 [.tmp 4] 9 := ⟨Tryd.f85, Tryd.func85, cof_ok (by kernel_rfl), by kernel_rfl, rfl, rfl⟩
noncomputable def c86 : VCode := cof Tryd.f86
theorem fun86 : Fun Tryd.prog 86 c86 [.tmp 4] 13 := ⟨Tryd.f86, Tryd.func86, cof_ok (by kernel_rfl), by kernel_rfl, rfl, rfl⟩
noncomputable def c87 : VCode := cof Tryd.f87
theorem fun87 : Fun Tryd.prog 87 c87 [.tmp 4] 19 := ⟨Tryd.f87, Tryd.func87, cof_ok (by kernel_rfl), by kernel_rfl, rfl, rfl⟩
noncomputable def c88 : VCode := cof Tryd.f88
theorem fun88 : Fun Tryd.prog 88 c88 [.tmp 4, .tmp 5] 30 := ⟨Tryd.f88, Tryd.func88, cof_ok (by kernel_rfl), by kernel_rfl, rfl, rfl⟩
noncomputable def c89 : VCode := cof Tryd.f89
theorem fun89 : Fun Tryd.prog 89 c89 [.tmp 3] 15 := ⟨Tryd.f89, Tryd.func89, cof_ok (by kernel_rfl), by kernel_rfl, rfl, rfl⟩
noncomputable def c90 : VCode := cof Tryd.f90
theorem fun90 : Fun Tryd.prog 90 c90 [.tmp 4] 43 := ⟨Tryd.f90, Tryd.func90, cof_ok (by kernel_rfl), by kernel_rfl, rfl, rfl⟩
noncomputable def c91 : VCode := cof Tryd.f91
theorem fun91 : Fun Tryd.prog 91 c91 [.tmp 4] 9 := ⟨Tryd.f91, Tryd.func91, cof_ok (by kernel_rfl), by kernel_rfl, rfl, rfl⟩
noncomputable def c92 : VCode := cof Tryd.f92
theorem fun92 : Fun Tryd.prog 92 c92 [.tmp 4] 30 := ⟨Tryd.f92, Tryd.func92, cof_ok (by kernel_rfl), by kernel_rfl, rfl, rfl⟩
noncomputable def c93 : VCode := cof Tryd.f93
theorem fun93 : Fun Tryd.prog 93 c93 [] 19 := ⟨Tryd.f93, Tryd.func93, cof_ok (by kernel_rfl), by kernel_rfl, rfl, rfl⟩
noncomputable def c94 : VCode := cof Tryd.f94
theorem fun94 : Fun Tryd.prog 94 c94 [.tmp 4] 13 := ⟨Tryd.f94, Tryd.func94, cof_ok (by kernel_rfl), by kernel_rfl, rfl, rfl⟩
noncomputable def c95 : VCode := cof Tryd.f95
theorem fun95 : Fun Tryd.prog 95 c95 [.tmp 4] 13 := ⟨Tryd.f95, Tryd.func95, cof_ok (by kernel_rfl), by kernel_rfl, rfl, rfl⟩
noncomputable def c96 : VCode := cof Tryd.f96
theorem fun96 : Fun Tryd.prog 96 c96 [] 20 := ⟨Tryd.f96, Tryd.func96, cof_ok (by kernel_rfl), by kernel_rfl, rfl, rfl⟩
noncomputable def c97 : VCode := cof Tryd.f97
theorem fun97 : Fun Tryd.prog 97 c97 [.tmp 4] 19 := ⟨Tryd.f97, Tryd.func97, cof_ok (by kernel_rfl), by kernel_rfl, rfl, rfl⟩
noncomputable def c98 : VCode := cof Tryd.f98
theorem fun98 : Fun Tryd.prog 98 c98 [.tmp 4, .tmp 5] 17 := ⟨Tryd.f98, Tryd.func98, cof_ok (by kernel_rfl), by kernel_rfl, rfl, rfl⟩
noncomputable def c99 : VCode := cof Tryd.f99
theorem fun99 : Fun Tryd.prog 99 c99 [.tmp 4, .tmp 5] 51 := ⟨Tryd.f99, Tryd.func99, cof_ok (by kernel_rfl), by kernel_rfl, rfl, rfl⟩
noncomputable def c100 : VCode := cof Tryd.f100
theorem fun100 : Fun Tryd.prog 100 c100 [.tmp 4] 17 := ⟨Tryd.f100, Tryd.func100, cof_ok (by kernel_rfl), by kernel_rfl, rfl, rfl⟩
noncomputable def c101 : VCode := cof Tryd.f101
theorem fun101 : Fun Tryd.prog 101 c101 [.tmp 4] 23 := ⟨Tryd.f101, Tryd.func101, cof_ok (by kernel_rfl), by kernel_rfl, rfl, rfl⟩
noncomputable def c102 : VCode := cof Tryd.f102
theorem fun102 : Fun Tryd.prog 102 c102 [.cell 2 true 256, .tmp 3] 21 := ⟨Tryd.f102, Tryd.func102, cof_ok (by kernel_rfl), by kernel_rfl, rfl, rfl⟩
noncomputable def c103 : VCode := cof Tryd.f103
theorem fun103 : Fun Tryd.prog 103 c103 [.tmp 4] 16 := ⟨Tryd.f103, Tryd.func103, cof_ok (by kernel_rfl), by kernel_rfl, rfl, rfl⟩
noncomputable def c104 : VCode := cof Tryd.f104
theorem fun104 : Fun Tryd.prog 104 c104 [.tmp 4] 22 := ⟨Tryd.f104, Tryd.func104, cof_ok (by kernel_rfl), by kernel_rfl, rfl, rfl⟩
noncomputable def c105 : VCode := cof Tryd.f105
theorem fun105 : Fun Tryd.prog 105 c105 [.tmp 4] 23 := ⟨Tryd.f105, Tryd.func105, cof_ok (by kernel_rfl), by kernel_rfl, rfl, rfl⟩
noncomputable def c106 : VCode := cof Tryd.f106
theorem fun106 : Fun Tryd.prog 106 c106 [.tmp 4] 34 := ⟨Tryd.f106, Tryd.func106, cof_ok (by kernel_rfl), by kernel_rfl, rfl, rfl⟩
noncomputable def c107 : VCode := cof Tryd.f107
theorem fun107 : Fun Tryd.prog 107 c107 [.tmp 4] 19 := ⟨Tryd.f107, Tryd.func107, cof_ok (by kernel_rfl), by kernel_rfl, rfl, rfl⟩
noncomputable def c109 : VCode := cof Tryd.f109
theorem fun109 : Fun Tryd.prog 109 c109 [.tmp 4] 10 := ⟨Tryd.f109, Tryd.func109, cof_ok (by kernel_rfl), by kernel_rfl, rfl, rfl⟩
noncomputable def c110 : VCode := cof Tryd.f110
theorem fun110 : Fun Tryd.prog 110 c110 [.tmp 2, .tmp 3] 19 := ⟨Tryd.f110, Tryd.func110, cof_ok (by kernel_rfl), by kernel_rfl, rfl, rfl⟩
noncomputable def c111 : VCode := cof Tryd.f111
theorem fun111 : Fun Tryd.prog 111 c111 [.tmp 4] 9 := ⟨Tryd.f111, Tryd.func111, cof_ok (by kernel_rfl), by kernel_rfl, rfl, rfl⟩
noncomputable def c112 : VCode := cof Tryd.f112
theorem fun112 : Fun Tryd.prog 112 c112 [.tmp 2, .tmp 3] 51 := ⟨Tryd.f112, Tryd.func112, cof_ok (by kernel_rfl), by kernel_rfl, rfl, rfl⟩
noncomputable def c113 : VCode := cof Tryd.f113
theorem fun113 : Fun Tryd.prog 113 c113 [.tmp 2, .tmp 3] 117 := ⟨Tryd.f113, Tryd.func113, cof_ok (by kernel_rfl), by kernel_rfl, rfl, rfl⟩
noncomputable def c114 : VCode := cof Tryd.f114
theorem fun114 : Fun Tryd.prog 114 c114 [.tmp 4] 187 := ⟨Tryd.f114, Tryd.func114, cof_ok (by kernel_rfl), by kernel_rfl, rfl, rfl⟩
noncomputable def c115 : VCode := cof Tryd.f115
theorem fun115 : Fun Tryd.prog 115 c115 [.tmp 2] 6 := ⟨Tryd.f115, Tryd.func115, cof_ok (by kernel_rfl), by kernel_rfl, rfl, rfl⟩
noncomputable def c116 : VCode := cof Tryd.f116
theorem fun116 : Fun Tryd.prog 116 c116 [.tmp 4] 8 := ⟨Tryd.f116, Tryd.func116, cof_ok (by kernel_rfl), by kernel_rfl, rfl, rfl⟩
noncomputable def c117 : VCode := cof Tryd.f117
theorem fun117 : Fun Tryd.prog 117 c117 [.tmp 2] 17 := ⟨Tryd.f117, Tryd.func117, cof_ok (by kernel_rfl), by kernel_rfl, rfl, rfl⟩
noncomputable def c118 : VCode := cof Tryd.f118
theorem fun118 : Fun Tryd.prog 118 c118 [.tmp 2] 6 := ⟨Tryd.f118, Tryd.func118, cof_ok (by kernel_rfl), by kernel_rfl, rfl, rfl⟩
noncomputable def c120 : VCode := cof Tryd.f120
theorem fun120 : Fun Tryd.prog 120 c120 [.tmp 4] 8 := ⟨Tryd.f120, Tryd.func120, cof_ok (by kernel_rfl), by kernel_rfl, rfl, rfl⟩
theorem funbw75 : Fun Tryd.prog 75 (bwCode false 1) [] 19 := ⟨Tryd.f75, Tryd.func75, by kernel_rfl, by kernel_rfl, rfl, rfl⟩
theorem funbw93 : Fun Tryd.prog 93 (bwCode true 2) [] 19 := ⟨Tryd.f93, Tryd.func93, by kernel_rfl, by kernel_rfl, rfl, rfl⟩
end Go.Proofs.Tryd

namespace Go.V
open Go
theorem wrap_small {x : Nat} (h : x < 9223372036854775808) : IntKind.wrap .i64 (x : Int) = x := by
  have e : ((x : Int) % (18446744073709551616 : Int)) = x := by omega
  have : ¬ ((x : Int) ≥ 9223372036854775808) := by omega
  show (if (true && decide ((x : Int) % (18446744073709551616 : Int) ≥ 9223372036854775808)) = true then (x : Int) % (18446744073709551616 : Int) - 18446744073709551616 else (x : Int) % (18446744073709551616 : Int)) = x
  simp only [e, this, decide_false, Bool.and_false, Bool.false_eq_true, if_false]
theorem and_lt63 {x y : Nat} (h : x < 9223372036854775808) : x &&& y < 9223372036854775808 := Nat.lt_of_le_of_lt Nat.and_le_left h
theorem or_lt63 {x y : Nat} (hx : x < 9223372036854775808) (hy : y < 9223372036854775808) : x ||| y < 9223372036854775808 := Nat.or_lt_two_pow (n := 63) hx hy
theorem xor_lt63 {x y : Nat} (hx : x < 9223372036854775808) (hy : y < 9223372036854775808) : x ^^^ y < 9223372036854775808 := Nat.xor_lt_two_pow (n := 63) hx hy
theorem ofInt_nat (x : Nat) : BitVec.ofInt 64 (x : Int) = BitVec.ofNat 64 x := by
  apply BitVec.eq_of_toNat_eq; simp
theorem toNat_ofInt {x : Nat} (h : x < 9223372036854775808) : (BitVec.ofInt 64 (x : Int)).toNat = x := by
  rw [ofInt_nat, BitVec.toNat_ofNat, Nat.mod_eq_of_lt (by omega)]
theorem vand_nat {x y : Nat} (hx : x < 9223372036854775808) (hy : y < 9223372036854775808) : vbits .and .i64 x y = ((x &&& y : Nat) : Int) := by
  have e : (BitVec.ofInt 64 (x : Int) &&& BitVec.ofInt 64 (y : Int)).toNat = x &&& y := by rw [BitVec.toNat_and, toNat_ofInt hx, toNat_ofInt hy]
  show IntKind.wrap .i64 ((BitVec.ofInt 64 (x : Int) &&& BitVec.ofInt 64 (y : Int)).toNat : Int) = _
  rw [e, wrap_small (and_lt63 hx)]
theorem vor_nat {x y : Nat} (hx : x < 9223372036854775808) (hy : y < 9223372036854775808) : vbits .or .i64 x y = ((x ||| y : Nat) : Int) := by
  have e : (BitVec.ofInt 64 (x : Int) ||| BitVec.ofInt 64 (y : Int)).toNat = x ||| y := by rw [BitVec.toNat_or, toNat_ofInt hx, toNat_ofInt hy]
  show IntKind.wrap .i64 ((BitVec.ofInt 64 (x : Int) ||| BitVec.ofInt 64 (y : Int)).toNat : Int) = _
  rw [e, wrap_small (or_lt63 hx hy)]
theorem vxor_nat {x y : Nat} (hx : x < 9223372036854775808) (hy : y < 9223372036854775808) : vbits .xor .i64 x y = ((x ^^^ y : Nat) : Int) := by
  have e : (BitVec.ofInt 64 (x : Int) ^^^ BitVec.ofInt 64 (y : Int)).toNat = x ^^^ y := by rw [BitVec.toNat_xor, toNat_ofInt hx, toNat_ofInt hy]
  show IntKind.wrap .i64 ((BitVec.ofInt 64 (x : Int) ^^^ BitVec.ofInt 64 (y : Int)).toNat : Int) = _
  rw [e, wrap_small (xor_lt63 hx hy)]
theorem shr_nat {x i : Nat} (hi : i ≤ 64) : shrI .i64 x i = ((x >>> i : Nat) : Int) := by
  have : Nat.min i 64 = i := Nat.min_eq_left hi
  simp only [shrI, Int.toNat_natCast, IntKind.bits, this]
  rw [Nat.shiftRight_eq_div_pow, Int.fdiv_eq_ediv_of_nonneg _ (Int.le_of_lt (Int.pow_pos (by omega)))]
  norm_cast
theorem shl_nat {x i : Nat} (hi : i ≤ 64) : shlI .i64 x i = ((x <<< i : Nat) : Int) := by
  have : Nat.min i 64 = i := Nat.min_eq_left hi
  simp only [shlI, Int.toNat_natCast, IntKind.bits, this, Nat.shiftLeft_eq]
  norm_cast
theorem shr_bit {x i : Nat} (hx : x < 9223372036854775808) (hi : i ≤ 64) : (vbits .and .i64 (shrI .i64 x i) 1 == 1) = x.testBit i := by
  have h1 : x >>> i < 9223372036854775808 := Nat.lt_of_le_of_lt (by rw [Nat.shiftRight_eq_div_pow]; exact Nat.div_le_self _ _) hx
  rw [shr_nat hi, show (1 : Int) = ((1 : Nat) : Int) from rfl, vand_nat h1 (by omega), Nat.testBit]
  rw [Bool.eq_iff_iff]
  simp only [beq_iff_eq, bne_iff_ne, ne_eq]
  rw [Nat.and_comm, Nat.one_and_eq_mod_two]
  omega
end Go.V

set_option linter.unusedVariables false
namespace Go.Proofs.Tryd
open Go Go.V Go.Proofs
def inI (n a b : Int) : Bool := decide (a ≤ n) && decide (n ≤ b)
def tieErr (hk : Int) (lw : List Int) : Int := if !inI hk 1 24 then 2 else if 96 < lw.length then 5 else if lw.length = 0 then 7 else if lw.any (fun x => !inI x 0 (hk - 1)) then 2 else 0
def eyeErr (hk : Int) (lw l : List Int) : Int := if tieErr hk lw ≠ 0 then tieErr hk lw else if l.length ≠ lw.length then 4 else if l.any (fun x => !inI x (-1) (lw.length - 1)) then 2 else 0
def isRight (lw l : List Int) (w : Int) : Bool := let e := l.getD w.toNat 0; e != -1 && lw.getD e.toNat 0 == lw.getD w.toNat 0
def redrawOk (lw l : List Int) : Prop := l ≠ [] ∧ l.length ≤ 110 ∧ l.length = lw.length ∧ ∀ x ∈ l, -1 ≤ x ∧ x < lw.length
def stays (lw l : List Int) (w : Nat) : Bool := isRight lw l w && (List.range l.length).all fun k => decide (k ≤ w) || (l.getD k 0 != l.getD w 0 || !isRight lw l k)
def redrawWn (lw l : List Int) (n : Nat) : List Int := ((List.range n).filter fun w => !stays lw l w).map fun (w : Nat) => (w : Int)
def redrawW (lw l : List Int) : List Int := redrawWn lw l l.length
def initA (lw l : List Int) : List Int := (List.range l.length).map fun w => if stays lw l w then l.getD w 0 else -1
def Aw (lw l : List Int) (n : Nat) : List Int := (List.range l.length).map fun k => if k < n ∧ stays lw l k = false then -1 else l.getD k 0
def cand (lw a : List Int) (w : Int) (e : Nat) : Bool := lw.getD e 0 == lw.getD w.toNat 0 && !(a.contains (e : Int))
def step (lw : List Int) (a : List Int) (w : Int) : List Int := match (List.range lw.length).find? (cand lw a w) with
  | some e => a.set w.toNat e
  | none => a
def redrawA (lw l : List Int) : List Int := (redrawW lw l).foldl (step lw) (initA lw l)
def idxF (l : List Int) (p : Int → Bool) : Int := match l.findIdx? p with | some i => (i : Int) | none => -1
section
variable {α : Type} (R : α → α → Bool)
def best (a : α) : List α → Nat
  | [] => 0
  | x :: r => if R a x then max (best x r + 1) (best a r) else best a r
def lonL : List α → List Int
  | [] => []
  | a :: r => ((best R a r + 1 : Nat) : Int) :: lonL r
def outG (a : α) : List α → List α
  | [] => []
  | x :: r => if best R a (x :: r) ≤ best R a r then x :: outG a r else outG x r
def tanG (a : α) : List α → List α
  | [] => []
  | x :: r => if R a x && decide (best R x r + 1 = best R a (x :: r)) then x :: tanG x r else tanG a r
end
def pkI {α : Type} (b : Nat) : List α → List α
  | [] => []
  | x :: r => if b % 2 = 1 then x :: pkI (b / 2) r else pkI (b / 2) r
def pkN {α : Type} (b : Nat) : List α → List α
  | [] => []
  | x :: r => if b % 2 = 1 then pkN (b / 2) r else x :: pkN (b / 2) r
def lexL : List Int → List Int → Bool
  | x :: a, y :: b => if x = y then lexL a b else decide (x < y)
  | _, _ => false
def lessL (a b : List Int) : Bool := if a.length = b.length then lexL a b else decide (a.length < b.length)
def moreL (a b : List Int) : Bool := decide (b.length < a.length) || (a.length == b.length && lessL a b)
def pairs {α : Type} (p : α → α → Bool) : List α → Nat
  | [] => 0
  | a :: r => (r.filter (p a)).length + pairs p r
def aloneErr (l : List Int) : Int := if 96 < l.length then 5 else if l.any (fun x => !inI x (-1) 95) then 2 else 0
def thr (l : List Int) : List (Int × Int) := ((List.range l.length).map fun (w : Nat) => ((w : Int), l.getD w 0)).filter fun p => p.2 != -1
def refThr (l : List Int) : List Int := ((List.range l.length).filter fun w => decide (0 ≤ l.getD w 0)).map fun (w : Nat) => (w : Int)
def crossB (l : List Int) (a b : Int) : Bool := (decide (l.getD a.toNat 0 ≥ 0) && decide (l.getD b.toNat 0 ≥ 0)) && decide (l.getD (gmin a b).toNat 0 ≥ l.getD (gmax a b).toNat 0)
def crossingsI (l : List Int) : Int := (pairs (fun (a b : Nat) => crossB l a b) (List.range l.length) : Nat)
def eachB (l s : List Int) (c : Bool) : Bool := (List.range s.length).all fun i => (List.range i).all fun k => crossB l (s.getD i 0) (s.getD k 0) == c
def setsStep (l : List Int) (s : List Int × List Int) (b : Nat) : List Int × List Int :=
  (if eachB l (pkI b (refThr l)) false && lessL (pkN b (refThr l)) s.1 then pkN b (refThr l) else s.1,
   if eachB l (pkI b (refThr l)) true && moreL (pkI b (refThr l)) s.2 then pkI b (refThr l) else s.2)
def setsF (l : List Int) (n : Nat) : List Int × List Int := (List.range n).foldl (setsStep l) (refThr l, [])
def setsOut (l : List Int) : List Int := (setsF l (2 ^ (refThr l).length)).1
def setsTangle (l : List Int) : List Int := (setsF l (2 ^ (refThr l).length)).2
def apartR (x y : Int × Int) : Bool := decide (x.2 < y.2)
def crossR (x y : Int × Int) : Bool := decide (x.2 ≥ y.2)
def outW (l : List Int) : List Int := (outG apartR (-1, -1) (thr l)).map (·.1)
def tangleW (l : List Int) : List Int := (tanG crossR (-1, 96) (thr l)).map (·.1)
def mostL (l : List Int) : Int := l.foldl gmax 0
section
variable {α : Type} {R : α → α → Bool}
theorem best_le : ∀ {l s : List α} {a : α}, s.Sublist l → (a :: s).Pairwise (fun x y => R x y = true) → s.length ≤ best R a l
  | [], s, a, h, _ => by rw [List.sublist_nil.1 h]; exact Nat.zero_le _
  | x :: r, s, a, h, hp => by
    rcases List.sublist_cons_iff.1 h with h' | ⟨s', rfl, h'⟩
    · have := best_le h' hp
      simp only [best]; split
      · exact Nat.le_trans this (Nat.le_max_right _ _)
      · exact this
    · rw [List.pairwise_cons] at hp
      have hax : R a x = true := hp.1 x List.mem_cons_self
      have := best_le (s := s') (a := x) h' hp.2
      simp only [best, hax, if_true, List.length_cons]
      omega
theorem best_tail {x : α} {r : List α} {a : α} : best R a r ≤ best R a (x :: r) := by
  simp only [best]; split
  · exact Nat.le_max_right _ _
  · exact Nat.le_refl _
theorem best_step {x : α} {r : List α} {a : α} (h : best R a r < best R a (x :: r)) : R a x = true ∧ best R a (x :: r) = best R x r + 1 := by
  simp only [best] at h ⊢
  split at h
  · rename_i hx
    refine ⟨hx, ?_⟩
    rw [if_pos hx]; omega
  · omega
theorem best_all {l : List α} : ∀ {a : α}, (∀ x ∈ l, R a x = true) → ((best R a l : Nat) : Int) = (lonL R l).foldl gmax 0 := by
  have key : ∀ (l : List α) (m : Nat) (a : α), (∀ x ∈ l, R a x = true) → (lonL R l).foldl gmax (m : Int) = ((max m (best R a l) : Nat) : Int) := by
    intro l
    induction l with
    | nil => intro m a _; simp [lonL, best]
    | cons x r ih =>
      intro m a h
      have hx := h x List.mem_cons_self
      have e : gmax (m : Int) ((best R x r + 1 : Nat) : Int) = ((max m (best R x r + 1) : Nat) : Int) := by
        unfold gmax; split <;> omega
      simp only [lonL, List.foldl_cons, best, hx, if_true, e]
      rw [ih _ a fun y hy => h y (List.mem_cons_of_mem _ hy)]
      omega
  intro a h
  have := key l 0 a h
  simpa using this.symm
theorem lonL_length (l : List α) : (lonL R l).length = l.length := by
  induction l with
  | nil => rfl
  | cons x r ih => simp [lonL, ih]
theorem lonL_get : ∀ {l : List α} {k : Nat} (h : k < l.length), (lonL R l).getD k 0 = ((best R l[k] (l.drop (k + 1)) + 1 : Nat) : Int)
  | x :: r, 0, _ => by simp [lonL]
  | x :: r, k + 1, h => by
    have := lonL_get (l := r) (k := k) (by simpa using h)
    simpa [lonL] using this
theorem best_len {l : List α} {a : α} : best R a l ≤ l.length := by
  induction l generalizing a with
  | nil => exact Nat.le_refl _
  | cons x r ih =>
    simp only [best, List.length_cons]
    have h1 := ih (a := x); have h2 := ih (a := a)
    split <;> omega
theorem outG_len {l : List α} : ∀ {a : α}, (outG R a l).length + best R a l = l.length := by
  induction l with
  | nil => intro a; rfl
  | cons x r ih =>
    intro a
    simp only [outG]
    split
    · rename_i h
      have h1 := ih (a := a)
      have h2 := best_tail (R := R) (x := x) (r := r) (a := a)
      simp only [List.length_cons]; omega
    · rename_i h
      have h1 := ih (a := x)
      have := best_step (Nat.lt_of_not_le h)
      simp only [List.length_cons]; omega
theorem tanG_len {l : List α} : ∀ {a : α}, (tanG R a l).length = best R a l := by
  induction l with
  | nil => intro a; rfl
  | cons x r ih =>
    intro a
    simp only [tanG]
    split
    · rename_i h
      simp only [Bool.and_eq_true, decide_eq_true_eq] at h
      simp only [List.length_cons, ih (a := x)]; exact h.2
    · rename_i h
      rw [ih]
      simp only [Bool.and_eq_true, decide_eq_true_eq, not_and] at h
      apply Nat.le_antisymm best_tail
      apply Nat.le_of_not_lt
      intro hlt
      obtain ⟨h1, h2⟩ := best_step hlt
      exact h h1 h2.symm
theorem pk_len {l : List α} : ∀ {b : Nat}, (pkI b l).length + (pkN b l).length = l.length := by
  induction l with
  | nil => intro b; rfl
  | cons x r ih => intro b; simp only [pkI, pkN]; have := ih (b := b / 2); split <;> simp only [List.length_cons] <;> omega
theorem pkI_sub {l : List α} : ∀ {b : Nat}, (pkI b l).Sublist l := by
  induction l with
  | nil => intro b; exact .slnil
  | cons x r ih =>
    intro b
    by_cases hb : b % 2 = 1
    · simp only [pkI, if_pos hb]; exact ih.cons_cons x
    · simp only [pkI, if_neg hb]; exact ih.cons x
theorem pkN_sub {l : List α} : ∀ {b : Nat}, (pkN b l).Sublist l := by
  induction l with
  | nil => intro b; exact .slnil
  | cons x r ih =>
    intro b
    by_cases hb : b % 2 = 1
    · simp only [pkN, if_pos hb]; exact ih.cons x
    · simp only [pkN, if_neg hb]; exact ih.cons_cons x
theorem pkI_map {β : Type} (f : α → β) (l : List α) : ∀ b, pkI b (l.map f) = (pkI b l).map f := by
  induction l with
  | nil => intro b; rfl
  | cons x r ih => intro b; simp only [List.map_cons, pkI, ih]; split <;> rfl
theorem pkN_map {β : Type} (f : α → β) (l : List α) : ∀ b, pkN b (l.map f) = (pkN b l).map f := by
  induction l with
  | nil => intro b; rfl
  | cons x r ih => intro b; simp only [List.map_cons, pkN, ih]; split <;> rfl
theorem pkI_zero (l : List α) : pkI 0 l = [] := by
  induction l with
  | nil => rfl
  | cons x r ih => simp [pkI, ih]
theorem pkN_zero (l : List α) : pkN 0 l = l := by
  induction l with
  | nil => rfl
  | cons x r ih => simp [pkN, ih]
theorem pk_snoc {l : List α} {x : α} : ∀ {b : Nat}, pkI b (l ++ [x]) = pkI b l ++ (if b.testBit l.length then [x] else []) ∧ pkN b (l ++ [x]) = pkN b l ++ (if b.testBit l.length then [] else [x]) := by
  induction l with
  | nil =>
    intro b
    have : b.testBit 0 = decide (b % 2 = 1) := Nat.testBit_zero b
    simp only [List.nil_append, pkI, pkN, List.length_nil, this, decide_eq_true_eq]
    by_cases h : b % 2 = 1 <;> simp []
  | cons y r ih =>
    intro b
    obtain ⟨h1, h2⟩ := ih (b := b / 2)
    have : b.testBit (y :: r).length = (b / 2).testBit r.length := by simp [Nat.testBit_succ]
    simp only [List.cons_append, pkI, pkN, h1, h2, this]
    split <;> simp
theorem outG_pk (ht : ∀ x y z, R x y = true → R y z = true → R x z = true) : ∀ {l : List α} {a : α}, ∃ b, b < 2 ^ l.length ∧ pkN b l = outG R a l ∧ (a :: pkI b l).Pairwise (fun x y => R x y = true)
  | [], a => ⟨0, by simp, rfl, by simp [pkI]⟩
  | x :: r, a => by
    simp only [outG]
    split
    · obtain ⟨b, h0, h1, h2⟩ := outG_pk ht (l := r) (a := a)
      have e1 : ¬ (2 * b % 2 = 1) := by omega
      have e2 : 2 * b / 2 = b := by omega
      refine ⟨2 * b, by rw [List.length_cons, Nat.pow_succ]; omega, ?_, ?_⟩
      · simp only [pkN, e1, if_false, e2, h1]
      · simp only [pkI, e1, if_false, e2]; exact h2
    · rename_i h
      obtain ⟨k1, _⟩ := best_step (Nat.lt_of_not_le h)
      obtain ⟨b, h0, h1, h2⟩ := outG_pk ht (l := r) (a := x)
      have e1 : (2 * b + 1) % 2 = 1 := by omega
      have e2 : (2 * b + 1) / 2 = b := by omega
      refine ⟨2 * b + 1, by rw [List.length_cons, Nat.pow_succ]; omega, ?_, ?_⟩
      · simp only [pkN, e1, if_true, e2, h1]
      · simp only [pkI, e1, if_true, e2]
        refine List.pairwise_cons.2 ⟨fun y hy => ?_, h2⟩
        rcases List.mem_cons.1 hy with rfl | hy
        · exact k1
        · exact ht _ _ _ k1 ((List.pairwise_cons.1 h2).1 y hy)
theorem tanG_pk (ht : ∀ x y z, R x y = true → R y z = true → R x z = true) : ∀ {l : List α} {a : α}, ∃ b, b < 2 ^ l.length ∧ pkI b l = tanG R a l ∧ (a :: pkI b l).Pairwise (fun x y => R x y = true)
  | [], a => ⟨0, by simp, rfl, by simp [pkI]⟩
  | x :: r, a => by
    simp only [tanG]
    split
    · rename_i h
      simp only [Bool.and_eq_true, decide_eq_true_eq] at h
      obtain ⟨b, h0, h1, h2⟩ := tanG_pk ht (l := r) (a := x)
      have e1 : (2 * b + 1) % 2 = 1 := by omega
      have e2 : (2 * b + 1) / 2 = b := by omega
      refine ⟨2 * b + 1, by rw [List.length_cons, Nat.pow_succ]; omega, ?_, ?_⟩
      · simp only [pkI, e1, if_true, e2, h1]
      · simp only [pkI, e1, if_true, e2]
        refine List.pairwise_cons.2 ⟨fun y hy => ?_, h2⟩
        rcases List.mem_cons.1 hy with rfl | hy
        · exact h.1
        · exact ht _ _ _ h.1 ((List.pairwise_cons.1 h2).1 y hy)
    · obtain ⟨b, h0, h1, h2⟩ := tanG_pk ht (l := r) (a := a)
      have e1 : ¬ (2 * b % 2 = 1) := by omega
      have e2 : 2 * b / 2 = b := by omega
      refine ⟨2 * b, by rw [List.length_cons, Nat.pow_succ]; omega, ?_, ?_⟩
      · simp only [pkI, e1, if_false, e2, h1]
      · simp only [pkI, e1, if_false, e2]; exact h2
end
section
variable {R : Int × Int → Int × Int → Bool}
theorem lex_late {x y : Int} {a b : List Int} (h : y < x) : lexL (x :: a) (y :: b) = false := by
  have h1 : ¬ x = y := by omega
  have h2 : ¬ x < y := by omega
  simp [lexL, h1, h2]
theorem out_min : ∀ {l : List (Int × Int)}, l.Pairwise (fun x y => x.1 < y.1) → ∀ {a : Int × Int} {b : Nat}, (a :: pkI b l).Pairwise (fun x y => R x y = true) → ((pkN b l).map (·.1)).length = ((outG R a l).map (·.1)).length → lexL ((pkN b l).map (·.1)) ((outG R a l).map (·.1)) = false
  | [], _, a, b, _, _ => rfl
  | x :: r, hl, a, b, hp, hlen => by
    rw [List.pairwise_cons] at hl
    have hlo := outG_len (R := R) (l := x :: r) (a := a)
    have hlp := pk_len (l := x :: r) (b := b)
    simp only [List.length_map] at hlen
    by_cases hd : best R a (x :: r) ≤ best R a r
    · simp only [outG, if_pos hd] at hlen hlo ⊢
      by_cases hb : b % 2 = 1
      · simp only [pkN, if_pos hb] at hlen ⊢
        cases e : pkN (b / 2) r with
        | nil => rfl
        | cons y c =>
          have hy : y ∈ r := pkN_sub.subset (by rw [e]; exact List.mem_cons_self)
          exact lex_late (hl.1 y hy)
      · simp only [pkN, pkI, if_neg hb, List.map_cons, lexL, if_true] at hlen hp ⊢
        exact out_min hl.2 hp (by simpa using hlen)
    · obtain ⟨k1, k2⟩ := best_step (Nat.lt_of_not_le hd)
      simp only [outG, if_neg hd] at hlen hlo ⊢
      by_cases hb : b % 2 = 1
      · simp only [pkN, pkI, if_pos hb] at hlen hp ⊢
        exact out_min hl.2 (List.pairwise_cons.1 hp).2 (by simpa using hlen)
      · exfalso
        simp only [pkN, pkI, if_neg hb, List.length_cons] at hlen hp hlp
        have := best_le (pkI_sub (l := r) (b := b / 2)) hp
        simp only [List.length_cons] at hlo
        omega
theorem tan_min : ∀ {l : List (Int × Int)}, l.Pairwise (fun x y => x.1 < y.1) → ∀ {a : Int × Int} {b : Nat}, (a :: pkI b l).Pairwise (fun x y => R x y = true) → ((pkI b l).map (·.1)).length = ((tanG R a l).map (·.1)).length → lexL ((pkI b l).map (·.1)) ((tanG R a l).map (·.1)) = false
  | [], _, a, b, _, _ => rfl
  | x :: r, hl, a, b, hp, hlen => by
    rw [List.pairwise_cons] at hl
    simp only [List.length_map] at hlen
    have hlt := tanG_len (R := R) (l := x :: r) (a := a)
    by_cases hd : (R a x && decide (best R x r + 1 = best R a (x :: r))) = true
    · simp only [tanG, if_pos hd] at hlen ⊢
      by_cases hb : b % 2 = 1
      · simp only [pkI, if_pos hb, List.map_cons, lexL, if_true] at hlen hp ⊢
        exact tan_min hl.2 (List.pairwise_cons.1 hp).2 (by simpa using hlen)
      · simp only [pkI, if_neg hb] at hlen ⊢
        cases e : pkI (b / 2) r with
        | nil => rfl
        | cons y c =>
          have hy : y ∈ r := pkI_sub.subset (by rw [e]; exact List.mem_cons_self)
          exact lex_late (hl.1 y hy)
    · have htl := tanG_len (R := R) (l := r) (a := a)
      simp only [tanG, if_neg hd] at hlen hlt ⊢
      by_cases hb : b % 2 = 1
      · exfalso
        simp only [pkI, if_pos hb, List.length_cons] at hlen hp
        rw [List.pairwise_cons] at hp
        have hx := hp.1 x List.mem_cons_self
        have h1 := best_le (pkI_sub (l := r) (b := b / 2)) hp.2
        simp only [hx, Bool.true_and, decide_eq_true_eq] at hd
        have : best R x r + 1 ≤ best R a (x :: r) := by simp only [best, hx, if_true]; exact Nat.le_max_left _ _
        omega
      · simp only [pkI, if_neg hb] at hlen hp ⊢
        exact tan_min hl.2 hp (by simpa using hlen)
end
theorem lex_irrefl : ∀ a : List Int, lexL a a = false
  | [] => rfl
  | x :: a => by simp only [lexL, if_true]; exact lex_irrefl a
theorem lex_total : ∀ {a b : List Int}, a.length = b.length → lexL a b = false → lexL b a = false → a = b
  | [], [], _, _, _ => rfl
  | x :: a, y :: b, hl, h1, h2 => by
    by_cases h : x = y
    · subst h
      simp only [lexL, if_true] at h1 h2
      rw [lex_total (by simpa using hl) h1 h2]
    · simp only [lexL, if_neg h, if_neg (Ne.symm h), decide_eq_false_iff_not] at h1 h2; omega
theorem lex_trans : ∀ {a b c : List Int}, a.length = b.length → b.length = c.length → lexL a b = true → lexL b c = true → lexL a c = true
  | x :: a, y :: b, z :: c, h1, h2, h3, h4 => by
    by_cases e1 : x = y
    · subst e1
      by_cases e2 : x = z
      · subst e2
        simp only [lexL, if_true] at h3 h4 ⊢
        exact lex_trans (by simpa using h1) (by simpa using h2) h3 h4
      · simp only [lexL, if_neg e2] at h4 ⊢; exact h4
    · simp only [lexL, if_neg e1, decide_eq_true_eq] at h3
      by_cases e2 : y = z
      · subst e2
        simp only [lexL, if_neg e1, decide_eq_true_eq]; exact h3
      · simp only [lexL, if_neg e2, decide_eq_true_eq] at h4
        have e3 : ¬ x = z := by omega
        simp only [lexL, if_neg e3, decide_eq_true_eq]; omega
  | [], _, _, _, _, h3, _ => by simp [lexL] at h3
  | _ :: _, [], _, h1, _, _, _ => by simp at h1
  | _ :: _, _ :: _, [], _, h2, _, _ => by simp at h2
structure Ord (lt : List Int → List Int → Bool) : Prop where
  irrefl : ∀ a, lt a a = false
  trans : ∀ {a b c}, lt a b = true → lt b c = true → lt a c = true
  total : ∀ {a b}, lt a b = false → lt b a = false → a = b
theorem less_ord : Ord lessL where
  irrefl a := by simp [lessL, lex_irrefl]
  trans := fun {a b c} h1 h2 => by
    unfold lessL at h1 h2 ⊢
    split at h1
    · rename_i e1
      split at h2
      · rename_i e2; rw [if_pos (e1.trans e2)]; exact lex_trans e1 e2 h1 h2
      · rename_i e2
        have : ¬ a.length = c.length := by omega
        rw [if_neg this]; simp only [decide_eq_true_eq] at h2 ⊢; omega
    · rename_i e1
      simp only [decide_eq_true_eq] at h1
      split at h2
      · rename_i e2
        have : ¬ a.length = c.length := by omega
        rw [if_neg this]; simp only [decide_eq_true_eq]; omega
      · simp only [decide_eq_true_eq] at h2
        have : ¬ a.length = c.length := by omega
        rw [if_neg this]; simp only [decide_eq_true_eq]; omega
  total := fun {a b} h1 h2 => by
    unfold lessL at h1 h2
    by_cases e : a.length = b.length
    · rw [if_pos e] at h1; rw [if_pos e.symm] at h2; exact lex_total e h1 h2
    · rw [if_neg e] at h1; rw [if_neg (Ne.symm e)] at h2; simp only [decide_eq_false_iff_not] at h1 h2; omega
theorem more_iff (a b : List Int) : moreL a b = true ↔ b.length < a.length ∨ (a.length = b.length ∧ lexL a b = true) := by
  simp only [moreL, Bool.or_eq_true, decide_eq_true_eq, Bool.and_eq_true, beq_iff_eq, lessL]
  constructor
  · rintro (h | ⟨h1, h2⟩)
    · exact .inl h
    · rw [if_pos h1] at h2; exact .inr ⟨h1, h2⟩
  · rintro (h | ⟨h1, h2⟩)
    · exact .inl h
    · exact .inr ⟨h1, by rw [if_pos h1]; exact h2⟩
theorem more_ord : Ord moreL where
  irrefl a := by rw [← Bool.not_eq_true, more_iff]; simp [lex_irrefl]
  trans := fun {a b c} h1 h2 => by
    rw [more_iff] at h1 h2 ⊢
    rcases h1 with h1 | ⟨h1, h3⟩ <;> rcases h2 with h2 | ⟨h2, h4⟩
    · exact .inl (by omega)
    · exact .inl (by omega)
    · exact .inl (by omega)
    · exact .inr ⟨h1.trans h2, lex_trans h1 h2 h3 h4⟩
  total := fun {a b} h1 h2 => by
    rw [← Bool.not_eq_true, more_iff] at h1 h2
    simp only [not_or, not_and, Bool.not_eq_true, Nat.not_lt] at h1 h2
    have e : a.length = b.length := by omega
    exact lex_total e (h1.2 e) (h2.2 e.symm)
theorem fold_least {lt : List Int → List Int → Bool} (ho : Ord lt) {v : Nat → Bool} {f : Nat → List Int} {i0 : List Int} (n : Nat) :
    let r := (List.range n).foldl (fun c b => if v b && lt (f b) c then f b else c) i0
    (r = i0 ∨ ∃ b, b < n ∧ v b = true ∧ r = f b) ∧ lt i0 r = false ∧ ∀ b, b < n → v b = true → lt (f b) r = false := by
  induction n with
  | zero => exact ⟨.inl rfl, ho.irrefl _, fun b h => by omega⟩
  | succ n ih =>
    simp only [List.range_succ, List.foldl_append, List.foldl_cons, List.foldl_nil]
    generalize (List.range n).foldl (fun c b => if v b && lt (f b) c then f b else c) i0 = r at ih ⊢
    obtain ⟨h1, h2, h3⟩ := ih
    by_cases hc : (v n && lt (f n) r) = true
    · rw [if_pos hc]
      simp only [Bool.and_eq_true] at hc
      have less : ∀ x, lt x r = false → lt x (f n) = false := fun x hx => by
        cases e : lt x (f n) with
        | false => rfl
        | true => rw [ho.trans e hc.2] at hx; exact hx
      refine ⟨.inr ⟨n, by omega, hc.1, rfl⟩, less _ h2, fun b hb hv => ?_⟩
      by_cases e : b = n
      · subst e; exact ho.irrefl _
      · exact less _ (h3 b (by omega) hv)
    · rw [if_neg hc]
      refine ⟨?_, h2, fun b hb hv => ?_⟩
      · rcases h1 with h1 | ⟨b, k1, k2, k3⟩
        · exact .inl h1
        · exact .inr ⟨b, by omega, k2, k3⟩
      · by_cases e : b = n
        · subst e
          simp only [hv, Bool.true_and, Bool.not_eq_true] at hc; exact hc
        · exact h3 b (by omega) hv
theorem fold_is {lt : List Int → List Int → Bool} (ho : Ord lt) {v : Nat → Bool} {f : Nat → List Int} {i0 x : List Int} {n b0 : Nat} (h0 : i0 = f 0) (hv0 : v 0 = true) (hn : 0 < n) (hb : b0 < n) (hbv : v b0 = true) (hx : x = f b0)
    (hmin : ∀ b, b < n → v b = true → lt (f b) x = false) : (List.range n).foldl (fun c b => if v b && lt (f b) c then f b else c) i0 = x := by
  obtain ⟨h1, h2, h3⟩ := fold_least ho (v := v) (f := f) (i0 := i0) n
  generalize (List.range n).foldl (fun c b => if v b && lt (f b) c then f b else c) i0 = r at h1 h2 h3
  apply ho.total
  · rcases h1 with h1 | ⟨b, k1, k2, k3⟩
    · rw [h1, h0]; exact hmin 0 hn hv0
    · rw [k3]; exact hmin b k1 k2
  · rw [hx]; exact h3 b0 hb hbv
theorem aloneErr_zero {l : List Int} (h : aloneErr l = 0) : l.length ≤ 96 ∧ ∀ x ∈ l, -1 ≤ x ∧ x ≤ 95 := by
  unfold aloneErr at h
  split at h
  · cases h
  · split at h
    · cases h
    · rename_i h1 h2
      refine ⟨by omega, fun x hx => ?_⟩
      have := List.any_eq_false.1 (Bool.eq_false_iff.2 h2) x hx
      simpa [inI] using this
theorem thr_mem {l : List Int} {p : Int × Int} : p ∈ thr l ↔ ∃ w : Nat, w < l.length ∧ p = ((w : Int), l.getD w 0) ∧ p.2 ≠ -1 := by
  simp only [thr, List.mem_filter, List.mem_map, List.mem_range, bne_iff_ne, ne_eq]
  constructor
  · rintro ⟨⟨w, h1, rfl⟩, h2⟩; exact ⟨w, h1, rfl, h2⟩
  · rintro ⟨w, h1, rfl, h2⟩; exact ⟨⟨w, h1, rfl⟩, h2⟩
theorem thr_sorted (l : List Int) : (thr l).Pairwise (fun x y => x.1 < y.1) := by
  unfold thr
  refine List.Pairwise.filter _ ?_
  rw [List.pairwise_map]
  exact List.pairwise_lt_range.imp fun h => by simpa using h
theorem thr_len (l : List Int) : (thr l).length ≤ l.length := Nat.le_trans (List.length_filter_le _ _) (by simp)
theorem refThr_eq {l : List Int} (h : ∀ x ∈ l, -1 ≤ x) : refThr l = (thr l).map (·.1) := by
  simp only [refThr, thr, List.filter_map, List.map_map]
  have : (List.range l.length).filter (fun w => decide (0 ≤ l.getD w 0)) = (List.range l.length).filter ((fun p : Int × Int => p.2 != -1) ∘ fun (w : Nat) => ((w : Int), l.getD w 0)) := by
    refine List.filter_congr fun w hw => ?_
    have hw := List.mem_range.1 hw
    have := h _ (List.getElem_mem hw)
    simp only [Function.comp, getD_nat hw]
    by_cases hx : l[w] = -1
    · simp [hx]
    · have h1 : 0 ≤ l[w] := by omega
      simp [hx, h1]
  rw [this]; rfl
theorem refThr_mem {l : List Int} {x : Int} (h : x ∈ refThr l) : 0 ≤ x ∧ x < l.length ∧ 0 ≤ l.getD x.toNat 0 := by
  simp only [refThr, List.mem_map, List.mem_filter, List.mem_range, decide_eq_true_eq] at h
  obtain ⟨w, ⟨h1, h2⟩, rfl⟩ := h
  exact ⟨by omega, by omega, by simpa using h2⟩
theorem refThr_len (l : List Int) : (refThr l).length ≤ l.length := by
  simp only [refThr, List.length_map]; exact Nat.le_trans (List.length_filter_le _ _) (by simp)
theorem thr_eyes {l : List Int} (h : ∀ x ∈ l, -1 ≤ x ∧ x ≤ 95) {p : Int × Int} (hp : p ∈ thr l) : 0 ≤ p.1 ∧ p.1 < l.length ∧ l.getD p.1.toNat 0 = p.2 ∧ 0 ≤ p.2 ∧ p.2 ≤ 95 := by
  obtain ⟨w, h1, rfl, h2⟩ := thr_mem.1 hp
  have := h _ (List.getElem_mem h1)
  dsimp only at h2 ⊢
  rw [getD_nat h1] at h2 ⊢
  exact ⟨by omega, by omega, by rw [Int.toNat_natCast, getD_nat h1], by omega, by omega⟩
theorem cross_eq {l : List Int} (h : ∀ x ∈ l, -1 ≤ x ∧ x ≤ 95) {x y : Int × Int} (hx : x ∈ thr l) (hy : y ∈ thr l) (hlt : x.1 < y.1) : crossB l y.1 x.1 = decide (x.2 ≥ y.2) := by
  obtain ⟨a1, a2, a3, a4, a5⟩ := thr_eyes h hx
  obtain ⟨b1, b2, b3, b4, b5⟩ := thr_eyes h hy
  have e1 : gmin y.1 x.1 = x.1 := by unfold gmin; rw [if_pos hlt]
  have e2 : gmax y.1 x.1 = y.1 := by unfold gmax; rw [if_neg (by omega)]
  have c1 : y.2 ≥ 0 := b4
  have c2 : x.2 ≥ 0 := a4
  simp only [crossB, e1, e2, a3, b3, c1, c2, decide_true, Bool.true_and, Bool.and_self]
theorem each_eq {l : List Int} (h : ∀ x ∈ l, -1 ≤ x ∧ x ≤ 95) {s : List (Int × Int)} (hs : s.Sublist (thr l)) (c : Bool) : eachB l (s.map (·.1)) c = true ↔ s.Pairwise (fun x y => decide (x.2 ≥ y.2) = c) := by
  have hsort := (thr_sorted l).sublist hs
  rw [List.pairwise_iff_getElem] at hsort ⊢
  simp only [eachB, List.all_eq_true, List.mem_range, List.length_map, beq_iff_eq]
  have get : ∀ i (hi : i < s.length), (s.map (·.1)).getD i 0 = s[i].1 := fun i hi => by rw [getD_nat (by simpa using hi)]; simp
  constructor
  · intro hh i j hi hj hij
    have := hh j hj i hij
    rw [get i hi, get j hj, cross_eq h (hs.subset (List.getElem_mem hi)) (hs.subset (List.getElem_mem hj)) (hsort i j hi hj hij)] at this
    exact this
  · intro hh i hi k hk
    have hk' : k < s.length := by omega
    rw [get i hi, get k hk', cross_eq h (hs.subset (List.getElem_mem hk')) (hs.subset (List.getElem_mem hi)) (hsort k i hk' hi hk)]
    exact hh k i hk' hi hk
theorem setsF_eq (l : List Int) (n : Nat) : setsF l n = ((List.range n).foldl (fun c b => if eachB l (pkI b (refThr l)) false && lessL (pkN b (refThr l)) c then pkN b (refThr l) else c) (refThr l),
    (List.range n).foldl (fun c b => if eachB l (pkI b (refThr l)) true && moreL (pkI b (refThr l)) c then pkI b (refThr l) else c) []) := by
  induction n with
  | zero => rfl
  | succ n ih =>
    unfold setsF at ih ⊢
    simp only [List.range_succ, List.foldl_append, List.foldl_cons, List.foldl_nil, ih]
    rfl
theorem apart_pair {s : List (Int × Int)} : s.Pairwise (fun x y => decide (x.2 ≥ y.2) = false) ↔ s.Pairwise (fun x y => apartR x y = true) := by
  refine ⟨fun h => h.imp fun h => ?_, fun h => h.imp fun h => ?_⟩
  · simp [apartR] at h ⊢; exact h
  · simp [apartR] at h ⊢; exact h
theorem cons_pair {R : Int × Int → Int × Int → Bool} {a : Int × Int} {s t : List (Int × Int)} (hs : s.Sublist t) (ha : ∀ x ∈ t, R a x = true) : (a :: s).Pairwise (fun x y => R x y = true) ↔ s.Pairwise (fun x y => R x y = true) := by
  rw [List.pairwise_cons]
  exact ⟨fun h => h.2, fun h => ⟨fun x hx => ha x (hs.subset hx), h⟩⟩
theorem first_apart {l : List Int} (h : ∀ x ∈ l, -1 ≤ x ∧ x ≤ 95) : ∀ x ∈ thr l, apartR (-1, -1) x = true := fun x hx => by
  have := thr_eyes h hx
  simp only [apartR, decide_eq_true_eq]; omega
theorem first_cross {l : List Int} (h : ∀ x ∈ l, -1 ≤ x ∧ x ≤ 95) : ∀ x ∈ thr l, crossR (-1, 96) x = true := fun x hx => by
  have := thr_eyes h hx
  simp only [crossR, decide_eq_true_eq]; omega
theorem apart_trans (x y z : Int × Int) (h1 : apartR x y = true) (h2 : apartR y z = true) : apartR x z = true := by
  simp only [apartR, decide_eq_true_eq] at *; omega
theorem cross_trans (x y z : Int × Int) (h1 : crossR x y = true) (h2 : crossR y z = true) : crossR x z = true := by
  simp only [crossR, decide_eq_true_eq] at *; omega
theorem setsOut_eq {l : List Int} (h : ∀ x ∈ l, -1 ≤ x ∧ x ≤ 95) : setsOut l = outW l := by
  have hr := refThr_eq (l := l) fun x hx => (h x hx).1
  have hv : ∀ b, eachB l (pkI b (refThr l)) false = true ↔ ((-1, -1) :: pkI b (thr l)).Pairwise (fun x y => apartR x y = true) := fun b => by
    rw [hr, pkI_map, each_eq h pkI_sub, apart_pair, cons_pair pkI_sub (first_apart h)]
  unfold setsOut
  rw [setsF_eq]
  obtain ⟨b0, h0, h1, h2⟩ := outG_pk (R := apartR) apart_trans (l := thr l) (a := (-1, -1))
  refine fold_is less_ord (v := fun b => eachB l (pkI b (refThr l)) false) (f := fun b => pkN b (refThr l)) (b0 := b0) (pkN_zero _).symm ((hv 0).2 ?_) (Nat.pos_of_ne_zero (by simp)) (by rw [hr, List.length_map]; exact h0) ((hv b0).2 h2) (by rw [hr, pkN_map, h1]; rfl) fun b hb hbv => ?_
  · rw [pkI_zero]; exact List.pairwise_singleton _ _
  · have hp := (hv b).1 hbv
    have h3 := outG_len (R := apartR) (l := thr l) (a := (-1, -1))
    have h4 := pk_len (l := thr l) (b := b)
    have h5 := best_le pkI_sub hp
    rw [hr, pkN_map]
    unfold lessL
    split
    · rename_i e; exact out_min (thr_sorted l) hp e
    · simp only [outW, List.length_map, decide_eq_false_iff_not]; omega
theorem setsTangle_eq {l : List Int} (h : ∀ x ∈ l, -1 ≤ x ∧ x ≤ 95) : setsTangle l = tangleW l := by
  have hr := refThr_eq (l := l) fun x hx => (h x hx).1
  have hv : ∀ b, eachB l (pkI b (refThr l)) true = true ↔ ((-1, 96) :: pkI b (thr l)).Pairwise (fun x y => crossR x y = true) := fun b => by
    rw [hr, pkI_map, each_eq h pkI_sub, cons_pair pkI_sub (first_cross h)]; rfl
  unfold setsTangle
  rw [setsF_eq]
  obtain ⟨b0, h0, h1, h2⟩ := tanG_pk (R := crossR) cross_trans (l := thr l) (a := (-1, 96))
  refine fold_is more_ord (v := fun b => eachB l (pkI b (refThr l)) true) (f := fun b => pkI b (refThr l)) (b0 := b0) (pkI_zero _).symm ((hv 0).2 ?_) (Nat.pos_of_ne_zero (by simp)) (by rw [hr, List.length_map]; exact h0) ((hv b0).2 h2) (by rw [hr, pkI_map, h1]; rfl) fun b hb hbv => ?_
  · rw [pkI_zero]; exact List.pairwise_singleton _ _
  · have hp := (hv b).1 hbv
    have h3 := tanG_len (R := crossR) (l := thr l) (a := (-1, 96))
    have h5 := best_le pkI_sub hp
    rw [hr, pkI_map, ← Bool.not_eq_true, more_iff]
    rintro (h6 | ⟨h6, h7⟩)
    · simp only [tangleW, List.length_map] at h6; omega
    · rw [show tangleW l = (tanG crossR (-1, 96) (thr l)).map (·.1) from rfl, tan_min (thr_sorted l) hp h6] at h7; cases h7
theorem pairs_snoc {α : Type} (p : α → α → Bool) (l : List α) (x : α) : pairs p (l ++ [x]) = pairs p l + (l.filter fun a => p a x).length := by
  induction l with
  | nil => rfl
  | cons a r ih =>
    simp only [List.cons_append, pairs, ih, List.filter_append, List.filter_cons, List.filter_nil, List.length_append]
    split <;> simp <;> omega
theorem pairs_map {α β : Type} (p : β → β → Bool) (f : α → β) (l : List α) : pairs p (l.map f) = pairs (fun a b => p (f a) (f b)) l := by
  induction l with
  | nil => rfl
  | cons a r ih => simp only [List.map_cons, pairs, ih, List.filter_map, List.length_map]; rfl
theorem pairs_filter {α : Type} (p : α → α → Bool) (q : α → Bool) (l : List α) (h : ∀ a b, a ∈ l → b ∈ l → p a b = true → q a = true ∧ q b = true) : pairs p l = pairs p (l.filter q) := by
  induction l with
  | nil => rfl
  | cons a r ih =>
    have ih := ih fun x y hx hy => h x y (List.mem_cons_of_mem _ hx) (List.mem_cons_of_mem _ hy)
    have e : (r.filter (p a)).length = if q a then ((r.filter q).filter (p a)).length else 0 := by
      split
      · rename_i hq
        congr 1
        rw [List.filter_filter]
        refine List.filter_congr fun y hy => ?_
        cases hp : p a y with
        | false => simp
        | true => simp [(h a y List.mem_cons_self (List.mem_cons_of_mem _ hy) hp).2]
      · rename_i hq
        rw [List.length_eq_zero_iff, List.filter_eq_nil_iff]
        intro y hy hp
        exact hq (h a y List.mem_cons_self (List.mem_cons_of_mem _ hy) hp).1
    simp only [pairs, List.filter_cons, e, ih]
    split <;> simp [pairs]
theorem pairs_congr {α : Type} {p p' : α → α → Bool} {l : List α} {S : α → α → Prop} (hs : l.Pairwise S) (h : ∀ a b, a ∈ l → b ∈ l → S a b → p a b = p' a b) : pairs p l = pairs p' l := by
  induction l with
  | nil => rfl
  | cons a r ih =>
    rw [List.pairwise_cons] at hs
    simp only [pairs, ih hs.2 fun x y hx hy => h x y (List.mem_cons_of_mem _ hx) (List.mem_cons_of_mem _ hy)]
    rw [List.filter_congr fun y hy => h a y List.mem_cons_self (List.mem_cons_of_mem _ hy) (hs.1 y hy)]
theorem pairs_le {α : Type} (p : α → α → Bool) (l : List α) : pairs p l ≤ l.length * l.length := by
  induction l with
  | nil => exact Nat.le_refl _
  | cons a r ih =>
    simp only [pairs, List.length_cons]
    have := List.length_filter_le (p a) r
    have : (r.length + 1) * (r.length + 1) = r.length * r.length + 2 * r.length + 1 := by
      rw [Nat.add_mul, Nat.mul_add]; omega
    omega
theorem cross_comm (l : List Int) (a b : Int) : crossB l a b = crossB l b a := by
  have e1 : gmin a b = gmin b a := by unfold gmin; split <;> split <;> omega
  have e2 : gmax a b = gmax b a := by unfold gmax; split <;> split <;> omega
  simp only [crossB, e1, e2, Bool.and_comm (decide (l.getD a.toNat 0 ≥ 0))]
theorem crossings_eq {l : List Int} (h : ∀ x ∈ l, -1 ≤ x ∧ x ≤ 95) : crossingsI l = (pairs crossR (thr l) : Nat) := by
  have e : thr l = ((List.range l.length).filter fun w => l.getD w 0 != -1).map fun (w : Nat) => ((w : Int), l.getD w 0) := by
    simp only [thr, List.filter_map]; rfl
  have hp : pairs (fun (a b : Nat) => crossB l a b) (List.range l.length) = pairs (fun (a b : Nat) => crossB l a b) ((List.range l.length).filter fun w => l.getD w 0 != -1) := by
    refine pairs_filter _ _ _ fun a b _ _ hc => ?_
    simp only [crossB, Int.toNat_natCast, Bool.and_eq_true, decide_eq_true_eq] at hc
    simp only [bne_iff_ne, ne_eq]; omega
  unfold crossingsI
  rw [hp, e, pairs_map]
  congr 1
  refine pairs_congr (S := fun a b => a < b) (List.Pairwise.filter _ List.pairwise_lt_range) fun a b ha hb hab => ?_
  have ha' : ((a : Int), l.getD a 0) ∈ thr l := by rw [e]; exact List.mem_map.2 ⟨a, ha, rfl⟩
  have hb' : ((b : Int), l.getD b 0) ∈ thr l := by rw [e]; exact List.mem_map.2 ⟨b, hb, rfl⟩
  rw [cross_comm]
  exact cross_eq h ha' hb' (by simpa using hab)
end Go.Proofs.Tryd

set_option linter.unusedVariables false
namespace Go.Proofs.Tryd
open Go Go.V Go.Proofs
def al_ref11_In : AL (Int × Int × Int) := (.cons (.k (.i .i64)) (.cons (.k (.i .i64)) (.one (.k (.i .i64)))))
def pre_ref11_In (d : Int × Int × Int) : Prop := True
def res_ref11_In (d : Int × Int × Int) : SV := .val .bo (inI d.1 d.2.1 d.2.2)
def obs_ref11_In (d : Int × Int × Int) : List OB := []
def s_ref11_In : CSp := mkSp al_ref11_In pre_ref11_In res_ref11_In obs_ref11_In
def vc_ref11_In (n : Int) (a : Int) (b : Int) : Prop :=
  (((decide (n ≥ a)) && (decide (n ≤ b))) = inI n a b ∧ (True))
def cx_ref11_In : Cx := ⟨[], [], 15, [], 0, [], []⟩
def lp_ref11_In (n : Int) (a : Int) (b : Int) : List (Nat × LoopAnn) := []
set_option maxRecDepth 100000 in
theorem vq_ref11_In (d : Int × Int × Int) : gwp (cx_ref11_In) (lp_ref11_In d.1 d.2.1 d.2.2) c29 0 (gend [.tmp 6] (res_ref11_In d) (obs_ref11_In d)) (gstart 15 (AL.can al_ref11_In d)) = vc_ref11_In d.1 d.2.1 d.2.2 := by kernel_rfl
abbrev Ok_ref11_In : Prop := OkC Tryd.prog 29 s_ref11_In
theorem mk_ref11_In (h : ∀ (n : Int) (a : Int) (b : Int), (True) → vc_ref11_In n a b) : OkC Tryd.prog 29 s_ref11_In :=
  okC_vc fun29 mixed (C := cx_ref11_In) (V := fun (d : Int × Int × Int) => vc_ref11_In d.1 d.2.1 d.2.2) ⟨.nil, XsOk.nil, ItsOk.nil⟩ (vq_ref11_In) fun d hp => h d.1 d.2.1 d.2.2 hp
theorem ok_ref11_In : Ok_ref11_In := mk_ref11_In fun n a b _ => by
  simp [vc_ref11_In, inI]
def al_ref03_In : AL (Int × Int × Int) := (.cons (.k (.i .i64)) (.cons (.k (.i .i64)) (.one (.k (.i .i64)))))
def pre_ref03_In (d : Int × Int × Int) : Prop := True
def res_ref03_In (d : Int × Int × Int) : SV := .val .bo (inI d.1 d.2.1 d.2.2)
def obs_ref03_In (d : Int × Int × Int) : List OB := []
def s_ref03_In : CSp := mkSp al_ref03_In pre_ref03_In res_ref03_In obs_ref03_In
def vc_ref03_In (n : Int) (a : Int) (b : Int) : Prop :=
  (((decide (n ≥ a)) && (decide (n ≤ b))) = inI n a b ∧ (True))
def cx_ref03_In : Cx := ⟨[], [], 15, [], 0, [], []⟩
def lp_ref03_In (n : Int) (a : Int) (b : Int) : List (Nat × LoopAnn) := []
set_option maxRecDepth 100000 in
theorem vq_ref03_In (d : Int × Int × Int) : gwp (cx_ref03_In) (lp_ref03_In d.1 d.2.1 d.2.2) c76 0 (gend [.tmp 6] (res_ref03_In d) (obs_ref03_In d)) (gstart 15 (AL.can al_ref03_In d)) = vc_ref03_In d.1 d.2.1 d.2.2 := by kernel_rfl
abbrev Ok_ref03_In : Prop := OkC Tryd.prog 76 s_ref03_In
theorem mk_ref03_In (h : ∀ (n : Int) (a : Int) (b : Int), (True) → vc_ref03_In n a b) : OkC Tryd.prog 76 s_ref03_In :=
  okC_vc fun76 mixed (C := cx_ref03_In) (V := fun (d : Int × Int × Int) => vc_ref03_In d.1 d.2.1 d.2.2) ⟨.nil, XsOk.nil, ItsOk.nil⟩ (vq_ref03_In) fun d hp => h d.1 d.2.1 d.2.2 hp
theorem ok_ref03_In : Ok_ref03_In := mk_ref03_In fun n a b _ => by
  simp [vc_ref03_In, inI]
def al_ref03_Check : AL (Int × List Int) := (.one (.agg (.cons (.k (.i .i64)) (.one (.k (.list (.i .i64)))))))
def pre_ref03_Check (d : Int × List Int) : Prop := True
def res_ref03_Check (d : Int × List Int) : SV := .val (.i .i64) (tieErr d.1 d.2)
def obs_ref03_Check (d : Int × List Int) : List OB := []
def s_ref03_Check : CSp := mkSp al_ref03_Check pre_ref03_Check res_ref03_Check obs_ref03_Check
def vc_ref03_Check (hk : Int) (lw : List Int) : Prop :=
  (True) ∧ ((!inI hk (1 : Int) (24 : Int)) = true →
    ((2 : Int) = tieErr hk lw ∧ (True))) ∧
  ((!inI hk (1 : Int) (24 : Int)) = false →
    ((decide ((((List.length lw) : Nat) : Int) > (96 : Int))) = true →
      ((5 : Int) = tieErr hk lw ∧ (True))) ∧
    ((decide ((((List.length lw) : Nat) : Int) > (96 : Int))) = false →
      (((((List.length lw) : Nat) : Int) == (0 : Int)) = true →
        ((7 : Int) = tieErr hk lw ∧ (True))) ∧
      (((((List.length lw) : Nat) : Int) == (0 : Int)) = false →
        ∃ (e3 : Unit) (d30 : Int), ((True ∧ (0 : Int) = d30 ∧ True) ∧ ((hk = hk ∧ lw = lw ∧ (([] : List SV) = [])) ∧ True)) ∧
        LoopP (fun (d3 : Int) (q3 : (Int) → Prop) =>
          ((decide (d3 < (((List.length lw) : Nat) : Int))) = true →
            (0 ≤ d3) ∧ (d3 < (List.length lw)) ∧ (InK .i64 (hk - (1 : Int))) ∧ (True) ∧ ((!inI (List.getD lw (Int.toNat d3) 0) (0 : Int) (hk - (1 : Int))) = true →
              ((2 : Int) = tieErr hk lw ∧ (True))) ∧
            ((!inI (List.getD lw (Int.toNat d3) 0) (0 : Int) (hk - (1 : Int))) = false →
              (InK .i64 (d3 + (1 : Int))) ∧ (∃ d4 : Int, ((True ∧ (d3 + (1 : Int)) = d4 ∧ True) ∧ ((hk = hk ∧ lw = lw ∧ (([] : List SV) = [])) ∧ True)) ∧ q3 d4))) ∧
          ((decide (d3 < (((List.length lw) : Nat) : Int))) = false →
            ((0 : Int) = tieErr hk lw ∧ (True)))) d30)))
def cx_ref03_Check : Cx := ⟨[], [(76, s_ref03_In)], 33, [], 0, [], []⟩
def lp_ref03_Check (hk : Int) (lw : List Int) : List (Nat × LoopAnn) := [(0, ⟨Unit, Int, [1, 3], fun e x => [.box 1 0, .val (.i .i64) x], fun e x => [(1, .slot 1, .cells [.val (.i .i64) hk, .val (.list (.i .i64)) lw])]⟩)]
set_option maxRecDepth 100000 in
theorem vq_ref03_Check (d : Int × List Int) : gwp (cx_ref03_Check) (lp_ref03_Check d.1 d.2) c50 0 (gend [.tmp 2] (res_ref03_Check d) (obs_ref03_Check d)) (gstart 33 (AL.can al_ref03_Check d)) = vc_ref03_Check d.1 d.2 := by kernel_rfl
abbrev Ok_ref03_Check : Prop := OkC Tryd.prog 50 s_ref03_Check
theorem mk_ref03_Check (h : ∀ (hk : Int) (lw : List Int), (True) → vc_ref03_Check hk lw) : OkC Tryd.prog 50 s_ref03_Check :=
  okC_vc fun50 mixed (C := cx_ref03_Check) (V := fun (d : Int × List Int) => vc_ref03_Check d.1 d.2) ⟨(.cons ok_ref03_In .nil), XsOk.nil, ItsOk.nil⟩ (vq_ref03_Check) fun d hp => h d.1 d.2 hp
theorem ok_ref03_Check : Ok_ref03_Check := mk_ref03_Check fun hk lw _ => by
  simp only [vc_ref03_Check, true_and, and_true, exists_eq_left', exists_const, decide_eq_true_eq, decide_eq_false_iff_not, beq_iff_eq, ne_eq, beq_eq_false_iff_ne, Bool.not_eq_true', Bool.not_eq_false', gt_iff_lt]
  refine ⟨fun h1 => by simp [tieErr, h1], fun h1 => ⟨fun h2 => ?_, fun h2 => ⟨fun h3 => ?_, fun h3 => ?_⟩⟩⟩
  · have : 96 < lw.length := by omega
    simp [tieErr, h1, this]
  · have h3 : lw.length = 0 := by omega
    simp [tieErr, h1, h3]
  have h2' : ¬ 96 < lw.length := by omega
  have h3' : ¬ lw.length = 0 := by omega
  have hi : 1 ≤ hk ∧ hk ≤ 24 := by simpa [inI] using h1
  have hte : tieErr hk lw = if lw.any (fun x => !inI x 0 (hk - 1)) then 2 else 0 := by simp only [tieErr, h1, h2', h3']; simp
  refine LoopP.count lw.length (fun k => (lw.take k).any (fun x => !inI x 0 (hk - 1)) = false) (by simp) fun k hk1 hJ q hq => ?_
  simp only [Int.toNat_natCast, Int.ofNat_lt, InK_i64]
  refine ⟨fun hlt => ?_, fun hge => ?_⟩
  · rw [getD_nat hlt]
    refine ⟨by omega, hlt, by omega, fun hx => ?_, fun hx => ⟨by omega, hq hlt ?_⟩⟩
    · rw [hte, if_pos (List.any_eq_true.2 ⟨lw[k], List.getElem_mem hlt, by simp [hx]⟩)]
    · rw [take_succ_eq hlt, List.any_append, hJ]; simp [hx]
  · rw [List.take_of_length_le (by omega)] at hJ
    rw [hte, hJ]; rfl
def al_ref11_Same : AL (List Int × List Int) := (.cons (.k (.list (.i .i64))) (.one (.k (.list (.i .i64)))))
def pre_ref11_Same (d : List Int × List Int) : Prop := d.1.length ≤ 1000000
def res_ref11_Same (d : List Int × List Int) : SV := .val .bo (d.1 == d.2)
def obs_ref11_Same (d : List Int × List Int) : List OB := []
def s_ref11_Same : CSp := mkSp al_ref11_Same pre_ref11_Same res_ref11_Same obs_ref11_Same
def vc_ref11_Same (l : List Int) (m : List Int) : Prop :=
  (((((List.length l) : Nat) : Int) != (((List.length m) : Nat) : Int)) = true →
    (false = (l == m) ∧ (True))) ∧
  (((((List.length l) : Nat) : Int) != (((List.length m) : Nat) : Int)) = false →
    ∃ (e2 : Unit) (d20 : Int), ((l = l ∧ m = m ∧ (0 : Int) = d20 ∧ True) ∧ (True)) ∧
    LoopP (fun (d2 : Int) (q2 : (Int) → Prop) =>
      ((decide (d2 < (((List.length l) : Nat) : Int))) = true →
        (0 ≤ d2) ∧ (d2 < (List.length l)) ∧ (0 ≤ d2) ∧ (d2 < (List.length m)) ∧ (((List.getD l (Int.toNat d2) 0) != (List.getD m (Int.toNat d2) 0)) = true →
          (false = (l == m) ∧ (True))) ∧
        (((List.getD l (Int.toNat d2) 0) != (List.getD m (Int.toNat d2) 0)) = false →
          (InK .i64 (d2 + (1 : Int))) ∧ (∃ d3 : Int, ((l = l ∧ m = m ∧ (d2 + (1 : Int)) = d3 ∧ True) ∧ (True)) ∧ q2 d3))) ∧
      ((decide (d2 < (((List.length l) : Nat) : Int))) = false →
        (true = (l == m) ∧ (True)))) d20)
def cx_ref11_Same : Cx := ⟨[], [], 26, [], 0, [], []⟩
def lp_ref11_Same (l : List Int) (m : List Int) : List (Nat × LoopAnn) := [(0, ⟨Unit, Int, [0, 1, 5], fun e x => [.val (.list (.i .i64)) l, .val (.list (.i .i64)) m, .val (.i .i64) x], fun e x => []⟩)]
set_option maxRecDepth 100000 in
theorem vq_ref11_Same (d : List Int × List Int) : gwp (cx_ref11_Same) (lp_ref11_Same d.1 d.2) c17 0 (gend [.tmp 4] (res_ref11_Same d) (obs_ref11_Same d)) (gstart 26 (AL.can al_ref11_Same d)) = vc_ref11_Same d.1 d.2 := by kernel_rfl
abbrev Ok_ref11_Same : Prop := OkC Tryd.prog 17 s_ref11_Same
theorem mk_ref11_Same (h : ∀ (l : List Int) (m : List Int), (l.length ≤ 1000000) → vc_ref11_Same l m) : OkC Tryd.prog 17 s_ref11_Same :=
  okC_vc fun17 mixed (C := cx_ref11_Same) (V := fun (d : List Int × List Int) => vc_ref11_Same d.1 d.2) ⟨.nil, XsOk.nil, ItsOk.nil⟩ (vq_ref11_Same) fun d hp => h d.1 d.2 hp
theorem ok_ref11_Same : Ok_ref11_Same := mk_ref11_Same fun l m hlm => by
  simp only [vc_ref11_Same, true_and, and_true, exists_eq_left', exists_const, decide_eq_true_eq, decide_eq_false_iff_not, bne_iff_ne, ne_eq, bne_eq_false_iff_eq]
  refine ⟨fun h => ?_, fun h => ?_⟩
  · symm; rw [beq_eq_false_iff_ne]; rintro rfl; exact h rfl
  have h : l.length = m.length := by omega
  refine LoopP.count l.length (fun k => l.take k = m.take k) rfl fun k hk1 hJ q hq => ?_
  simp only [Int.toNat_natCast, Int.ofNat_lt, InK_i64]
  refine ⟨fun hlt => ?_, fun hge => ?_⟩
  · rw [getD_nat hlt, getD_nat (by omega)]
    refine ⟨by omega, hlt, by omega, by omega, fun hx => ?_, fun hx => ⟨by omega, hq hlt ?_⟩⟩
    · symm; rw [beq_eq_false_iff_ne]; rintro rfl; exact hx rfl
    · rw [take_succ_eq hlt, take_succ_eq (by omega), hJ, hx]
  · rw [List.take_of_length_le (by omega), List.take_of_length_le (by omega)] at hJ
    simp [hJ]
def al_law11_ints : AL (List Int) := (.one (.k (.list (.i .i64))))
def pre_law11_ints (d : List Int) : Prop := d.length ≤ 110
def res_law11_ints (d : List Int) : SV := .lst 0
def obs_law11_ints (d : List Int) : List OB := [.lst 3 (.i .i64) d false]
def s_law11_ints : CSp := mkSp al_law11_ints pre_law11_ints res_law11_ints obs_law11_ints
def vc_law11_ints (l : List Int) : Prop :=
  (((List.length ([] : List Int)) + (List.length l)) * 8 ≤ 70368744177664) ∧ (True ∧ (((([] : List Int) ++ l) = l ∧ ((List.isEmpty l) && false) = false) ∧ True))
def cx_law11_ints : Cx := ⟨[(3, (.i .i64))], [], 6, [], 0, [], []⟩
def lp_law11_ints (l : List Int) : List (Nat × LoopAnn) := []
set_option maxRecDepth 100000 in
theorem vq_law11_ints (d : List Int) : gwp (cx_law11_ints) (lp_law11_ints d) c14 0 (gend [.tmp 2] (res_law11_ints d) (obs_law11_ints d)) (gstart 6 (AL.can al_law11_ints d)) = vc_law11_ints d := by kernel_rfl
abbrev Ok_law11_ints : Prop := OkC Tryd.prog 14 s_law11_ints
theorem mk_law11_ints (h : ∀ (l : List Int), (l.length ≤ 110) → vc_law11_ints l) : OkC Tryd.prog 14 s_law11_ints :=
  okC_vc fun14 mixed (C := cx_law11_ints) (V := fun (d : List Int) => vc_law11_ints d) ⟨.nil, XsOk.nil, ItsOk.nil⟩ (vq_law11_ints) fun d hp => h d hp
theorem ok_law11_ints : Ok_law11_ints := mk_law11_ints fun l h => by
  simp [vc_law11_ints]; omega
def al_law11_own : AL (Int × List Int) := (.one (.agg (.cons (.k (.i .i64)) (.one (.k (.list (.i .i64)))))))
def pre_law11_own (d : Int × List Int) : Prop := d.2.length ≤ 110
def res_law11_own (d : Int × List Int) : SV := .agg [.val (.i .i64) d.1, .lst 0]
def obs_law11_own (d : Int × List Int) : List OB := [.lst 3 (.i .i64) d.2 false]
def s_law11_own : CSp := mkSp al_law11_own pre_law11_own res_law11_own obs_law11_own
def vc_law11_own (hk : Int) (lw : List Int) : Prop :=
  (lw.length ≤ 110) ∧ (false = true → lw = []) ∧ ((hk = hk ∧ True ∧ (([] : List SV) = [])) ∧ ((lw = lw ∧ false = false) ∧ True))
def cx_law11_own : Cx := ⟨[], [(14, s_law11_ints)], 9, [], 0, [], []⟩
def lp_law11_own (hk : Int) (lw : List Int) : List (Nat × LoopAnn) := []
set_option maxRecDepth 100000 in
theorem vq_law11_own (d : Int × List Int) : gwp (cx_law11_own) (lp_law11_own d.1 d.2) c13 0 (gend [.cell 2 true 2] (res_law11_own d) (obs_law11_own d)) (gstart 9 (AL.can al_law11_own d)) = vc_law11_own d.1 d.2 := by kernel_rfl
abbrev Ok_law11_own : Prop := OkC Tryd.prog 13 s_law11_own
theorem mk_law11_own (h : ∀ (hk : Int) (lw : List Int), (lw.length ≤ 110) → vc_law11_own hk lw) : OkC Tryd.prog 13 s_law11_own :=
  okC_vc fun13 mixed (C := cx_law11_own) (V := fun (d : Int × List Int) => vc_law11_own d.1 d.2) ⟨(.cons ok_law11_ints .nil), XsOk.nil, ItsOk.nil⟩ (vq_law11_own) fun d hp => h d.1 d.2 hp
theorem ok_law11_own : Ok_law11_own := mk_law11_own fun hk lw h => by
  simp [vc_law11_own, h]
def al_slices_Clone_int_int : AL (List Int) := (.one (.k (.list (.i .i64))))
def pre_slices_Clone_int_int (d : List Int) : Prop := d ≠ [] ∧ d.length ≤ 110
def res_slices_Clone_int_int (d : List Int) : SV := .lst 0
def obs_slices_Clone_int_int (d : List Int) : List OB := [.lst 3 (.i .i64) d false]
def s_slices_Clone_int_int : CSp := mkSp al_slices_Clone_int_int pre_slices_Clone_int_int res_slices_Clone_int_int obs_slices_Clone_int_int
def vc_slices_Clone_int_int (l : List Int) : Prop :=
  (l ≠ []) ∧ (false = true →
    (True ∧ ((l = [] ∧ false = true) ∧ True))) ∧
  (false = false →
    (((List.length ([] : List Int)) + (List.length l)) * 8 ≤ 70368744177664) ∧ (True ∧ (((([] : List Int) ++ l) = l ∧ ((List.isEmpty l) && false) = false) ∧ True)))
def cx_slices_Clone_int_int : Cx := ⟨[(3, (.i .i64))], [], 8, [], 0, [], []⟩
def lp_slices_Clone_int_int (l : List Int) : List (Nat × LoopAnn) := []
set_option maxRecDepth 100000 in
theorem vq_slices_Clone_int_int (d : List Int) : gwp (cx_slices_Clone_int_int) (lp_slices_Clone_int_int d) c46 0 (gend [.tmp 2] (res_slices_Clone_int_int d) (obs_slices_Clone_int_int d)) (gstart 8 (AL.can al_slices_Clone_int_int d)) = vc_slices_Clone_int_int d := by kernel_rfl
abbrev Ok_slices_Clone_int_int : Prop := OkC Tryd.prog 46 s_slices_Clone_int_int
theorem mk_slices_Clone_int_int (h : ∀ (l : List Int), (l ≠ [] ∧ l.length ≤ 110) → vc_slices_Clone_int_int l) : OkC Tryd.prog 46 s_slices_Clone_int_int :=
  okC_vc fun46 mixed (C := cx_slices_Clone_int_int) (V := fun (d : List Int) => vc_slices_Clone_int_int d) ⟨.nil, XsOk.nil, ItsOk.nil⟩ (vq_slices_Clone_int_int) fun d hp => h d hp
theorem ok_slices_Clone_int_int : Ok_slices_Clone_int_int := mk_slices_Clone_int_int fun l h => by
  simp [vc_slices_Clone_int_int, h.1]; omega
def cx_slices_Backward_int_int : Cx := ⟨[], [], 4, [], 0, [], []⟩
def x_slices_Backward_int_int : XSp := inlX cx_slices_Backward_int_int (fun _ => []) c47 [.tmp 2] 4
theorem okx_slices_Backward_int_int : XOk Tryd.prog 47 x_slices_Backward_int_int := inlX_ok fun47 mixed (C := cx_slices_Backward_int_int) ⟨.nil, XsOk.nil, ItsOk.nil⟩ _
def al_eye_board_isRight : AL ((Int × List Int × List Int) × Int) := (.cons (.agg (.cons (.k (.i .i64)) (.cons (.k (.list (.i .i64))) (.one (.k (.list (.i .i64))))))) (.one (.k (.i .i64))))
def pre_eye_board_isRight (d : (Int × List Int × List Int) × Int) : Prop := 0 ≤ d.2 ∧ d.2 < d.1.2.2.length ∧ d.1.2.2.length ≤ d.1.2.1.length ∧ ∀ x ∈ d.1.2.2, -1 ≤ x ∧ x < d.1.2.1.length
def res_eye_board_isRight (d : (Int × List Int × List Int) × Int) : SV := .val .bo (isRight d.1.2.1 d.1.2.2 d.2)
def obs_eye_board_isRight (d : (Int × List Int × List Int) × Int) : List OB := []
def s_eye_board_isRight : CSp := mkSp al_eye_board_isRight pre_eye_board_isRight res_eye_board_isRight obs_eye_board_isRight
def vc_eye_board_isRight (hk : Int) (lw : List Int) (l : List Int) (w : Int) : Prop :=
  (0 ≤ w) ∧ (w < (List.length l)) ∧ (((List.getD l (Int.toNat w) 0) != (-1 : Int)) = true → 0 ≤ (List.getD l (Int.toNat w) 0)) ∧ (((List.getD l (Int.toNat w) 0) != (-1 : Int)) = true → (List.getD l (Int.toNat w) 0) < (List.length lw)) ∧ (((List.getD l (Int.toNat w) 0) != (-1 : Int)) = true → 0 ≤ w) ∧ (((List.getD l (Int.toNat w) 0) != (-1 : Int)) = true → w < (List.length lw)) ∧ ((((List.getD l (Int.toNat w) 0) != (-1 : Int)) && ((List.getD lw (Int.toNat (List.getD l (Int.toNat w) 0)) 0) == (List.getD lw (Int.toNat w) 0))) = isRight lw l w ∧ (True))
def cx_eye_board_isRight : Cx := ⟨[], [], 28, [], 0, [], []⟩
def lp_eye_board_isRight (hk : Int) (lw : List Int) (l : List Int) (w : Int) : List (Nat × LoopAnn) := []
set_option maxRecDepth 100000 in
theorem vq_eye_board_isRight (d : (Int × List Int × List Int) × Int) : gwp (cx_eye_board_isRight) (lp_eye_board_isRight d.1.1 d.1.2.1 d.1.2.2 d.2) c48 0 (gend [.tmp 4] (res_eye_board_isRight d) (obs_eye_board_isRight d)) (gstart 28 (AL.can al_eye_board_isRight d)) = vc_eye_board_isRight d.1.1 d.1.2.1 d.1.2.2 d.2 := by kernel_rfl
abbrev Ok_eye_board_isRight : Prop := OkC Tryd.prog 48 s_eye_board_isRight
theorem mk_eye_board_isRight (h : ∀ (hk : Int) (lw : List Int) (l : List Int) (w : Int), (0 ≤ w ∧ w < l.length ∧ l.length ≤ lw.length ∧ ∀ x ∈ l, -1 ≤ x ∧ x < lw.length) → vc_eye_board_isRight hk lw l w) : OkC Tryd.prog 48 s_eye_board_isRight :=
  okC_vc fun48 mixed (C := cx_eye_board_isRight) (V := fun (d : (Int × List Int × List Int) × Int) => vc_eye_board_isRight d.1.1 d.1.2.1 d.1.2.2 d.2) ⟨.nil, XsOk.nil, ItsOk.nil⟩ (vq_eye_board_isRight) fun d hp => h d.1.1 d.1.2.1 d.1.2.2 d.2 hp
theorem ok_eye_board_isRight : Ok_eye_board_isRight := mk_eye_board_isRight fun hk lw l w h => by
  obtain ⟨h1, h2, h3, h4⟩ := h
  obtain ⟨n, rfl⟩ := Int.eq_ofNat_of_zero_le h1
  have hn : n < l.length := by omega
  have := h4 _ (List.getElem_mem hn)
  simp only [vc_eye_board_isRight, and_true, bne_iff_ne, ne_eq, Int.toNat_natCast, Int.ofNat_lt, getD_nat hn]
  refine ⟨by omega, by omega, fun h => by omega, fun h => by omega, fun _ => by omega, fun _ => by omega, ?_⟩
  simp only [isRight, Int.toNat_natCast, getD_nat hn]
def al_ref11_IsWrong : AL ((Int × List Int) × List Int × Int) := (.cons (.agg (.cons (.k (.i .i64)) (.one (.k (.list (.i .i64)))))) (.cons (.k (.list (.i .i64))) (.one (.k (.i .i64)))))
def pre_ref11_IsWrong (d : (Int × List Int) × List Int × Int) : Prop := 0 ≤ d.2.2 ∧ d.2.2 < d.2.1.length ∧ d.2.1.length ≤ d.1.2.length ∧ ∀ x ∈ d.2.1, -1 ≤ x ∧ x < d.1.2.length
def res_ref11_IsWrong (d : (Int × List Int) × List Int × Int) : SV := .val .bo (!isRight d.1.2 d.2.1 d.2.2)
def obs_ref11_IsWrong (d : (Int × List Int) × List Int × Int) : List OB := []
def s_ref11_IsWrong : CSp := mkSp al_ref11_IsWrong pre_ref11_IsWrong res_ref11_IsWrong obs_ref11_IsWrong
def vc_ref11_IsWrong (hk : Int) (lw : List Int) (l : List Int) (w : Int) : Prop :=
  (0 ≤ w) ∧ (w < (List.length l)) ∧ ((decide ((List.getD l (Int.toNat w) 0) < (0 : Int))) = false → 0 ≤ w) ∧ ((decide ((List.getD l (Int.toNat w) 0) < (0 : Int))) = false → w < (List.length l)) ∧ ((decide ((List.getD l (Int.toNat w) 0) < (0 : Int))) = false → 0 ≤ (List.getD l (Int.toNat w) 0)) ∧ ((decide ((List.getD l (Int.toNat w) 0) < (0 : Int))) = false → (List.getD l (Int.toNat w) 0) < (List.length lw)) ∧ ((decide ((List.getD l (Int.toNat w) 0) < (0 : Int))) = false → 0 ≤ w) ∧ ((decide ((List.getD l (Int.toNat w) 0) < (0 : Int))) = false → w < (List.length lw)) ∧ (((decide ((List.getD l (Int.toNat w) 0) < (0 : Int))) || ((List.getD lw (Int.toNat (List.getD l (Int.toNat w) 0)) 0) != (List.getD lw (Int.toNat w) 0))) = (!isRight lw l w) ∧ (True))
def cx_ref11_IsWrong : Cx := ⟨[], [], 28, [], 0, [], []⟩
def lp_ref11_IsWrong (hk : Int) (lw : List Int) (l : List Int) (w : Int) : List (Nat × LoopAnn) := []
set_option maxRecDepth 100000 in
theorem vq_ref11_IsWrong (d : (Int × List Int) × List Int × Int) : gwp (cx_ref11_IsWrong) (lp_ref11_IsWrong d.1.1 d.1.2 d.2.1 d.2.2) c51 0 (gend [.tmp 6] (res_ref11_IsWrong d) (obs_ref11_IsWrong d)) (gstart 28 (AL.can al_ref11_IsWrong d)) = vc_ref11_IsWrong d.1.1 d.1.2 d.2.1 d.2.2 := by kernel_rfl
abbrev Ok_ref11_IsWrong : Prop := OkC Tryd.prog 51 s_ref11_IsWrong
theorem mk_ref11_IsWrong (h : ∀ (hk : Int) (lw : List Int) (l : List Int) (w : Int), (0 ≤ w ∧ w < l.length ∧ l.length ≤ lw.length ∧ ∀ x ∈ l, -1 ≤ x ∧ x < lw.length) → vc_ref11_IsWrong hk lw l w) : OkC Tryd.prog 51 s_ref11_IsWrong :=
  okC_vc fun51 mixed (C := cx_ref11_IsWrong) (V := fun (d : (Int × List Int) × List Int × Int) => vc_ref11_IsWrong d.1.1 d.1.2 d.2.1 d.2.2) ⟨.nil, XsOk.nil, ItsOk.nil⟩ (vq_ref11_IsWrong) fun d hp => h d.1.1 d.1.2 d.2.1 d.2.2 hp
theorem ok_ref11_IsWrong : Ok_ref11_IsWrong := mk_ref11_IsWrong fun hk lw l w h => by
  obtain ⟨h1, h2, h3, h4⟩ := h
  obtain ⟨n, rfl⟩ := Int.eq_ofNat_of_zero_le h1
  have hn : n < l.length := by omega
  have := h4 _ (List.getElem_mem hn)
  simp only [vc_ref11_IsWrong, and_true, decide_eq_false_iff_not, Int.toNat_natCast, Int.ofNat_lt, getD_nat hn]
  refine ⟨by omega, by omega, fun _ => by omega, fun _ => by omega, fun h => by omega, fun h => by omega, fun _ => by omega, fun _ => by omega, ?_⟩
  simp only [isRight, Int.toNat_natCast, getD_nat hn, Bool.not_and]
  by_cases hx : l[n] = -1
  · simp [hx]
  · have : ¬ l[n] < 0 := by omega
    simp [hx, this, bne]
def al_ref03_Same : AL ((Int × List Int) × Int × List Int) := (.cons (.agg (.cons (.k (.i .i64)) (.one (.k (.list (.i .i64)))))) (.one (.agg (.cons (.k (.i .i64)) (.one (.k (.list (.i .i64))))))))
def pre_ref03_Same (d : (Int × List Int) × Int × List Int) : Prop := d.1.2.length ≤ 1000000
def res_ref03_Same (d : (Int × List Int) × Int × List Int) : SV := .val .bo (decide (d.1.1 = d.2.1) && (d.1.2 == d.2.2))
def obs_ref03_Same (d : (Int × List Int) × Int × List Int) : List OB := []
def s_ref03_Same : CSp := mkSp al_ref03_Same pre_ref03_Same res_ref03_Same obs_ref03_Same
def vc_ref03_Same (hk : Int) (lw : List Int) (hk1 : Int) (lw1 : List Int) : Prop :=
  (((hk != hk1) || ((((List.length lw) : Nat) : Int) != (((List.length lw1) : Nat) : Int))) = true →
    (false = (decide (hk = hk1) && (lw == lw1)) ∧ (True))) ∧
  (((hk != hk1) || ((((List.length lw) : Nat) : Int) != (((List.length lw1) : Nat) : Int))) = false →
    ∃ (e3 : Unit) (d30 : Int), ((True ∧ True ∧ (0 : Int) = d30 ∧ True) ∧ ((hk = hk ∧ lw = lw ∧ (([] : List SV) = [])) ∧ (hk1 = hk1 ∧ lw1 = lw1 ∧ (([] : List SV) = [])) ∧ True)) ∧
    LoopP (fun (d3 : Int) (q3 : (Int) → Prop) =>
      ((decide (d3 < (((List.length lw) : Nat) : Int))) = true →
        (0 ≤ d3) ∧ (d3 < (List.length lw)) ∧ (0 ≤ d3) ∧ (d3 < (List.length lw1)) ∧ (((List.getD lw (Int.toNat d3) 0) != (List.getD lw1 (Int.toNat d3) 0)) = true →
          (false = (decide (hk = hk1) && (lw == lw1)) ∧ (True))) ∧
        (((List.getD lw (Int.toNat d3) 0) != (List.getD lw1 (Int.toNat d3) 0)) = false →
          (InK .i64 (d3 + (1 : Int))) ∧ (∃ d4 : Int, ((True ∧ True ∧ (d3 + (1 : Int)) = d4 ∧ True) ∧ ((hk = hk ∧ lw = lw ∧ (([] : List SV) = [])) ∧ (hk1 = hk1 ∧ lw1 = lw1 ∧ (([] : List SV) = [])) ∧ True)) ∧ q3 d4))) ∧
      ((decide (d3 < (((List.length lw) : Nat) : Int))) = false →
        (true = (decide (hk = hk1) && (lw == lw1)) ∧ (True)))) d30)
def cx_ref03_Same : Cx := ⟨[], [], 38, [], 0, [], []⟩
def lp_ref03_Same (hk : Int) (lw : List Int) (hk1 : Int) (lw1 : List Int) : List (Nat × LoopAnn) := [(0, ⟨Unit, Int, [2, 3, 5], fun e x => [.box 2 0, .box 3 0, .val (.i .i64) x], fun e x => [(2, .slot 2, .cells [.val (.i .i64) hk, .val (.list (.i .i64)) lw]), (3, .slot 3, .cells [.val (.i .i64) hk1, .val (.list (.i .i64)) lw1])]⟩)]
set_option maxRecDepth 100000 in
theorem vq_ref03_Same (d : (Int × List Int) × Int × List Int) : gwp (cx_ref03_Same) (lp_ref03_Same d.1.1 d.1.2 d.2.1 d.2.2) c16 0 (gend [.tmp 4] (res_ref03_Same d) (obs_ref03_Same d)) (gstart 38 (AL.can al_ref03_Same d)) = vc_ref03_Same d.1.1 d.1.2 d.2.1 d.2.2 := by kernel_rfl
abbrev Ok_ref03_Same : Prop := OkC Tryd.prog 16 s_ref03_Same
theorem mk_ref03_Same (h : ∀ (hk : Int) (lw : List Int) (hk1 : Int) (lw1 : List Int), (lw.length ≤ 1000000) → vc_ref03_Same hk lw hk1 lw1) : OkC Tryd.prog 16 s_ref03_Same :=
  okC_vc fun16 mixed (C := cx_ref03_Same) (V := fun (d : (Int × List Int) × Int × List Int) => vc_ref03_Same d.1.1 d.1.2 d.2.1 d.2.2) ⟨.nil, XsOk.nil, ItsOk.nil⟩ (vq_ref03_Same) fun d hp => h d.1.1 d.1.2 d.2.1 d.2.2 hp
theorem ok_ref03_Same : Ok_ref03_Same := mk_ref03_Same fun hk lw hk1 lw1 hl => by
  simp only [vc_ref03_Same, true_and, and_true, exists_eq_left', exists_const, decide_eq_true_eq, decide_eq_false_iff_not, bne_iff_ne, ne_eq, bne_eq_false_iff_eq, Bool.or_eq_true, Bool.or_eq_false_iff]
  refine ⟨fun h => ?_, fun ⟨h0, h⟩ => ?_⟩
  · symm; simp only [Bool.and_eq_false_iff, decide_eq_false_iff_not, beq_eq_false_iff_ne]
    rcases h with h | h
    · exact .inl h
    · exact .inr (by rintro rfl; exact h rfl)
  have h : lw.length = lw1.length := by omega
  subst h0
  refine LoopP.count lw.length (fun k => lw.take k = lw1.take k) rfl fun k hk1 hJ q hq => ?_
  simp only [Int.toNat_natCast, Int.ofNat_lt, InK_i64]
  refine ⟨fun hlt => ?_, fun hge => ?_⟩
  · rw [getD_nat hlt, getD_nat (by omega)]
    refine ⟨by omega, hlt, by omega, by omega, fun hx => ?_, fun hx => ⟨by omega, hq hlt ?_⟩⟩
    · symm; simp only [decide_true, Bool.true_and, beq_eq_false_iff_ne]; rintro rfl; exact hx rfl
    · rw [take_succ_eq hlt, take_succ_eq (by omega), hJ, hx]
  · rw [List.take_of_length_le (by omega), List.take_of_length_le (by omega)] at hJ
    simp [hJ]
def al_ref11_Check : AL ((Int × List Int) × List Int) := (.cons (.agg (.cons (.k (.i .i64)) (.one (.k (.list (.i .i64)))))) (.one (.k (.list (.i .i64)))))
def pre_ref11_Check (d : (Int × List Int) × List Int) : Prop := d.1.2.length ≤ 110
def res_ref11_Check (d : (Int × List Int) × List Int) : SV := .val (.i .i64) (eyeErr d.1.1 d.1.2 d.2)
def obs_ref11_Check (d : (Int × List Int) × List Int) : List OB := []
def s_ref11_Check : CSp := mkSp al_ref11_Check pre_ref11_Check res_ref11_Check obs_ref11_Check
def vc_ref11_Check (hk : Int) (lw : List Int) (l : List Int) : Prop :=
  (True) ∧ ((tieErr hk lw != (0 : Int)) = true →
    (tieErr hk lw = eyeErr hk lw l ∧ (True))) ∧
  ((tieErr hk lw != (0 : Int)) = false →
    (((((List.length l) : Nat) : Int) != (((List.length lw) : Nat) : Int)) = true →
      ((4 : Int) = eyeErr hk lw l ∧ (True))) ∧
    (((((List.length l) : Nat) : Int) != (((List.length lw) : Nat) : Int)) = false →
      ∃ (e3 : Unit) (d30 : Int), ((l = l ∧ True ∧ (0 : Int) = d30 ∧ True) ∧ ((hk = hk ∧ lw = lw ∧ (([] : List SV) = [])) ∧ True)) ∧
      LoopP (fun (d3 : Int) (q3 : (Int) → Prop) =>
        ((decide (d3 < (((List.length l) : Nat) : Int))) = true →
          (0 ≤ d3) ∧ (d3 < (List.length l)) ∧ (InK .i64 ((((List.length lw) : Nat) : Int) - (1 : Int))) ∧ (True) ∧ ((!inI (List.getD l (Int.toNat d3) 0) (-1 : Int) ((((List.length lw) : Nat) : Int) - (1 : Int))) = true →
            ((2 : Int) = eyeErr hk lw l ∧ (True))) ∧
          ((!inI (List.getD l (Int.toNat d3) 0) (-1 : Int) ((((List.length lw) : Nat) : Int) - (1 : Int))) = false →
            (InK .i64 (d3 + (1 : Int))) ∧ (∃ d4 : Int, ((l = l ∧ True ∧ (d3 + (1 : Int)) = d4 ∧ True) ∧ ((hk = hk ∧ lw = lw ∧ (([] : List SV) = [])) ∧ True)) ∧ q3 d4))) ∧
        ((decide (d3 < (((List.length l) : Nat) : Int))) = false →
          ((0 : Int) = eyeErr hk lw l ∧ (True)))) d30))
def cx_ref11_Check : Cx := ⟨[], [(50, s_ref03_Check), (29, s_ref11_In)], 34, [], 0, [], []⟩
def lp_ref11_Check (hk : Int) (lw : List Int) (l : List Int) : List (Nat × LoopAnn) := [(0, ⟨Unit, Int, [1, 2, 6], fun e x => [.val (.list (.i .i64)) l, .box 2 0, .val (.i .i64) x], fun e x => [(2, .slot 2, .cells [.val (.i .i64) hk, .val (.list (.i .i64)) lw])]⟩)]
set_option maxRecDepth 100000 in
theorem vq_ref11_Check (d : (Int × List Int) × List Int) : gwp (cx_ref11_Check) (lp_ref11_Check d.1.1 d.1.2 d.2) c18 0 (gend [.tmp 4] (res_ref11_Check d) (obs_ref11_Check d)) (gstart 34 (AL.can al_ref11_Check d)) = vc_ref11_Check d.1.1 d.1.2 d.2 := by kernel_rfl
abbrev Ok_ref11_Check : Prop := OkC Tryd.prog 18 s_ref11_Check
theorem mk_ref11_Check (h : ∀ (hk : Int) (lw : List Int) (l : List Int), (lw.length ≤ 110) → vc_ref11_Check hk lw l) : OkC Tryd.prog 18 s_ref11_Check :=
  okC_vc fun18 mixed (C := cx_ref11_Check) (V := fun (d : (Int × List Int) × List Int) => vc_ref11_Check d.1.1 d.1.2 d.2) ⟨(.cons ok_ref03_Check (.cons ok_ref11_In .nil)), XsOk.nil, ItsOk.nil⟩ (vq_ref11_Check) fun d hp => h d.1.1 d.1.2 d.2 hp
theorem ok_ref11_Check : Ok_ref11_Check := mk_ref11_Check fun hk lw l hl => by
  simp only [vc_ref11_Check, true_and, and_true, exists_eq_left', exists_const, decide_eq_true_eq, decide_eq_false_iff_not, bne_iff_ne, ne_eq, bne_eq_false_iff_eq, Bool.not_eq_true', Bool.not_eq_false']
  refine ⟨fun h1 => by simp [eyeErr, h1], fun h1 => ⟨fun h2 => ?_, fun h2 => ?_⟩⟩
  · have : ¬ l.length = lw.length := by omega
    simp [eyeErr, h1, this]
  have h2 : l.length = lw.length := by omega
  have hte : eyeErr hk lw l = if l.any (fun x => !inI x (-1) (lw.length - 1)) then 2 else 0 := by simp [eyeErr, h1, h2]
  refine LoopP.count l.length (fun k => (l.take k).any (fun x => !inI x (-1) (lw.length - 1)) = false) (by simp) fun k hk1 hJ q hq => ?_
  simp only [Int.toNat_natCast, Int.ofNat_lt, InK_i64]
  refine ⟨fun hlt => ?_, fun hge => ?_⟩
  · rw [getD_nat hlt]
    refine ⟨by omega, hlt, by omega, fun hx => ?_, fun hx => ⟨by omega, hq hlt ?_⟩⟩
    · rw [hte, if_pos (List.any_eq_true.2 ⟨l[k], List.getElem_mem hlt, by simp [hx]⟩)]
    · rw [take_succ_eq hlt, List.any_append, hJ]; simp [hx]
  · rw [List.take_of_length_le (by omega)] at hJ
    rw [hte, hJ]; rfl
def al_slices_IndexFunc_int_int : AL (List Int × ((Int → Prop) × (Int → Bool))) := (.cons (.k (.list (.i .i64))) (.one (.fn [(.i .i64)] .bo)))
def pre_slices_IndexFunc_int_int (d : List Int × ((Int → Prop) × (Int → Bool))) : Prop := d.1.length ≤ 1000000 ∧ ∀ x ∈ d.1, d.2.1 x
def res_slices_IndexFunc_int_int (d : List Int × ((Int → Prop) × (Int → Bool))) : SV := .val (.i .i64) (idxF d.1 d.2.2)
def obs_slices_IndexFunc_int_int (d : List Int × ((Int → Prop) × (Int → Bool))) : List OB := []
def s_slices_IndexFunc_int_int : CSp := mkSp al_slices_IndexFunc_int_int pre_slices_IndexFunc_int_int res_slices_IndexFunc_int_int obs_slices_IndexFunc_int_int
def vc_slices_IndexFunc_int_int (l : List Int) (p : (Int → Prop) × (Int → Bool)) : Prop :=
  ∃ (e2 : Unit) (d20 : Int), ((l = l ∧ (SV.pf [(.i .i64)] .bo p.1 p.2 = SV.pf [(.i .i64)] .bo p.1 p.2) ∧ (((List.length l) : Nat) : Int) = (((List.length l) : Nat) : Int) ∧ (0 : Int) = d20 ∧ True) ∧ (True)) ∧
  LoopP (fun (d2 : Int) (q2 : (Int) → Prop) =>
    ((decide (d2 < (((List.length l) : Nat) : Int))) = true →
      (0 ≤ d2) ∧ (d2 < (List.length l)) ∧ (p.1 (List.getD l (Int.toNat d2) 0)) ∧ ((p.2 (List.getD l (Int.toNat d2) 0)) = true →
        (d2 = idxF l p.2 ∧ (True))) ∧
      ((p.2 (List.getD l (Int.toNat d2) 0)) = false →
        (InK .i64 (d2 + (1 : Int))) ∧ (∃ d3 : Int, ((l = l ∧ (SV.pf [(.i .i64)] .bo p.1 p.2 = SV.pf [(.i .i64)] .bo p.1 p.2) ∧ (((List.length l) : Nat) : Int) = (((List.length l) : Nat) : Int) ∧ (d2 + (1 : Int)) = d3 ∧ True) ∧ (True)) ∧ q2 d3))) ∧
    ((decide (d2 < (((List.length l) : Nat) : Int))) = false →
      ((-1 : Int) = idxF l p.2 ∧ (True)))) d20
def cx_slices_IndexFunc_int_int : Cx := ⟨[], [], 19, [], 0, [], []⟩
def lp_slices_IndexFunc_int_int (l : List Int) (p : (Int → Prop) × (Int → Bool)) : List (Nat × LoopAnn) := [(0, ⟨Unit, Int, [0, 1, 7, 8], fun e x => [.val (.list (.i .i64)) l, .pf [(.i .i64)] .bo p.1 p.2, .val (.i .i64) (((List.length l) : Nat) : Int), .val (.i .i64) x], fun e x => []⟩)]
set_option maxRecDepth 100000 in
theorem vq_slices_IndexFunc_int_int (d : List Int × ((Int → Prop) × (Int → Bool))) : gwp (cx_slices_IndexFunc_int_int) (lp_slices_IndexFunc_int_int d.1 d.2) c97 0 (gend [.tmp 4] (res_slices_IndexFunc_int_int d) (obs_slices_IndexFunc_int_int d)) (gstart 19 (AL.can al_slices_IndexFunc_int_int d)) = vc_slices_IndexFunc_int_int d.1 d.2 := by kernel_rfl
abbrev Ok_slices_IndexFunc_int_int : Prop := OkC Tryd.prog 97 s_slices_IndexFunc_int_int
theorem mk_slices_IndexFunc_int_int (h : ∀ (l : List Int) (p : (Int → Prop) × (Int → Bool)), (l.length ≤ 1000000 ∧ ∀ x ∈ l, p.1 x) → vc_slices_IndexFunc_int_int l p) : OkC Tryd.prog 97 s_slices_IndexFunc_int_int :=
  okC_vc fun97 mixed (C := cx_slices_IndexFunc_int_int) (V := fun (d : List Int × ((Int → Prop) × (Int → Bool))) => vc_slices_IndexFunc_int_int d.1 d.2) ⟨.nil, XsOk.nil, ItsOk.nil⟩ (vq_slices_IndexFunc_int_int) fun d hp => h d.1 d.2 hp
theorem idxF_some {l : List Int} {p : Int → Bool} {k : Nat} (hk : k < l.length) (h : p l[k] = true) (hJ : (l.take k).any p = false) : idxF l p = k := by
  have : l.findIdx? p = some k := by
    rw [List.findIdx?_eq_some_iff_getElem]
    refine ⟨hk, h, fun j hj => ?_⟩
    have hn := List.any_eq_false.1 hJ l[j] (List.mem_take_iff_getElem.2 ⟨j, by omega, rfl⟩)
    simpa using hn
  simp [idxF, this]
theorem idxF_none {l : List Int} {p : Int → Bool} (hJ : l.any p = false) : idxF l p = -1 := by
  have : l.findIdx? p = none := by
    rw [List.findIdx?_eq_none_iff]
    intro x hx
    have := List.any_eq_false.1 hJ x hx
    simpa using this
  simp [idxF, this]
theorem idxF_nonneg (l : List Int) (p : Int → Bool) : decide (idxF l p ≥ 0) = l.any p := by
  unfold idxF
  cases h : l.findIdx? p with
  | none =>
    have := List.findIdx?_eq_none_iff.1 h
    have : l.any p = false := by rw [List.any_eq_false]; intro x hx; simp [this x hx]
    rw [this]; rfl
  | some i =>
    obtain ⟨h1, h2, _⟩ := List.findIdx?_eq_some_iff_getElem.1 h
    rw [List.any_eq_true.2 ⟨l[i], List.getElem_mem h1, h2⟩]
    simp
theorem ok_slices_IndexFunc_int_int : Ok_slices_IndexFunc_int_int := mk_slices_IndexFunc_int_int fun l p hp => by
  simp only [vc_slices_IndexFunc_int_int, true_and, and_true, exists_eq_left', exists_const, decide_eq_true_eq, decide_eq_false_iff_not]
  refine LoopP.count l.length (fun k => (l.take k).any p.2 = false) (by simp) fun k hk1 hJ q hq => ?_
  simp only [Int.toNat_natCast, Int.ofNat_lt, InK_i64]
  refine ⟨fun hlt => ?_, fun hge => ?_⟩
  · rw [getD_nat hlt]
    refine ⟨by omega, hlt, hp.2 _ (List.getElem_mem hlt), fun hx => ?_, fun hx => ⟨by omega, hq hlt ?_⟩⟩
    · rw [idxF_some hlt hx hJ]
    · rw [take_succ_eq hlt, List.any_append, hJ]; simp [hx]
  · rw [List.take_of_length_le (by omega)] at hJ
    rw [idxF_none hJ]
def al_slices_ContainsFunc_int_int : AL (List Int × ((Int → Prop) × (Int → Bool))) := (.cons (.k (.list (.i .i64))) (.one (.fn [(.i .i64)] .bo)))
def pre_slices_ContainsFunc_int_int (d : List Int × ((Int → Prop) × (Int → Bool))) : Prop := d.1.length ≤ 1000000 ∧ ∀ x ∈ d.1, d.2.1 x
def res_slices_ContainsFunc_int_int (d : List Int × ((Int → Prop) × (Int → Bool))) : SV := .val .bo (d.1.any d.2.2)
def obs_slices_ContainsFunc_int_int (d : List Int × ((Int → Prop) × (Int → Bool))) : List OB := []
def s_slices_ContainsFunc_int_int : CSp := mkSp al_slices_ContainsFunc_int_int pre_slices_ContainsFunc_int_int res_slices_ContainsFunc_int_int obs_slices_ContainsFunc_int_int
def vc_slices_ContainsFunc_int_int (l : List Int) (p : (Int → Prop) × (Int → Bool)) : Prop :=
  (l.length ≤ 1000000 ∧ ∀ x ∈ l, (fun (x1 : Int) => p.1 x1) x) ∧ ((decide (idxF l (fun (x1 : Int) => (p.2 x1)) ≥ (0 : Int))) = (l.any p.2) ∧ (True))
def cx_slices_ContainsFunc_int_int : Cx := ⟨[], [(97, s_slices_IndexFunc_int_int)], 9, [], 0, [], []⟩
def lp_slices_ContainsFunc_int_int (l : List Int) (p : (Int → Prop) × (Int → Bool)) : List (Nat × LoopAnn) := []
set_option maxRecDepth 100000 in
theorem vq_slices_ContainsFunc_int_int (d : List Int × ((Int → Prop) × (Int → Bool))) : gwp (cx_slices_ContainsFunc_int_int) (lp_slices_ContainsFunc_int_int d.1 d.2) c85 0 (gend [.tmp 4] (res_slices_ContainsFunc_int_int d) (obs_slices_ContainsFunc_int_int d)) (gstart 9 (AL.can al_slices_ContainsFunc_int_int d)) = vc_slices_ContainsFunc_int_int d.1 d.2 := by kernel_rfl
abbrev Ok_slices_ContainsFunc_int_int : Prop := OkC Tryd.prog 85 s_slices_ContainsFunc_int_int
theorem mk_slices_ContainsFunc_int_int (h : ∀ (l : List Int) (p : (Int → Prop) × (Int → Bool)), (l.length ≤ 1000000 ∧ ∀ x ∈ l, p.1 x) → vc_slices_ContainsFunc_int_int l p) : OkC Tryd.prog 85 s_slices_ContainsFunc_int_int :=
  okC_vc fun85 mixed (C := cx_slices_ContainsFunc_int_int) (V := fun (d : List Int × ((Int → Prop) × (Int → Bool))) => vc_slices_ContainsFunc_int_int d.1 d.2) ⟨(.cons ok_slices_IndexFunc_int_int .nil), XsOk.nil, ItsOk.nil⟩ (vq_slices_ContainsFunc_int_int) fun d hp => h d.1 d.2 hp
theorem ok_slices_ContainsFunc_int_int : Ok_slices_ContainsFunc_int_int := mk_slices_ContainsFunc_int_int fun l p hp => by
  exact ⟨hp, idxF_nonneg l p.2, trivial⟩
def al_eye_within_1 : AL (Int × Int × Int) := (.cons (.k (.i .i64)) (.cons (.ptr (.one (.k (.i .i64)))) (.one (.ptr (.one (.k (.i .i64)))))))
def pre_eye_within_1 (d : Int × Int × Int) : Prop := True
def res_eye_within_1 (d : Int × Int × Int) : SV := .val .bo (decide (d.1 < d.2.1) || decide (d.2.2 < d.1))
def obs_eye_within_1 (d : Int × Int × Int) : List OB := []
def s_eye_within_1 : CSp := mkSp al_eye_within_1 pre_eye_within_1 res_eye_within_1 obs_eye_within_1
def vc_eye_within_1 (n : Int) (a : Int) (b : Int) : Prop :=
  (((decide (n < a)) || (decide (n > b))) = (decide (n < a) || decide (b < n)) ∧ (True))
def cx_eye_within_1 : Cx := ⟨[], [], 13, [], 0, [], []⟩
def lp_eye_within_1 (n : Int) (a : Int) (b : Int) : List (Nat × LoopAnn) := []
set_option maxRecDepth 100000 in
theorem vq_eye_within_1 (d : Int × Int × Int) : gwp (cx_eye_within_1) (lp_eye_within_1 d.1 d.2.1 d.2.2) c86 0 (gend [.tmp 4] (res_eye_within_1 d) (obs_eye_within_1 d)) (gstart 13 (AL.can al_eye_within_1 d)) = vc_eye_within_1 d.1 d.2.1 d.2.2 := by kernel_rfl
abbrev Ok_eye_within_1 : Prop := OkC Tryd.prog 86 s_eye_within_1
theorem mk_eye_within_1 (h : ∀ (n : Int) (a : Int) (b : Int), (True) → vc_eye_within_1 n a b) : OkC Tryd.prog 86 s_eye_within_1 :=
  okC_vc fun86 mixed (C := cx_eye_within_1) (V := fun (d : Int × Int × Int) => vc_eye_within_1 d.1 d.2.1 d.2.2) ⟨.nil, XsOk.nil, ItsOk.nil⟩ (vq_eye_within_1) fun d hp => h d.1 d.2.1 d.2.2 hp
theorem ok_eye_within_1 : Ok_eye_within_1 := mk_eye_within_1 fun n a b _ => by
  exact ⟨rfl, trivial⟩
def al_tie_within_1 : AL (Int × Int × Int) := (.cons (.k (.i .i64)) (.cons (.ptr (.one (.k (.i .i64)))) (.one (.ptr (.one (.k (.i .i64)))))))
def pre_tie_within_1 (d : Int × Int × Int) : Prop := True
def res_tie_within_1 (d : Int × Int × Int) : SV := .val .bo (decide (d.1 < d.2.1) || decide (d.2.2 < d.1))
def obs_tie_within_1 (d : Int × Int × Int) : List OB := []
def s_tie_within_1 : CSp := mkSp al_tie_within_1 pre_tie_within_1 res_tie_within_1 obs_tie_within_1
def vc_tie_within_1 (n : Int) (a : Int) (b : Int) : Prop :=
  (((decide (n < a)) || (decide (n > b))) = (decide (n < a) || decide (b < n)) ∧ (True))
def cx_tie_within_1 : Cx := ⟨[], [], 13, [], 0, [], []⟩
def lp_tie_within_1 (n : Int) (a : Int) (b : Int) : List (Nat × LoopAnn) := []
set_option maxRecDepth 100000 in
theorem vq_tie_within_1 (d : Int × Int × Int) : gwp (cx_tie_within_1) (lp_tie_within_1 d.1 d.2.1 d.2.2) c94 0 (gend [.tmp 4] (res_tie_within_1 d) (obs_tie_within_1 d)) (gstart 13 (AL.can al_tie_within_1 d)) = vc_tie_within_1 d.1 d.2.1 d.2.2 := by kernel_rfl
abbrev Ok_tie_within_1 : Prop := OkC Tryd.prog 94 s_tie_within_1
theorem mk_tie_within_1 (h : ∀ (n : Int) (a : Int) (b : Int), (True) → vc_tie_within_1 n a b) : OkC Tryd.prog 94 s_tie_within_1 :=
  okC_vc fun94 mixed (C := cx_tie_within_1) (V := fun (d : Int × Int × Int) => vc_tie_within_1 d.1 d.2.1 d.2.2) ⟨.nil, XsOk.nil, ItsOk.nil⟩ (vq_tie_within_1) fun d hp => h d.1 d.2.1 d.2.2 hp
theorem ok_tie_within_1 : Ok_tie_within_1 := mk_tie_within_1 fun n a b _ => by
  exact ⟨rfl, trivial⟩
def al_tie_within : AL (Int × Int × List Int) := (.cons (.k (.i .i64)) (.cons (.k (.i .i64)) (.one (.k (.list (.i .i64))))))
def pre_tie_within (d : Int × Int × List Int) : Prop := d.2.2.length ≤ 1000000
def res_tie_within (d : Int × Int × List Int) : SV := .val .bo (!(d.2.2.any fun n => decide (n < d.1) || decide (d.2.1 < n)))
def obs_tie_within (d : Int × Int × List Int) : List OB := []
def s_tie_within : CSp := mkSp al_tie_within pre_tie_within res_tie_within obs_tie_within
def vc_tie_within (a : Int) (b : Int) (l : List Int) : Prop :=
  (l.length ≤ 1000000 ∧ ∀ x ∈ l, (fun (x1 : Int) => True) x) ∧ ((!(l.any (fun (x1 : Int) => (decide (x1 < a) || decide (b < x1))))) = (!(l.any fun n => decide (n < a) || decide (b < n))) ∧ (True))
def cx_tie_within : Cx := ⟨[], [(85, s_slices_ContainsFunc_int_int), (94, s_tie_within_1)], 11, [], 0, [], []⟩
def lp_tie_within (a : Int) (b : Int) (l : List Int) : List (Nat × LoopAnn) := []
set_option maxRecDepth 100000 in
theorem vq_tie_within (d : Int × Int × List Int) : gwp (cx_tie_within) (lp_tie_within d.1 d.2.1 d.2.2) c79 0 (gend [.tmp 6] (res_tie_within d) (obs_tie_within d)) (gstart 11 (AL.can al_tie_within d)) = vc_tie_within d.1 d.2.1 d.2.2 := by kernel_rfl
abbrev Ok_tie_within : Prop := OkC Tryd.prog 79 s_tie_within
theorem mk_tie_within (h : ∀ (a : Int) (b : Int) (l : List Int), (l.length ≤ 1000000) → vc_tie_within a b l) : OkC Tryd.prog 79 s_tie_within :=
  okC_vc fun79 mixed (C := cx_tie_within) (V := fun (d : Int × Int × List Int) => vc_tie_within d.1 d.2.1 d.2.2) ⟨(.cons ok_slices_ContainsFunc_int_int (.cons ok_tie_within_1 .nil)), XsOk.nil, ItsOk.nil⟩ (vq_tie_within) fun d hp => h d.1 d.2.1 d.2.2 hp
theorem ok_tie_within : Ok_tie_within := mk_tie_within fun a b l h => by
  exact ⟨⟨h, fun _ _ => trivial⟩, rfl, trivial⟩
def al_eye_within : AL (Int × Int × List Int) := (.cons (.k (.i .i64)) (.cons (.k (.i .i64)) (.one (.k (.list (.i .i64))))))
def pre_eye_within (d : Int × Int × List Int) : Prop := d.2.2.length ≤ 1000000
def res_eye_within (d : Int × Int × List Int) : SV := .val .bo (!(d.2.2.any fun n => decide (n < d.1) || decide (d.2.1 < n)))
def obs_eye_within (d : Int × Int × List Int) : List OB := []
def s_eye_within : CSp := mkSp al_eye_within pre_eye_within res_eye_within obs_eye_within
def vc_eye_within (a : Int) (b : Int) (l : List Int) : Prop :=
  (l.length ≤ 1000000 ∧ ∀ x ∈ l, (fun (x1 : Int) => True) x) ∧ ((!(l.any (fun (x1 : Int) => (decide (x1 < a) || decide (b < x1))))) = (!(l.any fun n => decide (n < a) || decide (b < n))) ∧ (True))
def cx_eye_within : Cx := ⟨[], [(85, s_slices_ContainsFunc_int_int), (86, s_eye_within_1)], 11, [], 0, [], []⟩
def lp_eye_within (a : Int) (b : Int) (l : List Int) : List (Nat × LoopAnn) := []
set_option maxRecDepth 100000 in
theorem vq_eye_within (d : Int × Int × List Int) : gwp (cx_eye_within) (lp_eye_within d.1 d.2.1 d.2.2) c66 0 (gend [.tmp 6] (res_eye_within d) (obs_eye_within d)) (gstart 11 (AL.can al_eye_within d)) = vc_eye_within d.1 d.2.1 d.2.2 := by kernel_rfl
abbrev Ok_eye_within : Prop := OkC Tryd.prog 66 s_eye_within
theorem mk_eye_within (h : ∀ (a : Int) (b : Int) (l : List Int), (l.length ≤ 1000000) → vc_eye_within a b l) : OkC Tryd.prog 66 s_eye_within :=
  okC_vc fun66 mixed (C := cx_eye_within) (V := fun (d : Int × Int × List Int) => vc_eye_within d.1 d.2.1 d.2.2) ⟨(.cons ok_slices_ContainsFunc_int_int (.cons ok_eye_within_1 .nil)), XsOk.nil, ItsOk.nil⟩ (vq_eye_within) fun d hp => h d.1 d.2.1 d.2.2 hp
theorem ok_eye_within : Ok_eye_within := mk_eye_within fun a b l h => by
  exact ⟨⟨h, fun _ _ => trivial⟩, rfl, trivial⟩
def al_tie_Check : AL (Int × List Int) := (.one (.agg (.cons (.k (.i .i64)) (.one (.k (.list (.i .i64)))))))
def pre_tie_Check (d : Int × List Int) : Prop := d.2.length ≤ 1000000
def res_tie_Check (d : Int × List Int) : SV := .val (.i .i64) (tieErr d.1 d.2)
def obs_tie_Check (d : Int × List Int) : List OB := []
def s_tie_Check : CSp := mkSp al_tie_Check pre_tie_Check res_tie_Check obs_tie_Check
def vc_tie_Check (hk : Int) (lw : List Int) : Prop :=
  ([hk].length ≤ 1000000) ∧ ((!(!([hk].any fun n => decide (n < (1 : Int)) || decide ((24 : Int) < n)))) = true →
    ((2 : Int) = tieErr hk lw ∧ (True))) ∧
  ((!(!([hk].any fun n => decide (n < (1 : Int)) || decide ((24 : Int) < n)))) = false →
    ((decide ((((List.length lw) : Nat) : Int) > (96 : Int))) = true →
      ((5 : Int) = tieErr hk lw ∧ (True))) ∧
    ((decide ((((List.length lw) : Nat) : Int) > (96 : Int))) = false →
      (((((List.length lw) : Nat) : Int) == (0 : Int)) = true →
        ((7 : Int) = tieErr hk lw ∧ (True))) ∧
      (((((List.length lw) : Nat) : Int) == (0 : Int)) = false →
        (InK .i64 (hk - (1 : Int))) ∧ (lw.length ≤ 1000000) ∧ ((!(!(lw.any fun n => decide (n < (0 : Int)) || decide ((hk - (1 : Int)) < n)))) = true →
          ((2 : Int) = tieErr hk lw ∧ (True))) ∧
        ((!(!(lw.any fun n => decide (n < (0 : Int)) || decide ((hk - (1 : Int)) < n)))) = false →
          ((0 : Int) = tieErr hk lw ∧ (True))))))
def cx_tie_Check : Cx := ⟨[(3, (.i .i64))], [(79, s_tie_within)], 27, [], 0, [], []⟩
def lp_tie_Check (hk : Int) (lw : List Int) : List (Nat × LoopAnn) := []
set_option maxRecDepth 100000 in
theorem vq_tie_Check (d : Int × List Int) : gwp (cx_tie_Check) (lp_tie_Check d.1 d.2) c62 0 (gend [.tmp 2] (res_tie_Check d) (obs_tie_Check d)) (gstart 27 (AL.can al_tie_Check d)) = vc_tie_Check d.1 d.2 := by kernel_rfl
abbrev Ok_tie_Check : Prop := OkC Tryd.prog 62 s_tie_Check
theorem mk_tie_Check (h : ∀ (hk : Int) (lw : List Int), (lw.length ≤ 1000000) → vc_tie_Check hk lw) : OkC Tryd.prog 62 s_tie_Check :=
  okC_vc fun62 mixed (C := cx_tie_Check) (V := fun (d : Int × List Int) => vc_tie_Check d.1 d.2) ⟨(.cons ok_tie_within .nil), XsOk.nil, ItsOk.nil⟩ (vq_tie_Check) fun d hp => h d.1 d.2 hp
theorem nI (n a b : Int) : (!inI n a b) = (decide (n < a) || decide (b < n)) := by
  simp only [inI, Bool.not_and]
  by_cases h1 : a ≤ n <;> by_cases h2 : n ≤ b <;> simp [h1, h2] <;> omega
theorem ok_tie_Check : Ok_tie_Check := mk_tie_Check fun hk lw hl => by
  simp only [vc_tie_Check, and_true, decide_eq_true_eq, decide_eq_false_iff_not, beq_iff_eq, ne_eq, beq_eq_false_iff_ne, gt_iff_lt, Bool.not_not]
  simp only [← nI]
  refine ⟨by simp, fun h1 => by simp at h1; simp [tieErr, h1], fun h1 => ⟨fun h2 => ?_, fun h2 => ⟨fun h3 => ?_, fun h3 => ?_⟩⟩⟩
  all_goals simp only [List.any_cons, List.any_nil, Bool.or_false, Bool.not_eq_false'] at h1
  · have : 96 < lw.length := by omega
    simp [tieErr, h1, this]
  · have h3 : lw.length = 0 := by omega
    simp [tieErr, h1, h3]
  have h2' : ¬ 96 < lw.length := by omega
  have h3' : ¬ lw.length = 0 := by omega
  have hi : 1 ≤ hk ∧ hk ≤ 24 := by simpa [inI] using h1
  have hte : tieErr hk lw = if lw.any (fun x => !inI x 0 (hk - 1)) then 2 else 0 := by simp only [tieErr, h1, h2', h3']; simp
  rw [hte]
  simp only [InK_i64]
  refine ⟨by omega, by omega, fun h => by rw [if_pos h], fun h => by rw [h]; rfl⟩
def al_eye_Check : AL ((Int × List Int) × List Int) := (.cons (.agg (.cons (.k (.i .i64)) (.one (.k (.list (.i .i64)))))) (.one (.k (.list (.i .i64)))))
def pre_eye_Check (d : (Int × List Int) × List Int) : Prop := d.1.2.length ≤ 110 ∧ d.2.length ≤ 110
def res_eye_Check (d : (Int × List Int) × List Int) : SV := .val (.i .i64) (eyeErr d.1.1 d.1.2 d.2)
def obs_eye_Check (d : (Int × List Int) × List Int) : List OB := []
def s_eye_Check : CSp := mkSp al_eye_Check pre_eye_Check res_eye_Check obs_eye_Check
def vc_eye_Check (hk : Int) (lw : List Int) (l : List Int) : Prop :=
  (lw.length ≤ 1000000) ∧ ((tieErr hk lw != (0 : Int)) = true →
    (tieErr hk lw = eyeErr hk lw l ∧ (True))) ∧
  ((tieErr hk lw != (0 : Int)) = false →
    (((((List.length l) : Nat) : Int) != (((List.length lw) : Nat) : Int)) = true →
      ((4 : Int) = eyeErr hk lw l ∧ (True))) ∧
    (((((List.length l) : Nat) : Int) != (((List.length lw) : Nat) : Int)) = false →
      (InK .i64 ((((List.length lw) : Nat) : Int) - (1 : Int))) ∧ (l.length ≤ 1000000) ∧ ((!(!(l.any fun n => decide (n < (-1 : Int)) || decide (((((List.length lw) : Nat) : Int) - (1 : Int)) < n)))) = true →
        ((2 : Int) = eyeErr hk lw l ∧ (True))) ∧
      ((!(!(l.any fun n => decide (n < (-1 : Int)) || decide (((((List.length lw) : Nat) : Int) - (1 : Int)) < n)))) = false →
        ((0 : Int) = eyeErr hk lw l ∧ (True)))))
def cx_eye_Check : Cx := ⟨[], [(62, s_tie_Check), (66, s_eye_within)], 26, [], 0, [], []⟩
def lp_eye_Check (hk : Int) (lw : List Int) (l : List Int) : List (Nat × LoopAnn) := []
set_option maxRecDepth 100000 in
theorem vq_eye_Check (d : (Int × List Int) × List Int) : gwp (cx_eye_Check) (lp_eye_Check d.1.1 d.1.2 d.2) c45 0 (gend [.tmp 4] (res_eye_Check d) (obs_eye_Check d)) (gstart 26 (AL.can al_eye_Check d)) = vc_eye_Check d.1.1 d.1.2 d.2 := by kernel_rfl
abbrev Ok_eye_Check : Prop := OkC Tryd.prog 45 s_eye_Check
theorem mk_eye_Check (h : ∀ (hk : Int) (lw : List Int) (l : List Int), (lw.length ≤ 110 ∧ l.length ≤ 110) → vc_eye_Check hk lw l) : OkC Tryd.prog 45 s_eye_Check :=
  okC_vc fun45 mixed (C := cx_eye_Check) (V := fun (d : (Int × List Int) × List Int) => vc_eye_Check d.1.1 d.1.2 d.2) ⟨(.cons ok_tie_Check (.cons ok_eye_within .nil)), XsOk.nil, ItsOk.nil⟩ (vq_eye_Check) fun d hp => h d.1.1 d.1.2 d.2 hp
theorem ok_eye_Check : Ok_eye_Check := mk_eye_Check fun hk lw l hl => by
  simp only [vc_eye_Check, and_true, bne_iff_ne, ne_eq, bne_eq_false_iff_eq, Bool.not_not]
  simp only [← nI]
  refine ⟨by omega, fun h1 => by simp [eyeErr, h1], fun h1 => ⟨fun h2 => ?_, fun h2 => ?_⟩⟩
  · have : ¬ l.length = lw.length := by omega
    simp [eyeErr, h1, this]
  have h2 : l.length = lw.length := by omega
  have hte : eyeErr hk lw l = if l.any (fun x => !inI x (-1) (lw.length - 1)) then 2 else 0 := by simp [eyeErr, h1, h2]
  rw [hte]
  simp only [InK_i64]
  refine ⟨by omega, by omega, fun h => by rw [if_pos h], fun h => by rw [h]; rfl⟩
def al_law11_large : AL ((Int × List Int) × List Int × Int × List Int) := (.cons (.agg (.cons (.k (.i .i64)) (.one (.k (.list (.i .i64)))))) (.cons (.k (.list (.i .i64))) (.one (.agg (.cons (.k (.i .i64)) (.one (.k (.list (.i .i64)))))))))
def pre_law11_large (d : (Int × List Int) × List Int × Int × List Int) : Prop := True
def res_law11_large (d : (Int × List Int) × List Int × Int × List Int) : SV := .val .bo (decide (110 < d.1.2.length) || decide (110 < d.2.1.length) || decide (70 < d.2.2.2.length))
def obs_law11_large (d : (Int × List Int) × List Int × Int × List Int) : List OB := []
def s_law11_large : CSp := mkSp al_law11_large pre_law11_large res_law11_large obs_law11_large
def vc_law11_large (hk : Int) (lw : List Int) (l : List Int) (hk1 : Int) (rows : List Int) : Prop :=
  ((((decide ((((List.length lw) : Nat) : Int) > (110 : Int))) || (decide ((((List.length l) : Nat) : Int) > (110 : Int)))) || (decide ((((List.length rows) : Nat) : Int) > (70 : Int)))) = (decide (110 < lw.length) || decide (110 < l.length) || decide (70 < rows.length)) ∧ (True))
def cx_law11_large : Cx := ⟨[], [], 22, [], 0, [], []⟩
def lp_law11_large (hk : Int) (lw : List Int) (l : List Int) (hk1 : Int) (rows : List Int) : List (Nat × LoopAnn) := []
set_option maxRecDepth 100000 in
theorem vq_law11_large (d : (Int × List Int) × List Int × Int × List Int) : gwp (cx_law11_large) (lp_law11_large d.1.1 d.1.2 d.2.1 d.2.2.1 d.2.2.2) c11 0 (gend [.tmp 6] (res_law11_large d) (obs_law11_large d)) (gstart 22 (AL.can al_law11_large d)) = vc_law11_large d.1.1 d.1.2 d.2.1 d.2.2.1 d.2.2.2 := by kernel_rfl
abbrev Ok_law11_large : Prop := OkC Tryd.prog 11 s_law11_large
theorem mk_law11_large (h : ∀ (hk : Int) (lw : List Int) (l : List Int) (hk1 : Int) (rows : List Int), (True) → vc_law11_large hk lw l hk1 rows) : OkC Tryd.prog 11 s_law11_large :=
  okC_vc fun11 mixed (C := cx_law11_large) (V := fun (d : (Int × List Int) × List Int × Int × List Int) => vc_law11_large d.1.1 d.1.2 d.2.1 d.2.2.1 d.2.2.2) ⟨.nil, XsOk.nil, ItsOk.nil⟩ (vq_law11_large) fun d hp => h d.1.1 d.1.2 d.2.1 d.2.2.1 d.2.2.2 hp
theorem ok_law11_large : Ok_law11_large := mk_law11_large fun hk lw l hk1 rows _ => by
  simp only [vc_law11_large, and_true, gt_iff_lt]
  congr 1
  · congr 1
    · simp only [decide_eq_decide]; omega
    · simp only [decide_eq_decide]; omega
  · simp only [decide_eq_decide]; omega
def al_slices_Reverse_int_int : AL (Unit) := .nil
def pre_slices_Reverse_int_int (xs : List Int) (nl : Bool) (d : Unit) : Prop := xs.length ≤ 1000000
def res_slices_Reverse_int_int (xs : List Int) (nl : Bool) (d : Unit) : SV := .tup []
def post_slices_Reverse_int_int (xs : List Int) (nl : Bool) (d : Unit) : List Int := (List.reverse xs)
def x_slices_Reverse_int_int : XSp := lentX apNone (lentL 3 (.i .i64) al_slices_Reverse_int_int pre_slices_Reverse_int_int res_slices_Reverse_int_int post_slices_Reverse_int_int)
def vc_slices_Reverse_int_int (xs : List Int) (nl : Bool)  : Prop := ∀ vals : List Value,
  (InK .i64 ((((List.length xs) : Nat) : Int) - (1 : Int))) ∧ ∃ (e3 : Unit) (d30 : List Int × Int × Int), ((True ∧ (0 : Int) = d30.2.1 ∧ ((((List.length xs) : Nat) : Int) - (1 : Int)) = d30.2.2 ∧ True) ∧ ((xs = d30.1 ∧ nl = nl) ∧ (vals = vals ∧ (True ∧ (([] : List SV) = []))) ∧ True)) ∧
  LoopP (fun (d3 : List Int × Int × Int) (q3 : (List Int × Int × Int) → Prop) =>
    ((decide (d3.2.1 < d3.2.2)) = true →
      (0 ≤ d3.2.2) ∧ (d3.2.2 < (List.length d3.1)) ∧ (0 ≤ d3.2.1) ∧ (d3.2.1 < (List.length d3.1)) ∧ (0 ≤ d3.2.1) ∧ (d3.2.1 < (List.length d3.1)) ∧ (0 ≤ d3.2.2) ∧ (d3.2.2 < (List.length (List.set d3.1 (Int.toNat d3.2.1) (List.getD d3.1 (Int.toNat d3.2.2) 0)))) ∧ (InK .i64 (d3.2.1 + (1 : Int))) ∧ (InK .i64 (d3.2.2 - (1 : Int))) ∧ (∃ d4 : List Int × Int × Int, ((True ∧ (d3.2.1 + (1 : Int)) = d4.2.1 ∧ (d3.2.2 - (1 : Int)) = d4.2.2 ∧ True) ∧ (((List.set (List.set d3.1 (Int.toNat d3.2.1) (List.getD d3.1 (Int.toNat d3.2.2) 0)) (Int.toNat d3.2.2) (List.getD d3.1 (Int.toNat d3.2.1) 0)) = d4.1 ∧ nl = nl) ∧ (vals = vals ∧ (True ∧ (([] : List SV) = []))) ∧ True)) ∧ q3 d4)) ∧
    ((decide (d3.2.1 < d3.2.2)) = false →
      (vals = vals ∧ (True ∧ (([] : List SV) = [])) ∧ ((([] : List SV) = [])) ∧ (d3.1 = (List.reverse xs) ∧ nl = nl)))) d30
def cx_slices_Reverse_int_int : Cx := ⟨[], [], 28, [], 0, [], []⟩
def lp_slices_Reverse_int_int (xs : List Int) (nl : Bool)  (vals : List Value) : List (Nat × LoopAnn) := [(0, ⟨Unit, List Int × Int × Int, [0, 2, 3], fun e x => [.lst 0, .val (.i .i64) x.2.1, .val (.i .i64) x.2.2], fun e x => [(0, .slot 0, .lst 3 (.i .i64) x.1 nl), (4000000, .key 4000000, .stk [.lst 0] vals)]⟩)]
set_option maxRecDepth 100000 in
theorem vq_slices_Reverse_int_int (xs : List Int) (nl : Bool) (d : Unit) : (∀ vals, gwp cx_slices_Reverse_int_int (lp_slices_Reverse_int_int xs nl  vals) c49 0 (lendK vals [] (res_slices_Reverse_int_int xs nl d) (.lst 3 (.i .i64) (post_slices_Reverse_int_int xs nl d) nl) (.lst 0)) (lstart 28 (.lst 0) (.lst 3 (.i .i64) xs nl) vals (AL.can al_slices_Reverse_int_int d))) = vc_slices_Reverse_int_int xs nl  := by kernel_rfl
abbrev Ok_slices_Reverse_int_int : Prop := XOk Tryd.prog 49 x_slices_Reverse_int_int
theorem mk_slices_Reverse_int_int (h : ∀ (xs : List Int) (nl : Bool) , (xs.length ≤ 1000000) → vc_slices_Reverse_int_int xs nl ) : XOk Tryd.prog 49 x_slices_Reverse_int_int :=
  lentL_ok fun49 mixed apNone_ok (C := cx_slices_Reverse_int_int) ⟨.nil, XsOk.nil, ItsOk.nil⟩ (L := fun xs nl (d : Unit) vals => lp_slices_Reverse_int_int xs nl  vals) (V := fun xs nl (d : Unit) => vc_slices_Reverse_int_int xs nl ) vq_slices_Reverse_int_int fun xs nl d hp => h xs nl  hp
theorem okx_slices_Reverse_int_int : Ok_slices_Reverse_int_int := mk_slices_Reverse_int_int fun xs nl hl vals => by
  simp only [true_and, and_true, exists_const, decide_eq_true_eq, decide_eq_false_iff_not, InK_i64]
  refine ⟨by omega, (xs, 0, (xs.length : Int) - 1), ⟨⟨rfl, rfl⟩, rfl⟩, ?_⟩
  refine ⟨fun d => ∃ i : Nat, d.2.1 = i ∧ d.2.2 = (xs.length : Int) - 1 - i ∧ 2 * i ≤ xs.length + 1 ∧ d.1.length = xs.length ∧ ∀ k, k < xs.length → d.1[k]? = if k < i ∨ xs.length ≤ k + i then xs[xs.length - 1 - k]? else xs[k]?, fun d => xs.length - 2 * d.2.1.toNat, ⟨0, rfl, by simp, by omega, rfl, fun k hk => by rw [if_neg (by omega)]⟩, ?_⟩
  rintro ⟨ys, a, b⟩ ⟨i, ha, hb, h1, h2, h3⟩
  simp only at ha hb h2 h3
  subst ha; subst hb
  refine ⟨fun hlt => ?_, fun hge => ?_⟩
  · dsimp only at hlt ⊢
    have hi : i < xs.length := by omega
    have hj : xs.length - 1 - i < xs.length := by omega
    have hjt : ((xs.length : Int) - 1 - i).toNat = xs.length - 1 - i := by omega
    simp only [Int.toNat_natCast, hjt, List.length_set, h2]
    refine ⟨by omega, by omega, by omega, by omega, by omega, by omega, by omega, by omega, by omega, by omega, (_, _, _), ⟨⟨rfl, rfl⟩, rfl⟩, ⟨i + 1, by simp, by simp; omega, by omega, by simp [h2], fun k hk => ?_⟩, by simp; omega⟩
    simp only [List.getElem?_set, List.length_set, h2]
    have e1 := h3 i hi
    have e2 := h3 (xs.length - 1 - i) hj
    rw [if_neg (by omega)] at e1 e2
    have g1 : ys.getD i 0 = xs[i] := by rw [List.getD_eq_getElem?_getD, e1, List.getElem?_eq_getElem hi]; rfl
    have g2 : ys.getD (xs.length - 1 - i) 0 = xs[xs.length - 1 - i] := by rw [List.getD_eq_getElem?_getD, e2, List.getElem?_eq_getElem hj]; rfl
    rw [g1, g2]
    by_cases k1 : xs.length - 1 - i = k
    · subst k1
      rw [if_pos rfl, if_pos hj, if_pos (by omega)]
      have : xs.length - 1 - (xs.length - 1 - i) = i := by omega
      rw [this, List.getElem?_eq_getElem hi]
    · rw [if_neg k1]
      by_cases k2 : i = k
      · subst k2
        rw [if_pos rfl, if_pos hi, if_pos (by omega), List.getElem?_eq_getElem hj]
      · rw [if_neg k2, h3 k hk]
        by_cases k3 : k < i ∨ xs.length ≤ k + i
        · rw [if_pos k3, if_pos (by omega)]
        · rw [if_neg k3, if_neg (by omega)]
  · dsimp only at hge ⊢
    apply List.ext_getElem?
    intro k
    by_cases hk : k < xs.length
    · rw [h3 k hk, List.getElem?_reverse hk]
      by_cases k3 : k < i ∨ xs.length ≤ k + i
      · rw [if_pos k3]
      · rw [if_neg k3]
        have : xs.length - 1 - k = k := by omega
        rw [this]
    · rw [List.getElem?_eq_none (by omega), List.getElem?_eq_none (by simp; omega)]
end Go.Proofs.Tryd

namespace Go.V
open Go
theorem ret_true {P : Program} {σ : Heap} : Ret P σ (.val .bo true) [] (.bool true) σ :=
  ⟨⟨.refl _, Dead.refl _⟩, fun _ => rfl, noPl, fun j b hj => by simp at hj, fun j j' i hj => by simp at hj, by simp [SR, KC]⟩
theorem okC_true {P : Program} {f : Nat} (h : ∀ (σ : Heap) (K : Value → Heap → Prop), K (.bool true) σ → VCalled P f [] σ K) : OkC P f (mkSp (.nil : AL Unit) (fun _ => True) (fun _ => .val .bo true) (fun _ => [])) := by
  intro ap hap σ args vs c v bs hargs hs hv hbs hc
  unfold mkSp at hs
  split at hs
  · rename_i d hd
    obtain ⟨rfl, rfl, rfl⟩ := (by simpa using hs : True = c ∧ SV.val .bo true = v ∧ [] = bs)
    have : vs = [] := by
      cases args with
      | nil => simpa [SRs] using hargs
      | cons a l => simp [AL.dec] at hd
    subst this
    refine ⟨h σ _ ret_true, fun _ _ => h σ _ ⟨rfl, ?_⟩⟩
    unfold canH
    cases σ
    simp only [List.length_nil, Nat.add_zero, List.getElem?_nil, Option.bind_none, Heap.mk.injEq, and_true]
    funext i
    split
    · rfl
    · rename_i wf hi; exact wf i (by simpa using hi)
  · cases hs
end Go.V

namespace Go.V
open Go
inductive EB where
  | cells (c : List Value) (esz : El) (wr tight : Bool)
  | map (es : List MEnt) (clock : Nat) (wr : Bool)
  | iter (m since : Nat) (seen : List Nat) (last : Nat)
  | lp (st : LoopState) (pend : Option Code)
inductive GT (α : Type) where
  | nil
  | node (v : α) (l r : GT α)
noncomputable def GT.get {α : Type} (d : α) (t : GT α) : Nat → α :=
  GT.rec (motive := fun _ => Nat → α) (fun _ => d)
    (fun v _ _ gl gr i => Bool.rec (motive := fun _ => α) (Bool.rec (motive := fun _ => α) (gr (i / 2 - 1)) (gl (i / 2)) (Nat.beq (i % 2) 1)) v (Nat.beq i 0)) t
noncomputable def GT.set {α : Type} (d : α) (f : Nat) : GT α → Nat → α → GT α :=
  Nat.rec (motive := fun _ => GT α → Nat → α → GT α) (fun t _ _ => t)
    (fun _ ih t i b => GT.rec (motive := fun _ => GT α)
      (Bool.rec (motive := fun _ => GT α) (Bool.rec (motive := fun _ => GT α) (.node d .nil (ih .nil (i / 2 - 1) b)) (.node d (ih .nil (i / 2) b) .nil) (Nat.beq (i % 2) 1)) (.node b .nil .nil) (Nat.beq i 0))
      (fun v l r _ _ => Bool.rec (motive := fun _ => GT α) (Bool.rec (motive := fun _ => GT α) (.node v l (ih r (i / 2 - 1) b)) (.node v (ih l (i / 2) b) r) (Nat.beq (i % 2) 1)) (.node b l r) (Nat.beq i 0)) t) f
theorem GT.get_node {α : Type} (d v : α) (l r : GT α) (k : Nat) : (GT.node v l r).get d k = if k = 0 then v else if k % 2 = 1 then l.get d (k / 2) else r.get d (k / 2 - 1) := by
  show (Bool.rec (motive := fun _ => α) (Bool.rec (motive := fun _ => α) (r.get d (k / 2 - 1)) (l.get d (k / 2)) (Nat.beq (k % 2) 1)) v (Nat.beq k 0)) = _
  by_cases h0 : k = 0
  · subst h0; rfl
  · have : Nat.beq k 0 = false := by
      cases h : Nat.beq k 0 with
      | false => rfl
      | true => exact absurd (Nat.eq_of_beq_eq_true h) h0
    rw [this, if_neg h0]
    by_cases h1 : k % 2 = 1
    · rw [if_pos h1, h1]; rfl
    · have : Nat.beq (k % 2) 1 = false := by
        cases h : Nat.beq (k % 2) 1 with
        | false => rfl
        | true => exact absurd (Nat.eq_of_beq_eq_true h) h1
      rw [this, if_neg h1]
theorem GT.set_node {α : Type} (d v : α) (f : Nat) (l r : GT α) (i : Nat) (b : α) : (GT.node v l r).set d (f + 1) i b = if i = 0 then .node b l r else if i % 2 = 1 then .node v (l.set d f (i / 2) b) r else .node v l (r.set d f (i / 2 - 1) b) := by
  show (Bool.rec (motive := fun _ => GT α) (Bool.rec (motive := fun _ => GT α) (.node v l (r.set d f (i / 2 - 1) b)) (.node v (l.set d f (i / 2) b) r) (Nat.beq (i % 2) 1)) (.node b l r) (Nat.beq i 0)) = _
  by_cases h0 : i = 0
  · subst h0; rfl
  · have : Nat.beq i 0 = false := by
      cases h : Nat.beq i 0 with
      | false => rfl
      | true => exact absurd (Nat.eq_of_beq_eq_true h) h0
    rw [this, if_neg h0]
    by_cases h1 : i % 2 = 1
    · rw [if_pos h1, h1]; rfl
    · have : Nat.beq (i % 2) 1 = false := by
        cases h : Nat.beq (i % 2) 1 with
        | false => rfl
        | true => exact absurd (Nat.eq_of_beq_eq_true h) h1
      rw [this, if_neg h1]
theorem GT.set_nil {α : Type} (d : α) (f i : Nat) (b : α) : (GT.nil : GT α).set d (f + 1) i b = (GT.node d .nil .nil).set d (f + 1) i b := rfl
theorem GT.get_set {α : Type} (d : α) : ∀ (f : Nat) (t : GT α) (i : Nat) (b : α) (j : Nat), i + 1 < 2 ^ f → (t.set d f i b).get d j = if j = i then b else t.get d j := by
  intro f
  induction f with
  | zero => intro t i b j h; simp at h
  | succ f ih =>
    intro t i b j h
    have hp : 2 ^ (f + 1) = 2 * 2 ^ f := by rw [Nat.pow_succ]; omega
    have nodeset : ∀ v l r, ((GT.node v l r).set d (f + 1) i b).get d j = if j = i then b else (GT.node v l r).get d j := by
      intro v l r
      rw [GT.set_node]
      by_cases hi : i = 0
      · subst hi
        rw [if_pos rfl, GT.get_node, GT.get_node]
        split <;> rfl
      · rw [if_neg hi]
        by_cases ho : i % 2 = 1
        · rw [if_pos ho, GT.get_node, GT.get_node, ih _ _ _ _ (by omega)]
          by_cases hj0 : j = 0
          · subst hj0; rw [if_pos rfl, if_neg (Ne.symm hi), if_pos rfl]
          · rw [if_neg hj0, if_neg hj0]
            by_cases hjo : j % 2 = 1
            · rw [if_pos hjo, if_pos hjo]
              by_cases hji : j = i
              · subst hji; simp
              · rw [if_neg hji, if_neg (by omega)]
            · rw [if_neg hjo, if_neg hjo, if_neg (by rintro rfl; exact hjo ho)]
        · rw [if_neg ho, GT.get_node, GT.get_node, ih _ _ _ _ (by omega)]
          by_cases hj0 : j = 0
          · subst hj0; rw [if_pos rfl, if_neg (Ne.symm hi), if_pos rfl]
          · rw [if_neg hj0, if_neg hj0]
            by_cases hjo : j % 2 = 1
            · rw [if_pos hjo, if_pos hjo, if_neg (by rintro rfl; exact ho hjo)]
            · rw [if_neg hjo, if_neg hjo]
              by_cases hji : j = i
              · subst hji; simp
              · rw [if_neg hji, if_neg (by omega)]
    cases t with
    | node v l r => exact nodeset v l r
    | nil =>
      rw [GT.set_nil, nodeset d .nil .nil, GT.get_node]
      split
      · rfl
      · split
        · rfl
        · split <;> rfl
structure CH where
  t : GT (Option EB)
  n : Nat
noncomputable def CH.get (h : CH) (i : Nat) : Option EB := Bool.rec (motive := fun _ => Option EB) none (h.t.get none i) (Nat.blt i h.n)
noncomputable def CH.upd (h : CH) (i : Nat) (b : EB) : CH := ⟨h.t.set none 32 i (some b), h.n⟩
noncomputable def CH.kill (h : CH) (i : Nat) : CH := ⟨h.t.set none 32 i none, h.n⟩
noncomputable def CH.push (h : CH) (b : EB) : CH := ⟨h.t.set none 32 h.n (some b), h.n + 1⟩
def CH.room (h : CH) : Bool := Nat.ble h.n 1000000000
def CH.empty : CH := ⟨.nil, 0⟩
theorem CH.get_lt {h : CH} {i : Nat} (hi : i < h.n) : h.get i = h.t.get none i := by
  unfold CH.get
  rw [show Nat.blt i h.n = true from Nat.ble_eq_true_of_le hi]
theorem CH.get_ge {h : CH} {i : Nat} (hi : h.n ≤ i) : h.get i = none := by
  unfold CH.get
  cases hb : Nat.blt i h.n with
  | false => rfl
  | true => have := Nat.le_of_ble_eq_true hb; omega
theorem CH.get_upd {h : CH} {i : Nat} {b : EB} (hi : i < h.n) (hs : h.n ≤ 1000000001) (j : Nat) : (h.upd i b).get j = if j = i then some b else h.get j := by
  rcases Nat.lt_or_ge j h.n with hj | hj
  · rw [CH.get_lt (h := h.upd i b) hj, CH.get_lt hj]; exact GT.get_set none 32 _ _ _ _ (by omega)
  · rw [CH.get_ge (h := h.upd i b) hj, CH.get_ge hj, if_neg (by omega)]
theorem CH.get_kill {h : CH} {i : Nat} (hi : i < h.n) (hs : h.n ≤ 1000000001) (j : Nat) : (h.kill i).get j = if j = i then none else h.get j := by
  rcases Nat.lt_or_ge j h.n with hj | hj
  · rw [CH.get_lt (h := h.kill i) hj, CH.get_lt hj]; exact GT.get_set none 32 _ _ _ _ (by omega)
  · rw [CH.get_ge (h := h.kill i) hj, CH.get_ge hj]; simp
theorem CH.get_push {h : CH} {b : EB} (hs : h.n ≤ 1000000001) (j : Nat) : (h.push b).get j = if j = h.n then some b else h.get j := by
  rcases Nat.lt_or_ge j (h.n + 1) with hj | hj
  · rw [CH.get_lt (h := h.push b) hj]
    show (h.t.set none 32 h.n (some b)).get none j = _
    rw [GT.get_set none 32 _ _ _ _ (by omega)]
    split
    · rfl
    · rw [CH.get_lt (by omega)]
  · rw [CH.get_ge (h := h.push b) hj, CH.get_ge (by omega), if_neg (by omega)]
def EB.to (q : Env × Loop) : EB → Blk
  | .cells c e w t => .cells c e w t
  | .map es cl w => .obj (.map es cl) w
  | .iter m s sn l => .obj (.iter m s sn l) true
  | .lp st pend => .obj (.lp q.1 q.2 st pend) true
structure CSim (rs : Nat → Env × Loop) (h : CH) (σ : Heap) : Prop where
  n : h.n = σ.n
  sm : h.n ≤ 1000000001
  get : ∀ i, σ.get i = (h.get i).map (EB.to (rs i))
theorem CSim.cells {rs : Nat → Env × Loop} {h : CH} {σ : Heap} (hs : CSim rs h σ) {i : Nat} {c : List Value} {e : El} {w t : Bool} (hg : h.get i = some (.cells c e w t)) : σ.get i = some (.cells c e w t) := by rw [hs.get, hg]; rfl
theorem CSim.map {rs : Nat → Env × Loop} {h : CH} {σ : Heap} (hs : CSim rs h σ) {i : Nat} {es : List MEnt} {cl : Nat} {w : Bool} (hg : h.get i = some (.map es cl w)) : σ.get i = some (.obj (.map es cl) w) := by rw [hs.get, hg]; rfl
theorem CSim.iter {rs : Nat → Env × Loop} {h : CH} {σ : Heap} (hs : CSim rs h σ) {i m s : Nat} {sn : List Nat} {l : Nat} (hg : h.get i = some (.iter m s sn l)) : σ.get i = some (.obj (.iter m s sn l) true) := by rw [hs.get, hg]; rfl
theorem CSim.lp {rs : Nat → Env × Loop} {h : CH} {σ : Heap} (hs : CSim rs h σ) {i : Nat} {st : LoopState} {pend : Option Code} (hg : h.get i = some (.lp st pend)) : σ.get i = some (.obj (.lp (rs i).1 (rs i).2 st pend) true) := by rw [hs.get, hg]; rfl
theorem CSim.lt {rs : Nat → Env × Loop} {h : CH} {σ : Heap} (hs : CSim rs h σ) {i : Nat} {b : EB} (hg : h.get i = some b) : i < h.n := by
  have : σ.get i = some (b.to (rs i)) := by rw [hs.get, hg]; rfl
  rw [hs.n]; exact σ.lt this
theorem CSim.upd {rs : Nat → Env × Loop} {h : CH} {σ : Heap} (hs : CSim rs h σ) {i : Nat} (hi : i < h.n) {b : EB} {b' : Blk} (hb : b.to (rs i) = b') : CSim rs (h.upd i b) (σ.upd i b') := by
  refine ⟨hs.n, hs.sm, fun j => ?_⟩
  rw [CH.get_upd hi hs.sm]
  show (if j = i ∧ i < σ.n then some b' else σ.get j) = _
  by_cases hj : j = i
  · subst hj; rw [if_pos ⟨rfl, by rw [← hs.n]; exact hi⟩, if_pos rfl, ← hb]; rfl
  · rw [if_neg (fun e => hj e.1), if_neg hj]; exact hs.get j
theorem CSim.kill {rs : Nat → Env × Loop} {h : CH} {σ : Heap} (hs : CSim rs h σ) {i : Nat} (hi : i < h.n) : CSim rs (h.kill i) (σ.kill i) := by
  refine ⟨hs.n, hs.sm, fun j => ?_⟩
  rw [CH.get_kill hi hs.sm]
  show (if j = i then none else σ.get j) = _
  by_cases hj : j = i
  · rw [if_pos hj, if_pos hj]; rfl
  · rw [if_neg hj, if_neg hj]; exact hs.get j
theorem CSim.push {rs : Nat → Env × Loop} {h : CH} {σ : Heap} (hs : CSim rs h σ) (hr : h.room = true) {b : EB} {b' : Blk} (hb : b.to (rs h.n) = b') : CSim rs (h.push b) (σ.push b') := by
  have hr : h.n ≤ 1000000000 := Nat.le_of_ble_eq_true hr
  refine ⟨by show h.n + 1 = σ.n + 1; rw [hs.n], by show h.n + 1 ≤ _; omega, fun j => ?_⟩
  rw [CH.get_push hs.sm]
  show (if j = σ.n then some b' else σ.get j) = _
  rw [← hs.n]
  by_cases hj : j = h.n
  · subst hj; rw [if_pos rfl, if_pos rfl, ← hb]; rfl
  · rw [if_neg hj, if_neg hj]; exact hs.get j
theorem CSim.rs {rs rs' : Nat → Env × Loop} {h : CH} {σ : Heap} (hs : CSim rs h σ) (hr : ∀ i, i < h.n → rs' i = rs i) : CSim rs' h σ :=
  ⟨hs.n, hs.sm, fun i => by
    rw [hs.get]
    cases hg : h.get i with
    | none => rfl
    | some b => rw [hr i (hs.lt hg)]⟩
noncomputable def CH.sl (σ : CH) (esz : Nat) : Value → Option (List Value)
  | .slice none 0 0 => some []
  | .slice (some ⟨i, o, none⟩) n _ =>
    match σ.get i with
    | some (.cells c e _ _) => if e.sz = esz ∧ o + n * esz ≤ c.length then some ((c.drop o).take (n * esz)) else none
    | _ => none
  | _ => none
noncomputable def CH.mapAt (σ : CH) (m : Nat) : Option (List MEnt × Nat × Bool) := match σ.get m with
  | some (.map es clock wr) => some (es, clock, wr)
  | _ => none
noncomputable def epush (σ : CH) (b : EB) (v : Value) : Option (Value × CH) := if σ.room = true then some (v, σ.push b) else none
noncomputable def eappend (esz : El) (bytes : Nat) (σ : CH) (s : Value) (m : Nat) (xs : List Value) : Option (Value × CH) :=
  match s with
  | .slice none 0 0 =>
    if m = 0 then some (s, σ) else
    if m * bytes ≤ 2 ^ 46 then epush σ (.cells xs esz true false) (.slice (some ⟨σ.n, 0, none⟩) m m) else none
  | .slice (some ⟨i, o, none⟩) n cap =>
    match σ.get i with
    | some (.cells c e wr tight) =>
      if e = esz ∧ n ≤ cap ∧ o + n * esz.sz ≤ c.length then
        if m = 0 then some (s, σ) else
        if n + m ≤ cap then
          (if wr = true ∧ o + (n + m) * esz.sz ≤ c.length then some (.slice (some ⟨i, o, none⟩) (n + m) cap, σ.upd i (.cells (setL c (o + n * esz.sz) xs) e wr tight)) else none)
        else if (n + m) * bytes ≤ 2 ^ 46 then
          (if tight then epush σ (.cells ((c.drop o).take (n * esz.sz) ++ xs) esz true false) (.slice (some ⟨σ.n, 0, none⟩) (n + m) (n + m))
          else if wr then epush (σ.kill i) (.cells ((c.drop o).take (n * esz.sz) ++ xs) esz true false) (.slice (some ⟨σ.n, 0, none⟩) (n + m) (n + m))
          else none)
        else none
      else none
    | _ => none
  | _ => none
noncomputable def eslice (size : Nat) (σ : CH) (s : Value) (l h : Nat) (m : Option Nat) : Option (Value × CH) :=
  match s with
  | .slice none 0 0 => if l = 0 ∧ h = 0 ∧ (m.getD 0) = 0 then some (.slice none 0 0, σ) else none
  | .slice (some ⟨i, o, none⟩) _ cap =>
    match σ.get i with
    | some (.cells _ e _ _) =>
      match m with
      | none => if e.sz = size ∧ l ≤ h ∧ h ≤ cap then some (.slice (some ⟨i, o + l * size, none⟩) (h - l) (cap - l), σ) else none
      | some m =>
        if e.sz = size ∧ l ≤ h ∧ h ≤ m ∧ m ≤ cap then
          if m = l then epush σ (.cells [] e false true) (.slice (some ⟨σ.n, 0, none⟩) 0 0)
          else some (.slice (some ⟨i, o + l * size, none⟩) (h - l) (m - l), σ)
        else none
    | _ => none
  | _ => none
noncomputable def esame : Nat → Value → Value → CH → Option Bool
  | 0, .pointer none, .pointer none, _ => some true
  | 0, .pointer none, .pointer (some _), _ => some false
  | 0, .pointer (some _), .pointer none, _ => some false
  | 0, .pointer (some ⟨i, o, none⟩), .pointer (some ⟨j, q, none⟩), σ => if i = j ∧ o = q ∧ (σ.get i).isSome = true then some true else none
  | 1, .slice none _ _, .slice none _ _, _ => some true
  | 1, .slice none _ _, .slice (some _) _ _, _ => some false
  | 1, .slice (some _) _ _, .slice none _ _, _ => some false
  | 2, .map none, .map none, _ => some true
  | 2, .map none, .map (some _), _ => some false
  | 2, .map (some _), .map none, _ => some false
  | 3, .nilFunc, .nilFunc, _ => some true
  | 3, .nilFunc, .func _ _ _, _ => some false
  | 3, .func _ _ _, .nilFunc, _ => some false
  | _, _, _, _ => none
noncomputable def exact' (o : XOp) (ev : Operand → Value) (σ : CH) : Option (Value × CH) :=
  match o with
  | .eqNil kd neg x y => match esame kd (ev x) (ev y) σ with | some b => some (.bool (if neg then !b else b), σ) | none => none
  | .makeMap => epush σ (.map [] 0 true) (.map (some σ.n))
  | .lookup mk z ok x i =>
    let k := ev i
    if keyOk mk k then
      match ev x with
      | .map none => some (if ok then .tuple #[z, .bool false] else z, σ)
      | .map (some m) => match σ.mapAt m with
        | some (es, _, _) => if es.all (fun e => keyOk mk e.1) then
            (match mapFind k es with
            | some e => some (if ok then .tuple #[e.2.1, .bool true] else e.2.1, σ)
            | none => some (if ok then .tuple #[z, .bool false] else z, σ)) else none
        | none => none
      | _ => none
    else none
  | .mapUpdate mk m k v => match ev m with
    | .map (some i) => match σ.mapAt i with
      | some (es, clock, true) => if keyOk mk (ev k) && es.all (fun e => keyOk mk e.1) then some (undef, σ.upd i (.map (mapPut (ev k) (ev v) clock es).1 (mapPut (ev k) (ev v) clock es).2 true)) else none
      | _ => none
    | _ => none
  | .lenMap x => match ev x with
    | .map none => some (.int .i64 0, σ)
    | .map (some m) => match σ.mapAt m with
      | some (es, _, _) => some (.int .i64 es.length, σ)
      | none => none
    | _ => none
  | .rangeMap x => match ev x with
    | .map (some m) => match σ.mapAt m with
      | some (_, clock, _) => epush σ (.iter m clock [] clock) (.pointer (some ⟨σ.n, 0, none⟩))
      | none => none
    | _ => none
  | .entry x => match ev x with
    | .pointer (some ⟨i, 0, none⟩) => match σ.get i with
      | some (.iter m _ seen last) => match σ.mapAt m, seen.getLast? with
        | some (es, clock, _), some b => if clock = last then (match es.find? (fun e => e.2.2 == b) with | some e => if plainV e.1 then some (.tuple #[e.1, e.2.1], σ) else none | none => none) else none
        | _, _ => none
      | _ => none
    | _ => none
  | .copy size d s => match ev d, ev s with
    | .slice db dn _, .slice sb sn sc =>
      if min sn dn = 0 then some (.int .i64 0, σ) else
      match db, σ.sl size (.slice sb (min sn dn) sc) with
      | some ⟨i, o, none⟩, some xs => match σ.get i with
        | some (.cells c e wr tight) => if wr = true ∧ e.sz = size ∧ o + xs.length ≤ c.length ∧ xs.all cellOk = true then some (.int .i64 (min sn dn : Nat), σ.upd i (.cells (setL c o xs) e wr tight)) else none
        | _ => none
      | _, _ => none
    | _, _ => none
  | .toUnsafe x => match ev x with
    | .pointer none => some (.pointer none, σ)
    | .pointer (some ⟨i, o, none⟩) => match σ.get i with
      | some (.cells c _ _ _) => if o < c.length then some (.pointer (some ⟨i, o, none⟩), σ) else none
      | _ => none
    | _ => none
  | .fromUnsafe u size x => match ev x with
    | .pointer none => some (.pointer none, σ)
    | .pointer (some ⟨i, o, none⟩) => match σ.get i with
      | some (.cells c e true true) => if o = 0 ∧ e.ty = u ∧ size ≤ c.length then some (.pointer (some ⟨i, o, none⟩), σ) else none
      | _ => none
    | _ => none
  | .sliceData x => match ev x with
    | .slice none _ _ => some (.pointer none, σ)
    | .slice (some ⟨i, o, none⟩) _ cap => if cap ≠ 0 ∧ (σ.get i).isSome = true then some (.pointer (some ⟨i, o, none⟩), σ) else none
    | _ => none
  | .unsafeStr e x n => match ev x, ev n with
    | .pointer p, .int .i64 k =>
      if k = 0 then some (.string ⟨#[]⟩, σ) else
      match p with
      | some ⟨i, o, none⟩ => match σ.get i with
        | some (.cells c el true tight) =>
          if 0 < k ∧ k ≤ 2 ^ 62 ∧ el.ty = e ∧ o + k.toNat ≤ c.length then
            (match vbytes ((c.drop o).take k.toNat) with
            | some s => some (.string s, σ.upd i (.cells c el false tight))
            | none => none) else none
        | _ => none
      | _ => none
    | _, _ => none
  | .bytesStr x => match ev x with
    | .slice a n c => match σ.sl 1 (.slice a n c) with
      | some xs => match vbytes xs with | some s => some (.string s, σ) | none => none
      | none => none
    | _ => none
  | _ => none
def Heap.empty : Heap := ⟨fun _ => none, 0, fun _ _ => rfl⟩
noncomputable def eact (o : VOp) (ev : Operand → Value) (σ : CH) : Option (Value × CH) :=
  match o with
  | .alloc t z => epush σ (.cells z ⟨z.length, t⟩ true true) (.pointer (some ⟨σ.n, 0, none⟩))
  | .box t x => match vcells (ev x) with
    | some vs => epush σ (.cells vs ⟨vs.length, t⟩ true true) (.pointer (some ⟨σ.n, 0, none⟩))
    | none => none
  | .buildSlice esz z len parts => match fillL (repl len z) (parts.map fun p => (p.1 * esz.sz, esz.sz, ev p.2)) with
    | some cs => epush σ (.cells cs esz true true) (.slice (some ⟨σ.n, 0, none⟩) len len)
    | none => none
  | .load agg size a => match ev a with
    | .pointer (some ⟨i, o, none⟩) => match σ.get i with
      | some (.cells c _ _ _) => match vpart agg size c o with | some v => some (v, σ) | none => none
      | _ => none
    | _ => none
  | .store size a v => match ev a, vcells (ev v) with
    | .pointer (some ⟨i, o, none⟩), some vs => match σ.get i with
      | some (.cells c e wr tight) => if wr = true ∧ vs.length = size ∧ o + size ≤ c.length ∧ vs.all cellOk = true then some (undef, σ.upd i (.cells (setL c o vs) e wr tight)) else none
      | _ => none
    | _, _ => none
  | .slice size x lo hi mx =>
    match ev x with
    | .slice a n cap =>
      match vbound ev lo 0, vbound ev hi n, mx with
      | some l, some h, none => eslice size σ (.slice a n cap) l h none
      | some l, some h, some _ => match vbound ev mx 0, hi with
        | some m, some _ => eslice size σ (.slice a n cap) l h (some m)
        | _, _ => none
      | _, _, _ => none
    | _ => none
  | .makeSlice esz bytes z l c =>
    match ev l, ev c with
    | .int _ a, .int _ b => if 0 ≤ a ∧ a ≤ b ∧ b * bytes ≤ 2 ^ 46 ∧ b ≤ 2 ^ 46 then epush σ (.cells (repl b.toNat z) esz true true) (.slice (some ⟨σ.n, 0, none⟩) a.toNat b.toNat) else none
    | _, _ => none
  | .append esz bytes s x =>
    match σ.sl esz.sz (ev x), ev x with
    | some xs, .slice _ m _ => if xs.all cellOk then eappend esz bytes σ (ev s) m xs else none
    | _, _ => none
  | .ext o => exact' o ev σ
  | o => if o.kind = 0 then (match vact o ev Heap.empty with | some p => some (p.1, σ) | none => none) else none
def ESnd (rs : Nat → Env × Loop) (h : CH) (_σ : Heap) (r : Option (Value × Heap)) (p : Value × CH) : Prop := h.n ≤ p.2.n ∧ ∃ σ', r = some (p.1, σ') ∧ CSim rs p.2 σ'
theorem ESnd.same {rs : Nat → Env × Loop} {h : CH} {σ : Heap} (hs : CSim rs h σ) {r : Option (Value × Heap)} {v : Value} (hr : r = some (v, σ)) : ESnd rs h σ r (v, h) := ⟨Nat.le_refl _, σ, hr, hs⟩
theorem ESnd.upd {rs : Nat → Env × Loop} {h : CH} {σ : Heap} (hs : CSim rs h σ) {r : Option (Value × Heap)} {v : Value} {i : Nat} {b : EB} {b0 : EB} (hg : h.get i = some b0) {b' : Blk} (hb : b.to (rs i) = b') (hr : r = some (v, σ.upd i b')) : ESnd rs h σ r (v, h.upd i b) := by
  have hi := hs.lt hg
  have hsm := hs.sm
  exact ⟨Nat.le_refl _, _, hr, hs.upd hi hb⟩
theorem ESnd.push {rs : Nat → Env × Loop} {h : CH} {σ : Heap} (hs : CSim rs h σ) {r : Option (Value × Heap)} {v : Value} {p : Value × CH} {b : EB} (hp : epush h b v = some p) {b' : Blk} (hb : b.to (rs h.n) = b') (hr : r = some (v, σ.push b')) : ESnd rs h σ r p := by
  unfold epush at hp
  split at hp
  · rename_i hroom
    obtain rfl := Option.some.inj hp
    have hsm := hs.sm
    exact ⟨Nat.le_succ _, _, hr, hs.push hroom hb⟩
  · cases hp
theorem CSim.sl {rs : Nat → Env × Loop} {h : CH} {σ : Heap} (hs : CSim rs h σ) {esz : Nat} {v : Value} {xs : List Value} (hx : h.sl esz v = some xs) : σ.sl esz v = some xs := by
  unfold CH.sl at hx
  unfold Heap.sl
  split at hx
  · exact hx
  · rename_i i o n c
    split at hx
    · rename_i cs e wr t hb
      simp only [hs.cells hb]
      exact hx
    · cases hx
  · cases hx
theorem CSim.mapAt {rs : Nat → Env × Loop} {h : CH} {σ : Heap} (hs : CSim rs h σ) {m : Nat} {x : List MEnt × Nat × Bool} (hx : h.mapAt m = some x) : σ.mapAt m = some x ∧ h.get m = some (.map x.1 x.2.1 x.2.2) := by
  unfold CH.mapAt at hx
  unfold Heap.mapAt
  split at hx
  · rename_i es clock wr hb
    obtain rfl := Option.some.inj hx
    exact ⟨by simp only [hs.map hb], hb⟩
  · cases hx
theorem esame_sound {rs : Nat → Env × Loop} {h : CH} {σ : Heap} (hs : CSim rs h σ) {kd : Nat} {a b : Value} {r : Bool} (hx : esame kd a b h = some r) : sameNil kd a b σ = some r := by
  unfold esame at hx
  unfold sameNil
  split at hx <;> first
    | exact hx
    | (cases hx; done)
    | skip
  rename_i i o j q
  split at hx
  · rename_i hc
    obtain ⟨h1, h2, h3⟩ := hc
    have hc' : i = j ∧ o = q ∧ (σ.get i).isSome = true := ⟨h1, h2, by rw [hs.get]; simpa using h3⟩
    simp only [if_pos hc']; exact hx
  · cases hx
theorem eappend_sound {rs : Nat → Env × Loop} {h : CH} {σ : Heap} (hs : CSim rs h σ) {esz : El} {bytes : Nat} {s : Value} {m : Nat} {xs : List Value} {p : Value × CH} (hx : eappend esz bytes h s m xs = some p) : ESnd rs h σ (vappend esz bytes σ s m xs) p := by
  unfold eappend at hx
  unfold vappend
  split at hx
  · split at hx
    · rename_i hm; simp only [if_pos hm]; obtain rfl := Option.some.inj hx; exact .same hs rfl
    · rename_i hm; simp only [if_neg hm]
      split at hx
      · rename_i hb; simp only [if_pos hb]; rw [hs.n] at hx; exact .push hs hx rfl rfl
      · cases hx
  · rename_i i o n cap
    split at hx
    · rename_i c e wr tight hg
      have hsm := hs.sm
      have hi := hs.lt hg
      simp only [hs.cells hg]
      split at hx
      · rename_i h1; simp only [if_pos h1]
        split at hx
        · rename_i h2; simp only [if_pos h2]; obtain rfl := Option.some.inj hx; exact .same hs rfl
        · rename_i h2; simp only [if_neg h2]
          split at hx
          · rename_i h3; simp only [if_pos h3]
            split at hx
            · rename_i h4; simp only [if_pos h4]; obtain rfl := Option.some.inj hx; exact .upd hs hg rfl rfl
            · cases hx
          · rename_i h3; simp only [if_neg h3]
            split at hx
            · rename_i h4; simp only [if_pos h4]
              split at hx
              · rename_i h5; simp only [if_pos h5]; rw [hs.n] at hx; exact .push hs hx rfl rfl
              · rename_i h5; simp only [if_neg h5]
                split at hx
                · rename_i h6; simp only [if_pos h6]
                  rw [hs.n] at hx
                  have hk := hs.kill hi
                  obtain ⟨k1, σ', k2, k3⟩ := ESnd.push (r := some (.slice (some ⟨σ.n, 0, none⟩) (n + m) (n + m), (σ.kill i).push (.cells ((c.drop o).take (n * esz.sz) ++ xs) esz true false))) hk hx rfl rfl
                  exact ⟨k1, σ', k2, k3⟩
                · cases hx
            · cases hx
      · cases hx
    · cases hx
  · cases hx
theorem eslice_sound {rs : Nat → Env × Loop} {h : CH} {σ : Heap} (hs : CSim rs h σ) {size : Nat} {s : Value} {l k : Nat} {m : Option Nat} {p : Value × CH} (hx : eslice size h s l k m = some p) : ESnd rs h σ (vslice size σ s l k m) p := by
  unfold eslice at hx
  unfold vslice
  split at hx
  · split at hx
    · rename_i hm; simp only [if_pos hm]; obtain rfl := Option.some.inj hx; exact .same hs rfl
    · cases hx
  · rename_i i o n cap
    split at hx
    · rename_i c e wr tight hg
      simp only [hs.cells hg]
      split at hx
      · split at hx
        · rename_i h1; simp only [if_pos h1]; obtain rfl := Option.some.inj hx; exact .same hs rfl
        · cases hx
      · split at hx
        · rename_i h1; simp only [if_pos h1]
          split at hx
          · rename_i h2; simp only [if_pos h2]; rw [hs.n] at hx; exact .push hs hx rfl rfl
          · rename_i h2; simp only [if_neg h2]; obtain rfl := Option.some.inj hx; exact .same hs rfl
        · cases hx
    · cases hx
  · cases hx
theorem exact_sound {rs : Nat → Env × Loop} {h : CH} {σ : Heap} (hs : CSim rs h σ) {o : XOp} {ev : Operand → Value} {p : Value × CH} (hx : exact' o ev h = some p) : ESnd rs h σ (xact o ev σ) p := by
  cases o
  case eqNil kd neg x y =>
    simp only [exact'] at hx
    simp only [xact]
    split at hx
    · rename_i b hb; rw [esame_sound hs hb]; obtain rfl := Option.some.inj hx; exact .same hs rfl
    · cases hx
  case makeMap =>
    simp only [exact'] at hx
    simp only [xact]
    rw [hs.n] at hx; exact .push hs hx rfl rfl
  case lookup mk z ok x i =>
    simp only [exact'] at hx
    simp only [xact]
    generalize ev x = q0 at hx ⊢
    generalize ev i = q1 at hx ⊢
    split at hx
    · rename_i hk; simp only [if_pos hk]
      split at hx
      · obtain rfl := Option.some.inj hx; exact .same hs rfl
      · rename_i m hm
        split at hx
        · rename_i es cl wr hma
          obtain ⟨k1, k2⟩ := hs.mapAt hma
          simp only [k1]
          split at hx
          · rename_i hall; simp only [if_pos hall]
            split at hx
            · rename_i e hf; simp only [hf]; obtain rfl := Option.some.inj hx; exact .same hs rfl
            · rename_i hf; simp only [hf]; obtain rfl := Option.some.inj hx; exact .same hs rfl
          · cases hx
        · cases hx
      · cases hx
    · cases hx
  case mapUpdate mk m k v =>
    simp only [exact'] at hx
    simp only [xact]
    generalize ev m = q0 at hx ⊢
    split at hx
    · rename_i i hi
      split at hx
      · rename_i es cl hma
        obtain ⟨k1, k2⟩ := hs.mapAt hma
        simp only [k1]
        split at hx
        · rename_i hc; simp only [if_pos hc]; obtain rfl := Option.some.inj hx; exact .upd hs k2 rfl rfl
        · cases hx
      · cases hx
    · cases hx
  case delete => cases hx
  case lenMap x =>
    simp only [exact'] at hx
    simp only [xact]
    generalize ev x = q0 at hx ⊢
    split at hx
    · obtain rfl := Option.some.inj hx; exact .same hs rfl
    · split at hx
      · rename_i es cl wr hma
        obtain ⟨k1, k2⟩ := hs.mapAt hma
        simp only [k1]
        obtain rfl := Option.some.inj hx; exact .same hs rfl
      · cases hx
    · cases hx
  case rangeMap x =>
    simp only [exact'] at hx
    simp only [xact]
    generalize ev x = q0 at hx ⊢
    split at hx
    · split at hx
      · rename_i es cl wr hma
        obtain ⟨k1, k2⟩ := hs.mapAt hma
        simp only [k1]
        rw [hs.n] at hx; exact .push hs hx rfl rfl
      · cases hx
    · cases hx
  case nextMap => cases hx
  case entry x =>
    simp only [exact'] at hx
    simp only [xact]
    generalize ev x = q0 at hx ⊢
    split at hx
    · split at hx
      · rename_i m since seen last hg
        simp only [hs.iter hg]
        split at hx
        · rename_i es clock wr b hma hlast
          obtain ⟨k1, _⟩ := hs.mapAt hma
          simp only [k1, hlast]
          split at hx
          · rename_i hc; rw [if_pos hc]
            split at hx
            · rename_i e hf
              split at hx
              · rename_i hp; rw [hf]; simp only [hp, if_true]; obtain rfl := Option.some.inj hx; exact .same hs rfl
              · cases hx
            · cases hx
          · cases hx
        · cases hx
      · cases hx
    · cases hx
  case copy size d s =>
    simp only [exact'] at hx
    simp only [xact]
    generalize ev d = q0 at hx ⊢
    generalize ev s = q1 at hx ⊢
    split at hx
    · rename_i db dn dc sb sn sc h1 h2
      split at hx
      · rename_i hm; simp only [if_pos hm]; obtain rfl := Option.some.inj hx; exact .same hs rfl
      · rename_i hm; simp only [if_neg hm]
        split at hx
        · rename_i i o xs hxs
          simp only [hs.sl hxs]
          split at hx
          · rename_i c e wr tight hg
            simp only [hs.cells hg]
            split at hx
            · rename_i hc; simp only [if_pos hc]; obtain rfl := Option.some.inj hx; exact .upd hs hg rfl rfl
            · cases hx
          · cases hx
        · cases hx
    · cases hx
  case toUnsafe x =>
    simp only [exact'] at hx
    simp only [xact]
    generalize ev x = q0 at hx ⊢
    split at hx
    · obtain rfl := Option.some.inj hx; exact .same hs rfl
    · split at hx
      · rename_i c e wr tight hg
        simp only [hs.cells hg]
        split at hx
        · rename_i hc; simp only [if_pos hc]; obtain rfl := Option.some.inj hx; exact .same hs rfl
        · cases hx
      · cases hx
    · cases hx
  case fromUnsafe u size x =>
    simp only [exact'] at hx
    simp only [xact]
    generalize ev x = q0 at hx ⊢
    split at hx
    · obtain rfl := Option.some.inj hx; exact .same hs rfl
    · split at hx
      · rename_i c e hg
        simp only [hs.cells hg]
        split at hx
        · rename_i hc; simp only [if_pos hc]; obtain rfl := Option.some.inj hx; exact .same hs rfl
        · cases hx
      · cases hx
    · cases hx
  case sliceData x =>
    simp only [exact'] at hx
    simp only [xact]
    generalize ev x = q0 at hx ⊢
    split at hx
    · obtain rfl := Option.some.inj hx; exact .same hs rfl
    · rename_i i o n cap
      split at hx
      · rename_i hc
        simp only [if_pos (show cap ≠ 0 ∧ (σ.get i).isSome = true from ⟨hc.1, by rw [hs.get]; simpa using hc.2⟩)]
        obtain rfl := Option.some.inj hx; exact .same hs rfl
      · cases hx
    · cases hx
  case unsafeStr e x n =>
    simp only [exact'] at hx
    simp only [xact]
    generalize ev x = q0 at hx ⊢
    generalize ev n = q1 at hx ⊢
    split at hx
    · rename_i q k h1 h2
      split at hx
      · rename_i hk; simp only [if_pos hk]; obtain rfl := Option.some.inj hx; exact .same hs rfl
      · rename_i hk; simp only [if_neg hk]
        split at hx
        · rename_i i o
          split at hx
          · rename_i c el tight hg
            simp only [hs.cells hg]
            split at hx
            · rename_i hc; simp only [if_pos hc]
              split at hx
              · rename_i u hu; simp only [hu]; obtain rfl := Option.some.inj hx; exact .upd hs hg rfl rfl
              · cases hx
            · cases hx
          · cases hx
        · cases hx
    · cases hx
  case bytesStr x =>
    simp only [exact'] at hx
    simp only [xact]
    generalize ev x = q0 at hx ⊢
    split at hx
    · split at hx
      · rename_i xs hxs
        simp only [hs.sl hxs]
        split at hx
        · rename_i u hu; simp only [hu]; obtain rfl := Option.some.inj hx; exact .same hs rfl
        · cases hx
      · cases hx
    · cases hx
theorem eact_pure {rs : Nat → Env × Loop} {h : CH} {σ : Heap} (hs : CSim rs h σ) {o : VOp} {ev : Operand → Value} {p : Value × CH}
    (hx : (if o.kind = 0 then (match vact o ev Heap.empty with | some p => some (p.1, h) | none => none) else none) = some p) : ESnd rs h σ (vact o ev σ) p := by
  split at hx
  · rename_i hk
    split at hx
    · rename_i q hq
      obtain rfl := Option.some.inj hx
      exact .same hs (vact_pure hk (v := q.1) (σ1 := q.2) hq)
    · cases hx
  · cases hx
theorem eact_sound {rs : Nat → Env × Loop} {h : CH} {σ : Heap} (hs : CSim rs h σ) {o : VOp} {ev : Operand → Value} {p : Value × CH} (hx : eact o ev h = some p) : ESnd rs h σ (vact o ev σ) p := by
  cases o
  case alloc t z =>
    simp only [eact] at hx
    simp only [vact]
    rw [hs.n] at hx; exact .push hs hx rfl rfl
  case box t x =>
    simp only [eact] at hx
    simp only [vact]
    generalize vcells (ev x) = q0 at hx ⊢
    split at hx
    · rw [hs.n] at hx; exact .push hs hx rfl rfl
    · cases hx
  case buildSlice esz z len parts =>
    simp only [eact] at hx
    simp only [vact]
    generalize fillL (repl len z) (parts.map fun p => (p.1 * esz.sz, esz.sz, ev p.2)) = q0 at hx ⊢
    split at hx
    · rw [hs.n] at hx; exact .push hs hx rfl rfl
    · cases hx
  case load agg size a =>
    simp only [eact] at hx
    simp only [vact]
    generalize ev a = q0 at hx ⊢
    split at hx
    · split at hx
      · rename_i c e wr tight hg
        simp only [hs.cells hg]
        split at hx
        · rename_i u hu; simp only [hu]; obtain rfl := Option.some.inj hx; exact .same hs rfl
        · cases hx
      · cases hx
    · cases hx
  case store size a v =>
    simp only [eact] at hx
    simp only [vact]
    generalize vcells (ev v) = q0 at hx ⊢
    generalize ev a = q1 at hx ⊢
    split at hx
    · rename_i i o vs h1 h2
      split at hx
      · rename_i c e wr tight hg
        simp only [hs.cells hg]
        split at hx
        · rename_i hc; simp only [if_pos hc]; obtain rfl := Option.some.inj hx; exact .upd hs hg rfl rfl
        · cases hx
      · cases hx
    · cases hx
  case slice size x lo hi mx =>
    simp only [eact] at hx
    simp only [vact]
    generalize ev x = q0 at hx ⊢
    split at hx
    · rename_i a n cap
      dsimp only
      generalize vbound ev lo 0 = q1 at hx ⊢
      generalize vbound ev hi n = q2 at hx ⊢
      split at hx
      · exact eslice_sound hs hx
      · rename_i l k m
        dsimp only
        generalize vbound ev (some m) 0 = q3 at hx ⊢
        split at hx
        · exact eslice_sound hs hx
        · cases hx
      · cases hx
    · cases hx
  case makeSlice esz bytes z l c =>
    simp only [eact] at hx
    simp only [vact]
    generalize ev l = q0 at hx ⊢
    generalize ev c = q1 at hx ⊢
    split at hx
    · split at hx
      · rename_i hc; simp only [if_pos hc]; rw [hs.n] at hx; exact .push hs hx rfl rfl
      · cases hx
    · cases hx
  case append esz bytes s x =>
    simp only [eact] at hx
    simp only [vact]
    generalize ev x = q0 at hx ⊢
    split at hx
    · rename_i hxs
      simp only [hs.sl hxs]
      split at hx
      · rename_i hc; simp only [if_pos hc]; exact eappend_sound hs hx
      · cases hx
    · cases hx
  case ext o => exact exact_sound hs hx
  all_goals exact eact_pure hs hx
def wrapF (k : IntKind) (n : Int) : Int := match n with
  | .ofNat x => match Nat.ble x 127 with
    | true => .ofNat x
    | false => k.wrap (.ofNat x)
  | .negSucc x => k.wrap (.negSucc x)
theorem wrapF_eq (k : IntKind) (n : Int) : wrapF k n = k.wrap n := by
  cases n with
  | negSucc x => rfl
  | ofNat x =>
    simp only [wrapF]
    split
    · rename_i h
      have hx : x ≤ 127 := Nat.le_of_ble_eq_true h
      show (x : Int) = k.wrap (x : Int)
      cases k <;> simp [IntKind.wrap, IntKind.bits, IntKind.signed] <;> omega
    · rfl
def pPick (c a b : Value) : Option Value := match c with | .bool t => some (if t then a else b) | _ => none
def pArith (op : BinOp) (x y : Value) : Option Value := match x, y with | .int k a, .int k' b => if k = k' then some (.int k (match op with | .add => wrapF k (a + b) | .sub => wrapF k (a - b) | _ => wrapF k (a * b))) else none | _, _ => none
def pDiv (op : BinOp) (x y : Value) : Option Value := match x, y with | .int k a, .int k' b => if k = k' ∧ b ≠ 0 then some (.int k (vdiv op k a b)) else none | _, _ => none
def pBits (op : BinOp) (x y : Value) : Option Value := match x, y with | .int k a, .int k' b => if k = k' then some (.int k (vbits op k a b)) else none | _, _ => none
def pShift (op : BinOp) (x y : Value) : Option Value := match x, y with | .int k a, .int _ b => if 0 ≤ b then some (.int k (vshift op k a b)) else none | _, _ => none
def pCmp (op : BinOp) (x y : Value) : Option Value := match x, y with | .int k a, .int k' b => if k = k' then some (.bool (vcmp op a b)) else none | _, _ => none
def pStr (op : BinOp) (x y : Value) : Option Value := match x, y with
    | .string a, .string b => match op with
      | .add => if a.size + b.size ≤ 2 ^ 62 then some (.string (a ++ b)) else none
      | .eql => some (.bool (a.data.toList == b.data.toList))
      | .neq => some (.bool (!(a.data.toList == b.data.toList)))
      | .lss => some (.bool (Op.bytesLess a.data.toList b.data.toList))
      | _ => none
    | _, _ => none
def pEqB (neg : Bool) (x y : Value) : Option Value := match x, y with | .bool a, .bool b => some (.bool (if neg then !(a == b) else (a == b))) | _, _ => none
def pUn (op : UnOp) (x : Value) : Option Value := match op, x with
    | .not, .bool b => some (.bool (!b))
    | .neg, .int k n => some (.int k (k.wrap (0 - n)))
    | .xor, .int k n => some (.int k (vbits .xor k (if k.signed then -1 else k.max) n))
    | _, _ => none
def pConvI (k : IntKind) (x : Value) : Option Value := match x with | .int _ n => some (.int k (wrapF k n)) | _ => none
def pConvS (x : Value) : Option Value := match x with | .string s => some (.string s) | _ => none
def pBuild (z : List Value) (l : List (Nat × Nat × Value)) : Option Value := match fillL z l with | some cs => some (.agg cs.toArray) | none => none
def pFieldAddr (off : Nat) (a : Value) : Option Value := match a with
    | .pointer (some ⟨i, o, none⟩) => some (.pointer (some ⟨i, o + off, none⟩))
    | _ => none
def pField (agg : Bool) (off size : Nat) (x : Value) : Option Value := match x with
    | .agg cs => vpart agg size cs.toList off
    | _ => none
def pIndexAddr (size : Nat) (x i : Value) : Option Value := match x, i with
    | .slice (some ⟨b, o, none⟩) n _, .int _ k => if 0 ≤ k ∧ k < n then some (.pointer (some ⟨b, o + k.toNat * size, none⟩)) else none
    | _, _ => none
def pIndexAddrArr (len size : Nat) (x i : Value) : Option Value := match x, i with
    | .pointer (some ⟨b, o, none⟩), .int _ k => if 0 ≤ k ∧ k < len then some (.pointer (some ⟨b, o + k.toNat * size, none⟩)) else none
    | _, _ => none
def pIndexStr (x i : Value) : Option Value := match x, i with
    | .string s, .int _ k => if 0 ≤ k then (match s.data.toList[k.toNat]? with | some b => some (.int .u8 b.toNat) | none => none) else none
    | _, _ => none
def pIndexArr (len : Nat) (agg : Bool) (size : Nat) (x i : Value) : Option Value := match x, i with
    | .agg cs, .int _ k => if 0 ≤ k ∧ k < len then vpart agg size cs.toList (k.toNat * size) else none
    | _, _ => none
def pSliceStr (ev : Operand → Value) (x : Value) (lo hi : Option Operand) : Option Value := match x with
    | .string s =>
      match vbound ev lo 0, vbound ev hi s.size with
      | some l, some h => if l ≤ h ∧ h ≤ s.size then some (.string (s.extract l h)) else none
      | _, _ => none
    | _ => none
def pLen (x : Value) : Option Value := match x with | .slice _ n _ => some (.int .i64 n) | _ => none
def pLenStr (x : Value) : Option Value := match x with | .string s => some (.int .i64 s.size) | _ => none
def pMax (x y : Value) : Option Value := match x, y with | .int k a, .int k' b => if k = k' then some (.int k (if b > a then b else a)) else none | _, _ => none
def pMin (x y : Value) : Option Value := match x, y with | .int k a, .int k' b => if k = k' then some (.int k (if b < a then b else a)) else none | _, _ => none
def pIface (t : TypeId) (x : Value) : Option Value := match x with | .chan _ => none | v => some (.iface t v)
def pExtract (i : Nat) (x : Value) : Option Value := match x with
    | .tuple vs => vs.toList[i]?
    | _ => none
def pNilCheck (x : Value) : Option Value := match x with
    | .pointer (some a) => some (.pointer (some a))
    | .func (.func f) first cap => some (.func (.func f) first cap)
    | _ => none
def ppp (r : Option Value) (σ : CH) : Option (Value × CH) := match r with | some v => some (v, σ) | none => none
noncomputable def eBox (t : Nat) (x : Value) (σ : CH) : Option (Value × CH) := match vcells x with
    | some vs => epush σ (.cells vs ⟨vs.length, t⟩ true true) (.pointer (some ⟨σ.n, 0, none⟩))
    | none => none
noncomputable def eBuildSlice (esz : El) (z : List Value) (len : Nat) (l : List (Nat × Nat × Value)) (σ : CH) : Option (Value × CH) := match fillL (repl len z) l with
    | some cs => epush σ (.cells cs esz true true) (.slice (some ⟨σ.n, 0, none⟩) len len)
    | none => none
noncomputable def eLoad (agg : Bool) (size : Nat) (a : Value) (σ : CH) : Option (Value × CH) := match a with
    | .pointer (some ⟨i, o, none⟩) => match σ.get i with
      | some (.cells c _ _ _) => match vpart agg size c o with | some v => some (v, σ) | none => none
      | _ => none
    | _ => none
def stL (c : List Value) (o : Nat) (vs : List Value) : List Value := match vs with
  | [v] => c.set o v
  | vs => c.take o ++ (vs ++ c.drop (o + vs.length))
theorem setL_app : ∀ (vs a b c : List Value), vs.length = b.length → setL (a ++ (b ++ c)) a.length vs = a ++ (vs ++ c)
  | [], a, b, c, h => by
    have : b = [] := List.eq_nil_of_length_eq_zero (by simpa using h.symm)
    subst this; rfl
  | v :: vs, a, [], c, h => by simp at h
  | v :: vs, a, x :: b, c, h => by
    simp only [setL]
    have e : (a ++ (x :: b ++ c)).set a.length v = (a ++ [v]) ++ (b ++ c) := by simp
    rw [e]
    have := setL_app vs (a ++ [v]) b c (by simpa using h)
    rw [List.length_append, List.length_singleton] at this
    rw [this]; simp
theorem stL_eq {c : List Value} {o : Nat} {vs : List Value} (h : o + vs.length ≤ c.length) : stL c o vs = setL c o vs := by
  unfold stL
  split
  · rfl
  · have h1 : c = c.take o ++ ((c.drop o).take vs.length ++ c.drop (o + vs.length)) := by
      rw [← List.drop_drop, List.take_append_drop, List.take_append_drop]
    have h2 : (c.take o).length = o := by simp; omega
    have := setL_app vs (c.take o) ((c.drop o).take vs.length) (c.drop (o + vs.length)) (by simp; omega)
    rw [h2, ← h1] at this
    exact this.symm
noncomputable def eStore (size : Nat) (a v : Value) (σ : CH) : Option (Value × CH) := match a, vcells v with
    | .pointer (some ⟨i, o, none⟩), some vs => match σ.get i with
      | some (.cells c e wr tight) => if wr = true ∧ vs.length = size ∧ o + size ≤ c.length ∧ vs.all cellOk = true then some (undef, σ.upd i (.cells (stL c o vs) e wr tight)) else none
      | _ => none
    | _, _ => none
noncomputable def eMakeSlice (esz : El) (bytes : Nat) (z : List Value) (l c : Value) (σ : CH) : Option (Value × CH) :=
    match l, c with
    | .int _ a, .int _ b => if 0 ≤ a ∧ a ≤ b ∧ b * bytes ≤ 2 ^ 46 ∧ b ≤ 2 ^ 46 then epush σ (.cells (repl b.toNat z) esz true true) (.slice (some ⟨σ.n, 0, none⟩) a.toNat b.toNat) else none
    | _, _ => none
noncomputable def eApp (esz : El) (bytes : Nat) (s x : Value) (σ : CH) : Option (Value × CH) :=
    match σ.sl esz.sz x, x with
    | some xs, .slice _ m _ => if xs.all cellOk then eappend esz bytes σ s m xs else none
    | _, _ => none
noncomputable def eactF (o : VOp) (ev : Operand → Value) (σ : CH) : Option (Value × CH) :=
  match o with
  | .move x => some (ev x, σ)
  | .pick c a b => ppp (pPick (ev c) (ev a) (ev b)) σ
  | .arith op x y => ppp (pArith op (ev x) (ev y)) σ
  | .div op x y => ppp (pDiv op (ev x) (ev y)) σ
  | .bits op x y => ppp (pBits op (ev x) (ev y)) σ
  | .shift op x y => ppp (pShift op (ev x) (ev y)) σ
  | .cmp op x y => ppp (pCmp op (ev x) (ev y)) σ
  | .str op x y => ppp (pStr op (ev x) (ev y)) σ
  | .eqB n x y => ppp (pEqB n (ev x) (ev y)) σ
  | .un op x => ppp (pUn op (ev x)) σ
  | .convI k x => ppp (pConvI k (ev x)) σ
  | .convS x => ppp (pConvS (ev x)) σ
  | .build z parts => ppp (pBuild z (parts.map fun p => (p.1, p.2.1, ev p.2.2))) σ
  | .fieldAddr off a => ppp (pFieldAddr off (ev a)) σ
  | .field agg off size x => ppp (pField agg off size (ev x)) σ
  | .indexAddr size x i => ppp (pIndexAddr size (ev x) (ev i)) σ
  | .indexAddrArr len size x i => ppp (pIndexAddrArr len size (ev x) (ev i)) σ
  | .indexStr x i => ppp (pIndexStr (ev x) (ev i)) σ
  | .indexArr len agg size x i => ppp (pIndexArr len agg size (ev x) (ev i)) σ
  | .sliceStr x lo hi => ppp (pSliceStr ev (ev x) lo hi) σ
  | .len x => ppp (pLen (ev x)) σ
  | .lenStr x => ppp (pLenStr (ev x)) σ
  | .max x y => ppp (pMax (ev x) (ev y)) σ
  | .min x y => ppp (pMin (ev x) (ev y)) σ
  | .makeFunc fn first cap => some (.func fn (first.map ev).toArray (cap.map ev).toArray, σ)
  | .iface t x => ppp (pIface t (ev x)) σ
  | .extract x i => ppp (pExtract i (ev x)) σ
  | .nilCheck x => ppp (pNilCheck (ev x)) σ
  | .alloc t z => epush σ (.cells z ⟨z.length, t⟩ true true) (.pointer (some ⟨σ.n, 0, none⟩))
  | .box t x => eBox t (ev x) σ
  | .buildSlice esz z len parts => eBuildSlice esz z len (parts.map fun p => (p.1 * esz.sz, esz.sz, ev p.2)) σ
  | .load agg size a => eLoad agg size (ev a) σ
  | .store size a v => eStore size (ev a) (ev v) σ
  | .slice size x lo hi mx => eact (.slice size x lo hi mx) ev σ
  | .makeSlice esz bytes z l c => eMakeSlice esz bytes z (ev l) (ev c) σ
  | .append esz bytes s x => eApp esz bytes (ev s) (ev x) σ
  | .ext o => exact' o ev σ
  | _ => none
theorem ppp_sound {rs : Nat → Env × Loop} {h : CH} {σ : Heap} (hs : CSim rs h σ) {r : Option Value} {r' : Option (Value × Heap)} {p : Value × CH} (hr : ∀ v, r = some v → r' = some (v, σ)) (hx : ppp r h = some p) : ESnd rs h σ r' p := by
  unfold ppp at hx
  split at hx
  · rename_i v
    obtain rfl := Option.some.inj hx
    exact .same hs (hr v rfl)
  · cases hx
theorem eactF_sound {rs : Nat → Env × Loop} {h : CH} {σ : Heap} (hs : CSim rs h σ) {o : VOp} {ev : Operand → Value} {p : Value × CH} (hx : eactF o ev h = some p) : ESnd rs h σ (vact o ev σ) p := by
  cases o
  case move x => exact .same hs (by obtain rfl := Option.some.inj hx; rfl) |> fun (h : ESnd rs _ σ (vact (.move x) ev σ) (ev x, _)) => by obtain rfl := Option.some.inj hx; exact h
  case makeFunc fn a b => obtain rfl := Option.some.inj hx; exact .same hs rfl
  case alloc t z => exact eact_sound (o := .alloc t z) hs hx
  case box t x => exact eact_sound (o := .box t x) hs hx
  case buildSlice a b c d => exact eact_sound (o := .buildSlice a b c d) hs hx
  case load a b c => exact eact_sound (o := .load a b c) hs hx
  case store size a v =>
    simp only [eactF] at hx
    simp only [vact]
    unfold eStore at hx
    generalize vcells (ev v) = q0 at hx ⊢
    generalize ev a = q1 at hx ⊢
    split at hx
    · rename_i i o vs
      split at hx
      · rename_i c e wr tight hg
        simp only [hs.cells hg]
        split at hx
        · rename_i hc
          simp only [if_pos hc]
          rw [stL_eq (by omega)] at hx
          obtain rfl := Option.some.inj hx; exact .upd hs hg rfl rfl
        · cases hx
      · cases hx
    · cases hx
  case slice a b c d e => exact eact_sound (o := .slice a b c d e) hs hx
  case makeSlice a b c d e => exact eact_sound (o := .makeSlice a b c d e) hs hx
  case append a b c d => exact eact_sound (o := .append a b c d) hs hx
  case ext o => exact exact_sound hs hx
  case callF => cases hx
  case callV => cases hx
  case bad => cases hx
  all_goals refine ppp_sound hs (fun v hv => ?_) hx
  case arith op x y =>
    simp only [vact]
    generalize ev x = a at hv ⊢
    generalize ev y = b at hv ⊢
    unfold pArith at hv
    split at hv
    · split at hv
      · rename_i hk
        simp only [if_pos hk]
        obtain rfl := Option.some.inj hv
        cases op <;> simp only [varith, wrapF_eq]
      · cases hv
    · cases hv
  case convI k x =>
    simp only [vact]
    generalize ev x = a at hv ⊢
    unfold pConvI at hv
    split at hv
    · obtain rfl := Option.some.inj hv; simp only [wrapF_eq]
    · cases hv
  case pick c a b =>
    simp only [vact]
    generalize ev c = q0 at hv ⊢
    generalize ev a = q1 at hv ⊢
    generalize ev b = q2 at hv ⊢
    unfold pPick at hv
    (repeat' split at hv) <;> first | (cases hv; done) | (obtain rfl := Option.some.inj hv; first | rfl | (simp_all; done) | (simp_all; intros; omega))
  case div op x y =>
    simp only [vact]
    generalize ev x = q0 at hv ⊢
    generalize ev y = q1 at hv ⊢
    unfold pDiv at hv
    (repeat' split at hv) <;> first | (cases hv; done) | (obtain rfl := Option.some.inj hv; first | rfl | (simp_all; done) | (simp_all; intros; omega))
  case bits op x y =>
    simp only [vact]
    generalize ev x = q0 at hv ⊢
    generalize ev y = q1 at hv ⊢
    unfold pBits at hv
    (repeat' split at hv) <;> first | (cases hv; done) | (obtain rfl := Option.some.inj hv; first | rfl | (simp_all; done) | (simp_all; intros; omega))
  case shift op x y =>
    simp only [vact]
    generalize ev x = q0 at hv ⊢
    generalize ev y = q1 at hv ⊢
    unfold pShift at hv
    (repeat' split at hv) <;> first | (cases hv; done) | (obtain rfl := Option.some.inj hv; first | rfl | (simp_all; done) | (simp_all; intros; omega))
  case cmp op x y =>
    simp only [vact]
    generalize ev x = q0 at hv ⊢
    generalize ev y = q1 at hv ⊢
    unfold pCmp at hv
    (repeat' split at hv) <;> first | (cases hv; done) | (obtain rfl := Option.some.inj hv; first | rfl | (simp_all; done) | (simp_all; intros; omega))
  case eqB n x y =>
    simp only [vact]
    generalize ev x = q0 at hv ⊢
    generalize ev y = q1 at hv ⊢
    unfold pEqB at hv
    (repeat' split at hv) <;> first | (cases hv; done) | (obtain rfl := Option.some.inj hv; first | rfl | (simp_all; done) | (simp_all; intros; omega))
  case un op x =>
    simp only [vact]
    generalize ev x = q0 at hv ⊢
    unfold pUn at hv
    (repeat' split at hv) <;> first | (cases hv; done) | (obtain rfl := Option.some.inj hv; first | rfl | (simp_all; done) | (simp_all; intros; omega))
  case convS x =>
    simp only [vact]
    generalize ev x = q0 at hv ⊢
    unfold pConvS at hv
    (repeat' split at hv) <;> first | (cases hv; done) | (obtain rfl := Option.some.inj hv; first | rfl | (simp_all; done) | (simp_all; intros; omega))
  case fieldAddr off a =>
    simp only [vact]
    generalize ev a = q0 at hv ⊢
    unfold pFieldAddr at hv
    (repeat' split at hv) <;> first | (cases hv; done) | (obtain rfl := Option.some.inj hv; first | rfl | (simp_all; done) | (simp_all; intros; omega))
  case indexAddr size x i =>
    simp only [vact]
    generalize ev x = q0 at hv ⊢
    generalize ev i = q1 at hv ⊢
    unfold pIndexAddr at hv
    (repeat' split at hv) <;> first | (cases hv; done) | (obtain rfl := Option.some.inj hv; first | rfl | (simp_all; done) | (simp_all; intros; omega))
  case indexAddrArr len size x i =>
    simp only [vact]
    generalize ev x = q0 at hv ⊢
    generalize ev i = q1 at hv ⊢
    unfold pIndexAddrArr at hv
    (repeat' split at hv) <;> first | (cases hv; done) | (obtain rfl := Option.some.inj hv; first | rfl | (simp_all; done) | (simp_all; intros; omega))
  case len x =>
    simp only [vact]
    generalize ev x = q0 at hv ⊢
    unfold pLen at hv
    (repeat' split at hv) <;> first | (cases hv; done) | (obtain rfl := Option.some.inj hv; first | rfl | (simp_all; done) | (simp_all; intros; omega))
  case lenStr x =>
    simp only [vact]
    generalize ev x = q0 at hv ⊢
    unfold pLenStr at hv
    (repeat' split at hv) <;> first | (cases hv; done) | (obtain rfl := Option.some.inj hv; first | rfl | (simp_all; done) | (simp_all; intros; omega))
  case max x y =>
    simp only [vact]
    generalize ev x = q0 at hv ⊢
    generalize ev y = q1 at hv ⊢
    unfold pMax at hv
    (repeat' split at hv) <;> first | (cases hv; done) | (obtain rfl := Option.some.inj hv; first | rfl | (simp_all; done) | (simp_all; intros; omega))
  case min x y =>
    simp only [vact]
    generalize ev x = q0 at hv ⊢
    generalize ev y = q1 at hv ⊢
    unfold pMin at hv
    (repeat' split at hv) <;> first | (cases hv; done) | (obtain rfl := Option.some.inj hv; first | rfl | (simp_all; done) | (simp_all; intros; omega))
  case nilCheck x =>
    simp only [vact]
    generalize ev x = q0 at hv ⊢
    unfold pNilCheck at hv
    (repeat' split at hv) <;> first | (cases hv; done) | (obtain rfl := Option.some.inj hv; first | rfl | (simp_all; done) | (simp_all; intros; omega))
  case str op x y =>
    simp only [vact]
    generalize ev x = q0 at hv ⊢
    generalize ev y = q1 at hv ⊢
    unfold pStr at hv
    (repeat' split at hv) <;> first | (cases hv; done) | (obtain rfl := Option.some.inj hv; first | rfl | (simp_all; done) | (simp_all; intros; omega))
  case build z parts =>
    simp only [vact]
    unfold pBuild at hv
    split at hv
    · rename_i cs hc
      rw [hc]; obtain rfl := Option.some.inj hv; rfl
    · cases hv
  case field agg off size x =>
    simp only [vact]
    generalize ev x = q0 at hv ⊢
    unfold pField at hv
    split at hv
    · dsimp only; rw [hv]
    · cases hv
  case indexStr x i =>
    simp only [vact]
    generalize ev x = q0 at hv ⊢
    generalize ev i = q1 at hv ⊢
    unfold pIndexStr at hv
    split at hv
    · split at hv
      · rename_i hc
        simp only [if_pos hc]
        split at hv
        · rename_i b hb; simp only [hb]; obtain rfl := Option.some.inj hv; rfl
        · cases hv
      · cases hv
    · cases hv
  case indexArr len agg size x i =>
    simp only [vact]
    generalize ev x = q0 at hv ⊢
    generalize ev i = q1 at hv ⊢
    unfold pIndexArr at hv
    split at hv
    · split at hv
      · rename_i hc; simp only [if_pos hc, hv]
      · cases hv
    · cases hv
  case sliceStr x lo hi =>
    simp only [vact]
    generalize ev x = q0 at hv ⊢
    unfold pSliceStr at hv
    split at hv
    · rename_i s
      split at hv
      · rename_i l h h1 h2
        split at hv
        · rename_i hc; simp only [h1, h2, if_pos hc]; obtain rfl := Option.some.inj hv; rfl
        · cases hv
      · cases hv
    · cases hv
  case iface t x =>
    simp only [vact]
    generalize ev x = q0 at hv ⊢
    unfold pIface at hv
    split at hv
    · cases hv
    · rename_i hne
      obtain rfl := Option.some.inj hv
      split
      · exact absurd rfl (hne _)
      · rfl
  case extract x i =>
    simp only [vact]
    generalize ev x = q0 at hv ⊢
    unfold pExtract at hv
    split at hv
    · dsimp only; rw [hv]
    · cases hv
end Go.V

namespace Go.V
open Go Go.ChangeShapes Go.WideShapes Go.RowKit Go.Deep Go.Joins
def Heap.RO (σ : Heap) : Prop := ∀ i b, σ.get i = some b → b.wr = false
structure View (w : World) (ρ : Plc) (σ : Heap) : Prop where
  rel : HRel ρ σ w
  ro : σ.RO
structure More (ρ : Plc) (σ : Heap) (ρ' : Plc) (σ' : Heap) : Prop where
  n : σ.n ≤ σ'.n
  pl : ∀ i, i < σ.n → ∀ p, ρ' i = some p → ρ i = some p
  ag : Agree σ σ'
theorem More.refl (ρ : Plc) (σ : Heap) : More ρ σ ρ σ := ⟨Nat.le_refl _, fun _ _ _ h => h, Agree.refl _⟩
theorem More.trans {ρ ρ' ρ'' : Plc} {σ σ' σ'' : Heap} (h : More ρ σ ρ' σ') (k : More ρ' σ' ρ'' σ'') : More ρ σ ρ'' σ'' :=
  ⟨Nat.le_trans h.n k.n, fun i hi p hp => h.pl i hi p (k.pl i (Nat.lt_of_lt_of_le hi h.n) p hp), h.ag.trans k.ag h.n⟩
theorem More.vrel {ρ ρ' : Plc} {σ σ' : Heap} (h : More ρ σ ρ' σ') {v c : Value} (hv : VRel ρ σ.n v c) : VRel ρ' σ'.n v c := hv.mono h.n h.pl
theorem View.empty (w : World) : View w (fun _ => none) Heap.empty where
  rel := ⟨fun i b h => (by cases h), fun _ _ => rfl, fun i p h => (by cases h), fun i j p q b _ h => (by cases h)⟩
  ro := fun i b h => by cases h
theorem Agree.sl {σ σ' : Heap} (h : Agree σ σ') {esz : Nat} {v : Value} {cs : List Value} (hs : σ.sl esz v = some cs) : σ'.sl esz v = some cs := by
  unfold Heap.sl at hs ⊢
  split at hs
  · simp_all
  · rename_i i o n cap
    split at hs
    · rename_i c e wr t hb
      simp only [h i (σ.lt hb), hb]
      exact hs
    · cases hs
  · cases hs
theorem Agree.ints {σ σ' : Heap} (h : Agree σ σ') {v : Value} {l : List Int} (hs : σ.ints v = some l) : σ'.ints v = some l := by
  unfold Heap.ints at hs ⊢
  cases hc : σ.sl 1 v with
  | none => rw [hc] at hs; cases hs
  | some cs => rw [hc] at hs; rw [h.sl hc]; exact hs
theorem View.add {w : World} {ρ : Plc} {σ : Heap} (h : View w ρ σ) (p : Pl) (c : List Value) {C : Array Value} {e : TypeId} {f : Nat × Nat} (hb : w.heap[p.blk]? = some (.cells C e f)) (hs : p.shift + p.ext ≤ C.size) (hl : c.length ≤ p.ext) (ht : e = p.esz.ty)
    (hc : ∀ (k : Nat) (v : Value), c[k]? = some v → ∃ u, w.cell? ⟨p.blk, p.shift + k, none⟩ = some u ∧ VRel ρ σ.n v u) :
    View w (ρ.put σ.n (some p)) (σ.push (.cells c p.esz false p.tight)) ∧ More ρ σ (ρ.put σ.n (some p)) (σ.push (.cells c p.esz false p.tight)) := by
  have hpl : ∀ i, i < σ.n → ∀ q, (ρ.put σ.n (some p)) i = some q → ρ i = some q := fun i hi q hq => by
    unfold Plc.put at hq; rwa [if_neg (by omega)] at hq
  have hro : (σ.push (.cells c p.esz false p.tight)).RO := fun i b hi => by
    by_cases e : i = σ.n
    · subst e; rw [Heap.get_push_self] at hi; obtain rfl := Option.some.inj hi; rfl
    · rw [Heap.get_push_ne _ _ e] at hi; exact h.ro i b hi
  refine ⟨⟨⟨?_, ?_, ?_, ?_⟩, hro⟩, ⟨by simp, hpl, fun i hi => Heap.get_push_lt _ _ hi⟩⟩
  · intro i b hi
    by_cases hin : i = σ.n
    · subst hin
      rw [Heap.get_push_self] at hi
      obtain rfl := Option.some.inj hi
      refine ⟨p, by simp [Plc.put], rfl, rfl, hl, ⟨C, e, f, hb, hs, ht⟩, fun k v hk => ?_, fun h => by cases h⟩
      obtain ⟨u, hu, hv⟩ := hc k v hk
      exact ⟨u, hu, hv.mono (by simp) hpl⟩
    · rw [Heap.get_push_ne _ _ hin] at hi
      obtain ⟨q, hq, hB⟩ := h.rel.live i b hi
      exact ⟨q, by simp [Plc.put, hin, hq], hB.mono (by simp) hpl rfl⟩
  · intro i hi
    by_cases hin : i = σ.n
    · subst hin; rw [Heap.get_push_self] at hi; cases hi
    · rw [Heap.get_push_ne _ _ hin] at hi
      simp [Plc.put, hin, h.rel.dead i hi]
  · intro i q hq
    by_cases hin : i = σ.n
    · subst hin
      simp [Plc.put] at hq
      subst hq
      exact (Array.getElem?_eq_some_iff.1 hb).1
    · simp [Plc.put, hin] at hq
      exact h.rel.lt i q hq
  · intro i j q r b _ _ _ hb' hw _
    rw [hro i b hb'] at hw; cases hw
theorem rowAt_off {P : Program} {fits : TypeId → Bool} {d : Nat} {e : TypeId} {count off n : Nat} (h : rowAt P fits d e count off n = true) : off ≤ count * P.cellsOf e := by
  cases d with
  | zero => cases h
  | succ d =>
    unfold rowAt at h
    by_cases hs : P.cellsOf e = 0
    · simp [hs] at h
    · have hpos : 0 < P.cellsOf e := Nat.pos_of_ne_zero hs
      simp only [hs, if_false, Bool.or_eq_true, Bool.and_eq_true, beq_iff_eq, decide_eq_true_eq] at h
      have hd := Nat.div_add_mod off (P.cellsOf e)
      have hm := Nat.mod_lt off hpos
      rcases h with ⟨⟨h1, h2⟩, _⟩ | ⟨h1, _⟩
      · have : P.cellsOf e * (off / P.cellsOf e) ≤ P.cellsOf e * count := Nat.mul_le_mul_left _ (by omega)
        rw [Nat.mul_comm count]; omega
      · have : P.cellsOf e * (off / P.cellsOf e + 1) ≤ P.cellsOf e * count := Nat.mul_le_mul_left _ (by omega)
        rw [Nat.mul_add] at this
        rw [Nat.mul_comm count]; omega
theorem liesAt_off {P : Program} : ∀ {d : Nat} {e : TypeId} {count off : Nat} {u : TypeId} {n : Nat}, liesAt P d e count off u n = true → off ≤ count * P.cellsOf e
  | 0, _, _, _, _, _, h => by cases h
  | d + 1, e, count, off, u, n, h => by
    unfold liesAt at h
    rw [Bool.or_eq_true] at h
    rcases h with h | h
    · exact rowAt_off h
    · split at h
      · exact liesAt_off h
      · cases h
theorem has_block {P : Program} {w : World} {r : Reach} {base : Nat} {a : Addr} {e : TypeId} {n : Nat} (h : w.has P r base a e n) : ∃ C row f, w.heap[a.block]? = some (.cells C row f) ∧ a.off ≤ C.size ∧ a.spot = none := by
  obtain ⟨_, hs, row, cells, hsh, hl⟩ := h
  unfold World.shape? at hsh
  split at hsh
  · rename_i C e' f hb
    obtain ⟨rfl, rfl⟩ := (by simpa using hsh : e' = row ∧ C.size = cells)
    exact ⟨C, e', f, hb, Nat.le_trans (liesAt_off hl) (Nat.div_mul_le_self _ _), hs⟩
  · cases hsh
theorem okWide_slice {P : Program} {w : World} {r : Reach} {base : Nat} {t e : TypeId} {v : Value} (ht : P.underlying t = some (.slice e)) (h : Cell.okWide P w r base t v) :
    v = .slice none 0 0 ∨ ∃ a len cap, v = .slice (some a) len cap ∧ w.has P r base a e cap := by
  unfold Cell.okWide at h
  rw [ht] at h
  have h' : Cell.ok P w r base t v := by
    split at h <;> first | exact h | simp_all
  unfold Cell.ok at h'
  rw [ht] at h'
  split at h' <;> first | exact .inl rfl | (cases h'; done) | skip
  all_goals first | (rename_i h1 h2; simp_all; done) | skip
  all_goals first | (simp_all; exact ⟨_, _, _, ⟨rfl, rfl, rfl⟩, h'.2.2⟩) | (simp_all)
theorem int_wf {k : IntKind} {x : Int} (h : (Lit.int k x).wf = true) : k.min ≤ x ∧ x ≤ k.max := by
  simpa [Lit.wf] using h
theorem View.ints {H : Type} {enc : TypeId × Value → H} {P : Program} {w : World} {ρ : Plc} {σ : Heap} (h : View w ρ σ) {r : Reach} {base : Nat} {t e : TypeId} {v : Value} {fuel : Nat} {x : DataW H × List MemPlace}
    (ht : P.underlying t = some (.slice e)) (he : P.underlying e = some (.int .i64)) (hc : P.cellsOf e = 1) (hok : Cell.okWide P w r base t v) (hd : DataW.trod enc P w 0 (fun _ => true) true fuel t [v] = some x) :
    ∃ ρ' σ' vv l, View w ρ' σ' ∧ More ρ σ ρ' σ' ∧ VRel ρ' σ'.n vv v ∧ σ'.ints vv = some l ∧ ∀ z ∈ l, -9223372036854775808 ≤ z ∧ z ≤ 9223372036854775807 := by
  rcases okWide_slice ht hok with rfl | ⟨a, len, cap, rfl, hh⟩
  · exact ⟨ρ, σ, .slice none 0 0, [], h, More.refl _ _, .nilSl, rfl, fun z hz => by cases hz⟩
  rcases open_ints ht he hc hd with ⟨hx, _⟩ | ⟨a', len', cap', zs, hx, _, hlc, hcap, hlen, _, hcell, hwf⟩
  · simp at hx
  obtain ⟨rfl, rfl, rfl⟩ := (by simpa using hx : a = a' ∧ len = len' ∧ cap = cap')
  simp only [if_true] at hlen
  obtain ⟨C, row, f, hb, hoff, hsp⟩ := has_block hh
  obtain ⟨blk, off, spot⟩ := a
  simp only at hb hoff hsp
  subst hsp
  have hadd : ∀ i, (⟨blk, off, none⟩ : Addr).add i = ⟨blk, off + i, none⟩ := fun i => by unfold Addr.add; split <;> simp_all
  have hsz : off + cap ≤ C.size := by
    rcases Nat.eq_zero_or_pos cap with h0 | h0
    · omega
    · have := hcell (cap - 1) (by omega)
      rw [hadd] at this
      unfold World.cell? at this
      simp only [hb] at this
      have := (Array.getElem?_eq_some_iff.1 (by simpa using this)).1
      omega
  obtain ⟨hv, hm⟩ := h.add ⟨blk, off, cap, ⟨1, row⟩, false⟩ (zs.map (Value.int .i64)) hb hsz (by simp [hlen]) rfl (fun k v hk => by
    rw [List.getElem?_map] at hk
    cases hz : zs[k]? with
    | none => rw [hz] at hk; cases hk
    | some z =>
      rw [hz] at hk
      obtain rfl := (Option.some.inj hk).symm
      have hkl : k < zs.length := (List.getElem?_eq_some_iff.1 hz).1
      have := hcell k hkl
      rw [hadd, List.getD_eq_getElem?_getD, hz] at this
      exact ⟨_, this, .int _ _⟩)
  refine ⟨_, _, .slice (some ⟨σ.n, 0, none⟩) len cap, zs.take len, hv, hm, ?_, ?_, fun z hz => ?_⟩
  · refine .sl _ _ _ _ _ _ (by simp) fun p hp => ?_
    simp [Plc.put] at hp
    subst hp
    exact ⟨Nat.le_refl _, (fun h => by cases h), 0, by simp, by simp, .inl rfl⟩
  · unfold Heap.ints Heap.sl
    simp only [Heap.get_push_self]
    rw [if_pos (by simp [hlen]; omega)]
    simp only [List.drop_zero, Nat.mul_one, Option.bind_some, ← List.map_take]
    exact decInts_map _
  · have := int_wf (hwf z (List.mem_of_mem_take hz))
    simpa [IntKind.min, IntKind.max, IntKind.signed, IntKind.bits] using this
theorem okWide_field {P : Program} {w : World} {r : Reach} {base : Nat} {t : TypeId} {fs : Array Field} {cs : Array Value} {ts : List TypeId} (hs : P.underlying t = some (.struct fs)) (hts : P.cellTypes P.depth t = some ts) (h : Value.okWide P w r base t (.agg cs)) {i : Nat} {v : Value} {u : TypeId}
    (hi : cs[i]? = some v) (hu : ts[i % ts.length]? = some u) : Cell.okWide P w r base u v := by
  unfold Value.okWide at h
  rw [hs] at h
  obtain ⟨cs', e, _, ts', h1, _, h2⟩ := h
  cases e
  obtain rfl := Option.some.inj (hts.symm.trans h1)
  obtain ⟨u', h3, h4⟩ := h2 i v hi
  obtain rfl := Option.some.inj (hu.symm.trans h3)
  exact h4
theorem okWide_cell {P : Program} {w : World} {r : Reach} {base : Nat} {t e : TypeId} {v : Value} (ht : P.underlying t = some (.slice e)) (h : Value.okWide P w r base t v) : Cell.okWide P w r base t v := by
  unfold Value.okWide at h
  rw [ht] at h
  exact h
theorem View.slInts {H : Type} {enc : TypeId × Value → H} {P : Program} {w : World} {ρ : Plc} {σ : Heap} (h : View w ρ σ) {r : Reach} {base : Nat} {t e : TypeId} {v : Value} {d : DataW H} {p : List MemPlace}
    (ht : P.underlying t = some (.slice e)) (he : P.underlying e = some (.int .i64)) (hc : P.cellsOf e = 1) (hok : Value.okWide P w r base t v) (hd : DataW.Trod enc P w 0 (fun _ => true) true t v d p) :
    ∃ ρ' σ' vv l, View w ρ' σ' ∧ More ρ σ ρ' σ' ∧ VRel ρ' σ'.n vv v ∧ σ'.ints vv = some l ∧ ∀ z ∈ l, -9223372036854775808 ≤ z ∧ z ≤ 9223372036854775807 := by
  have ho := okWide_cell ht hok
  obtain ⟨fuel, hf⟩ := hd
  have hv : v.cells.toList = [v] := by
    rcases okWide_slice ht ho with rfl | ⟨a, len, cap, rfl, _⟩ <;> rfl
  rw [hv] at hf
  exact h.ints ht he hc ho hf
theorem View.intInts {H : Type} {enc : TypeId × Value → H} {P : Program} {w : World} {ρ : Plc} {σ : Heap} (h : View w ρ σ) {r : Reach} {base : Nat} {ts ti t e : TypeId} {f0 f1 : Field} {v : Value} {d : DataW H} {p : List MemPlace}
    (hs : P.underlying ts = some (.struct #[f0, f1])) (hone : oneCellFields P #[f0, f1] = true) (hC : P.cellsOf ts = 2) (hts : P.cellTypes P.depth ts = some [ti, t]) (h0 : f0.type = ti) (h1 : f1.type = t)
    (hi : P.underlying ti = some (.int .i64)) (ht : P.underlying t = some (.slice e)) (he : P.underlying e = some (.int .i64)) (hc : P.cellsOf e = 1) (hok : Value.okWide P w r base ts v) (hd : DataW.Trod enc P w 0 (fun _ => true) true ts v d p) :
    ∃ ρ' σ' k vv l, View w ρ' σ' ∧ More ρ σ ρ' σ' ∧ VRel ρ' σ'.n (.agg #[.int .i64 k, vv]) v ∧ (-9223372036854775808 ≤ k ∧ k ≤ 9223372036854775807) ∧ σ'.ints vv = some l ∧ ∀ z ∈ l, -9223372036854775808 ≤ z ∧ z ≤ 9223372036854775807 := by
  obtain ⟨v0, v1, y0, y1, n, rfl, -, -, d0, d1⟩ := open_agg2 hs hone hC hok hd
  obtain ⟨k, hk, _, wk⟩ := DataW.trod_int (h0 ▸ hi) d0
  obtain rfl := (List.cons.inj hk).1
  have o1 : Cell.okWide P w r base t v1 := okWide_field hs hts hok (i := 1) rfl rfl
  obtain ⟨ρ', σ', vv, l, hv, hm, hr, hl, hw⟩ := h.ints ht he hc o1 (h1 ▸ d1)
  refine ⟨ρ', σ', k, vv, l, hv, hm, ?_, ?_, hl, hw⟩
  · exact VRel.agg_of (cs := [_, _]) (ds := [_, _]) (.cons (.int _ _) (.cons hr (.nil _ _)))
  · have := int_wf wk
    simpa [IntKind.min, IntKind.max, IntKind.signed, IntKind.bits] using this
theorem View.calls {P : Program} {f : FuncId} {w : World} {ρ : Plc} {σ : Heap} (h : View w ρ σ) {args : List Value} {cargs : Array Value} (hl : LRel ρ σ.n args cargs.toList) (hc : VCallsTo P f args σ fun v _ => v = .bool true) :
    Calls P f cargs w fun e w' => e = .returned (.bool true) ∧ Below w.heap.size w w' := by
  refine (hc ρ w cargs h.rel hl).mono fun e w' ⟨c, he, v, ρ', σ', hv, hr, _, hx⟩ => ?_
  subst hv
  have : c = .bool true := by cases hr; rfl
  subst this
  exact ⟨he, hx.os, hx.tape, hx.output, hx.size, fun B hB => hx.keep B hB fun ⟨i, p, b, _, hi, hw, _⟩ => by rw [h.ro i b hi] at hw; cases hw⟩
theorem trodAll_stays {H : Type} {enc : TypeId × Value → H} {P : Program} (hl : laidOutB P = true) {W W' : World} {sp : Nat → Bool} (hb : Below W.heap.size W W') :
    ∀ {ts : List TypeId} {vs : List Value} {ds : List (DataW H)} {ps : List MemPlace}, (∀ t ∈ ts, P.readableRec t = true ∧ t < P.types.size) → DataW.TrodAll enc P W 0 (fun _ => true) true ts vs ds ps → (∀ p ∈ ps, p.block < W.heap.size) → (∀ p ∈ ps, sp p.block = true) →
      DataW.TrodAll enc P W' 0 sp true ts vs ds ps
  | [], vs, ds, ps, _, h, _, _ => by
    obtain ⟨rfl, rfl, rfl⟩ := trodAll_nil h
    rfl
  | t :: ts, vs, ds, ps, ht, h, hlt, hs => by
    obtain ⟨v, vs', d, ds', p, q, rfl, rfl, rfl, h1, h2⟩ := trodAll_cons h
    obtain ⟨r1, r2⟩ := ht t (by simp)
    exact ⟨p, q, WideElems.Trod_stays hl r1 r2 h1 (fun x hx => hb.same (hlt x (by simp [hx]))) (fun x hx => hs x (by simp [hx])),
      trodAll_stays hl hb (fun t ht' => ht t (by simp [ht'])) h2 (fun x hx => hlt x (by simp [hx])) (fun x hx => hs x (by simp [hx])), rfl⟩
theorem post_true {H : Type} {enc : TypeId × Value → H} {P : Program} {f : Func} {s : ChangeSpec} {apart fresh handsOn again : Bool} {W W' : World} {args : Array Value} {ds gs : List (DataW H)} {before : List MemPlace} {tb : TypeId}
    (hl : laidOutB P = true) (hp : f.params.toList.all (fun t => P.readableRec t && decide (t < P.types.size)) = true) (hvars : s.vars = []) (hr : f.resultTypes = #[tb]) (hb1 : P.underlying tb = some .bool) (hs : s.fn H ds = { results := [.lit (.bool true)], args := ds })
    (hW : DataW.Whole enc P f.params.toList s.vars apart W args.toList ds gs before) (hb : Below W.heap.size W W') : s.post enc P f apart fresh handsOn again W args (.bool true) W' := by
  have hlt : ∀ p ∈ before, p.block < W.heap.size := fun p hp => hW.lt p hp
  have hW0 := hW
  obtain ⟨p, q, hA, hV, rfl, hz, hn⟩ := hW
  rw [hvars] at hV
  obtain ⟨rfl, rfl⟩ := trodVars_none hV
  have hp' : ∀ t ∈ f.params.toList, P.readableRec t = true ∧ t < P.types.size := fun t ht => by
    have := List.all_eq_true.1 hp t ht
    simpa using this
  have hsg : s.fn H (ds ++ []) = { results := [.lit (.bool true)], args := ds } := by rw [List.append_nil]; exact hs
  have hres : ∀ (b : Nat) (sp : Nat → Bool) (hd : Bool), DataW.TrodAll enc P W' b sp hd f.resultTypes.toList ((Value.bool true).resultList f.resultTypes.size) (s.fn H (ds ++ [])).results [] := fun b sp hd => by
    rw [hsg, hr]
    exact trodAll_mk1 (shut_bool hb1 _)
  have hargs : ∀ sp : Nat → Bool, (∀ x ∈ p ++ [], sp x.block = true) → DataW.TrodAll enc P W' 0 sp true f.params.toList args.toList (s.fn H (ds ++ [])).args p := fun sp hsp => by
    rw [hsg]
    exact trodAll_stays hl hb hp' hA (fun x hx => hlt x (by simp [hx])) (fun x hx => hsp x (by simp [hx]))
  have hvs : ∀ sp : Nat → Bool, DataW.TrodVars enc P W' sp s.vars (s.fn H (ds ++ [])).vars [] := fun sp => by
    rw [hsg, hvars]; rfl
  have hold : ∀ x ∈ p ++ [], (fun b => decide (b < W.heap.size)) x.block = true := fun x hx => by simpa using hlt x hx
  refine ⟨ds, [], p ++ [], [], p, [], hW0, hres _ _ _, hargs _ hold, hvs _, World.keptBut_mono (fun x hx => ⟨hx, ?_⟩) (hb.frame (· ∈ p ++ [])), fun _ => ?_⟩
  · exact .inr (by simpa using hx)
  · refine ⟨ok_one hr rfl (okWide_bool_mk hb1 _), _, _, ([] ++ p) ++ [], ⟨[] ++ p, [], trodAll_append (hargs _ (fun _ _ => rfl)) (hres _ _ _), hvs _, rfl, ?_, ?_⟩, ?_⟩
    · intro b off hx
      have hin : MemPlace.cell b off ∈ p ++ [] := by simpa using hx
      rw [hb.frozen (hlt _ hin)]
      exact hz b off hin
    · intro ha
      simpa using hn ha
    · intro x hx _
      simpa using hx
end Go.V
