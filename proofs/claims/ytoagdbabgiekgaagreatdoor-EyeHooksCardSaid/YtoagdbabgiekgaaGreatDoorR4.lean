/- A framework for walks, contracts of functions, and their proofs: part 4. -/
import Derived.Test.YtoagdbabgiekgaaGreatDoorR3
namespace Go.V
open Go
section
variable {P : Program} {B F : Heap} {pl : Nat → Value} {tb : Nat → Option Bool} {own : Own} {σ : Heap}
mutual
theorem resP_sound {bx : List SV → Nat → SV} (hle : B.Le σ) (hobj : ∀ d, OR P B pl tb σ (pl d) (oget own d))
  (hbx : ∀ l off b c e t, σ.get b = some (.cells c e true t) → SRs P B pl tb l c → SR P σ noPl noTb (bx l off) (.pointer (some ⟨b, off, none⟩))) :
  ∀ (s : SV) (v : Value), SR P B pl tb s v → SR P σ noPl noTb (resP own bx s) v
 | .any, v, h => by simp [resP, SR]
 | .val k x, v, h => by simp only [resP, SR] at h ⊢; exact h.mono hle
 | .bid n c, v, h => by simp only [resP, SR] at h ⊢; obtain ⟨rfl, _⟩ := h; rfl
 | .grd gs s, v, h => by simp [resP, SR]
 | .nilS, v, h => by simp only [resP, SR] at h ⊢; exact h
 | .nilP, v, h => by simp only [resP, SR] at h ⊢; exact h
 | .nilM, v, h => by simp only [resP, SR] at h ⊢; exact h
 | .nilF, v, h => by simp only [resP, SR] at h ⊢; exact h
 | .lst o, v, h => by
  simp only [resP]
  split
  ·rename_i ty k xs nl ho
   have : view own k (.lst o) = some xs := by simp [view, ho, castL]
   simp only [SR, KC]
   exact ⟨v, rfl, (view_sound hle hobj this h).mono (Heap.Le.refl _) fun _ _ e => e.mono hle⟩
  ·simp [SR]
 | .sub o lo n sz, v, h => by
  simp only [resP]
  split
  ·rename_i ty k xs nl ho
   split
   ·rename_i hsz
    have : view own k (.sub o lo n sz) = some ((xs.drop lo).take n) := by simp [view, ho, castL, hsz]
    simp only [SR, KC]
    exact ⟨v, rfl, (view_sound hle hobj this h).mono (Heap.Le.refl _) fun _ _ e => e.mono hle⟩
   ·simp [SR]
  ·simp [SR]
 | .elp o i off sz, v, h => by simp [resP, SR]
 | .dd o w, v, h => by
  simp only [resP]
  simp only [SR] at h
  split
  ·rename_i ty q k xs nl hole ho
   have hob := hobj o
   rw [ho] at hob
   have hle' := DP.le hob
   split
   ·split
    ·obtain ⟨h1, _⟩ := h
     simp only [SR, KC]
     refine ⟨v, rfl, ?_⟩
     rw [h1]
     exact (DP.sl hob).mono hle' fun _ _ e => e.mono hle'
    ·simp [SR]
   ·simp only [SR]; exact KC.mono hle' h
   ·simp only [SR]; exact KC.mono hle' h.1
   ·simp [SR]
  ·simp [SR]
 | .map o, v, h => by simp [resP, SR]
 | .tup l, v, h => by simp [resP, SR]
 | .box o off, v, h => by
  simp only [resP]
  split
  ·rename_i l _ ho
   have hob := hobj o
   rw [ho] at hob
   obtain ⟨i, c, e, t, h1, h2, h3, _⟩ := hob
   simp only [SR] at h
   obtain ⟨b, h4, rfl⟩ := h
   rw [h4] at h1
   obtain rfl := (by simpa using h1 : b = i)
   exact hbx l off b c e t h2 h3
  ·simp [SR]
 | .rop k l i off, v, h => by
  simp only [resP]
  exact SR.mono (tb := tb) hle (fun n c hn => hn) (.rop k l i off) v h |> fun h => by simp only [SR] at h ⊢; exact h
 | .cp l off, v, h => by
  simp only [resP, SR] at h ⊢
  obtain ⟨b, c, e, wr, t, h1, h2, h3⟩ := h
  exact ⟨b, c, e, wr, t, hle.2 _ _ h1, h2, resPs_sound hle hobj hbx l c h3⟩
 | .agg l, v, h => by
  simp only [resP, SR] at h ⊢
  obtain ⟨cs, h1, h2⟩ := h
  exact ⟨cs, h1, resPs_sound hle hobj hbx l cs h2⟩
 | .fn f a b, v, h => by
  simp only [resP, SR] at h ⊢
  obtain ⟨x, y, h1, h2, h3⟩ := h
  exact ⟨x, y, h1, resPs_sound hle hobj hbx a x h2, resPs_sound hle hobj hbx b y h3⟩
 | .pf ks r dom p, v, h => by simp only [resP, SR] at h ⊢; exact h.mono hle
theorem resPs_sound {bx : List SV → Nat → SV} (hle : B.Le σ) (hobj : ∀ d, OR P B pl tb σ (pl d) (oget own d))
  (hbx : ∀ l off b c e t, σ.get b = some (.cells c e true t) → SRs P B pl tb l c → SR P σ noPl noTb (bx l off) (.pointer (some ⟨b, off, none⟩))) :
  ∀ (s : List SV) (v : List Value), SRs P B pl tb s v → SRs P σ noPl noTb (resPs own bx s) v
 | [], v, h => by simp only [resPs, SRs] at h ⊢; exact h
 | s :: ss, v, h => by
  simp only [resPs, SRs] at h ⊢
  obtain ⟨x, y, h1, h2, h3⟩ := h
  exact ⟨x, y, h1, resP_sound hle hobj hbx s x h2, resPs_sound hle hobj hbx ss y h3⟩
end
theorem ress_sound (hle : B.Le σ) (hobj : ∀ d, OR P B pl tb σ (pl d) (oget own d)) {l : List SV} {v : List Value} (h : SRs P B pl tb l v) : SRs P σ noPl noTb (ress own l) v := by
 have h0 : ∀ {l v}, SRs P B pl tb l v → SRs P σ noPl noTb (res0 own l) v := fun h => resPs_sound hle hobj (fun _ _ _ _ _ _ _ _ => by simp [SR]) _ _ h
 have h1 : ∀ {l v}, SRs P B pl tb l v → SRs P σ noPl noTb (res1 own l) v := fun h => resPs_sound hle hobj (fun l off b c e t hg hs => by
  simp only [SR]; exact ⟨b, c, e, true, t, hg, rfl, h0 hs⟩) _ _ h
 exact resPs_sound hle hobj (fun l off b c e t hg hs => by
  simp only [SR]; exact ⟨b, c, e, true, t, hg, rfl, h1 hs⟩) _ _ h
mutual
theorem cval_eq {p q : Nat → Value} {n : Nat} (h : ∀ j, j < n → p j = q j) : ∀ (s : SV), s.ret n = true → cval p s = cval q s
 | .val _ _, _ | .nilS, _ | .nilP, _ | .nilM, _ | .nilF, _ => by simp [cval]
 | .lst j, hr => by simp only [cval]; exact h j (by simpa [SV.ret, Nat.blt_eq] using hr)
 | .agg l, hr => by simp only [cval]; rw [cvals_eq h l hr]
 | .tup l, hr => by simp only [cval]; rw [cvals_eq h l hr]
 | .box _ _, _ | .map _, _ => by simp [cval]
 | .dd _ _, _ => by simp [cval]
 | .any, h | .bid _ _, h | .grd _ _, h | .sub _ _ _ _, h | .elp _ _ _ _, h | .rop _ _ _ _, h | .cp _ _, h | .fn _ _ _, h | .pf _ _ _ _, h => by cases h
theorem cvals_eq {p q : Nat → Value} {n : Nat} (h : ∀ j, j < n → p j = q j) : ∀ (s : List SV), SVs.ret n s = true → cvals p s = cvals q s
 | [], _ => rfl
 | s :: ss, hr => by
  simp only [SVs.ret, Bool.and_eq_true] at hr
  simp only [cvals]; rw [cval_eq h s hr.1, cvals_eq h ss hr.2]
end
theorem gcallee_sound {cs : List (Nat × CSp)} (hcs : CsOk P cs) {f : SV} {args : List SV} {c : Prop} {v : SV} {bs : List OB} {fV : Value} {vs : List Value} (hf : SR P σ noPl noTb f fV) (ha : SRs P σ noPl noTb args vs)
  (h : gcallee cs f args = some (c, v, bs)) (hv : v.ret bs.length = true) (hb : bs.all OB.ret = true) (hc : c) : ∃ g a b, fV = .func (.func g) a b ∧ (VCalled P g (a.toList ++ vs ++ b.toList) σ fun u σ' => Ret P σ v bs u σ') ∧
  (bs.all OB.isL = true → noBox v = true → VCalled P g (a.toList ++ vs ++ b.toList) σ fun u σ' => u = cval (canP σ bs) v ∧ σ' = canH σ bs) := by
 have gen : (gap cs 3 f args).map (fun x => (x.1, x.2, ([] : List OB))) = some (c, v, bs) → ∃ g a b, fV = .func (.func g) a b ∧ (VCalled P g (a.toList ++ vs ++ b.toList) σ fun u σ' => Ret P σ v bs u σ') ∧
   (bs.all OB.isL = true → noBox v = true → VCalled P g (a.toList ++ vs ++ b.toList) σ fun u σ' => u = cval (canP σ bs) v ∧ σ' = canH σ bs) := fun h => by
  simp only [Option.map_eq_some_iff] at h
  obtain ⟨⟨c', v'⟩, h1, h2⟩ := h
  simp only [Prod.mk.injEq] at h2
  obtain ⟨rfl, rfl, rfl⟩ := h2
  obtain ⟨h3, g, a, b, rfl, h4⟩ := gap_ok hcs 3 σ f args c' v' fV vs hf ha h1 hc
  refine ⟨g, a, b, rfl, h4.mono fun u σ' hu => ?_, fun _ hnb => h4.mono fun u σ' hu => ?_⟩
  ·obtain ⟨rfl, hu⟩ := hu
   exact ⟨⟨Heap.Le.refl _, Dead.refl _⟩, fun _ => rfl, noPl, (fun j b hj => by simp at hj), (fun j j' i hj => by simp at hj), hu⟩
  ·obtain ⟨rfl, hu⟩ := hu
   have hz : canH σ' [] = σ' := (canon_ret (P := P) σ' (v := v') (bs := []) h3 hnb rfl rfl (fun b hb => by cases hb)).2.1 rfl
   refine ⟨?_, hz.symm⟩
   rw [cval_sound v' u h3 hnb hu]
   exact cval_eq (fun j hj => by omega) v' h3
 cases f with
 | fn g a b =>
  simp only [gcallee] at h
  split at h
  ·rename_i sp hsp
   simp only [SR] at hf
   obtain ⟨x, y, rfl, h1, h2⟩ := hf
   refine ⟨g, x.toArray, y.toArray, rfl, ?_⟩
   simpa using hcs g sp hsp (gap cs 3) (gap_ok hcs 3) σ (a ++ args ++ b) (x ++ vs ++ y) c v bs ((h1.append ha).append h2) h hv hb hc
  ·cases h
 | _ => exact gen h
theorem Gam.heap_get {s : St} {env : Env} {σ' : Heap} (h : Gam P B F pl tb s env σ) (hl : σ.Le σ') {d : Nat} (hlive : (oget s.own d).live = true) {i : Nat} (hi : Oid (pl d) i) : σ'.get i = σ.get i := by
  have hlt := (h.obj d).id_lt hlive hi
  cases hb : σ.get i with
  | none =>
   have hob := h.obj d
   cases ho : oget s.own d with
   | dead => rw [ho] at hlive; cases hlive
   | lst ty k xs nl =>
    rw [ho] at hob
    rcases hob with ⟨_, _, h2⟩ | ⟨_, i', cap, c, t, h2, _, h3, _⟩
    ·rw [h2] at hi; cases hi
    ·rw [h2] at hi; obtain rfl := Option.some.inj hi; rw [h3] at hb; cases hb
   | cells l u => rw [ho] at hob; obtain ⟨i', c, e, t, h2, h3, _⟩ := hob; rw [h2] at hi; obtain rfl := Option.some.inj hi; rw [h3] at hb; cases hb
   | map kk vk m => rw [ho] at hob; obtain ⟨i', es, cl, h2, h3, _⟩ := hob; rw [h2] at hi; obtain rfl := Option.some.inj hi; rw [h3] at hb; cases hb
   | stk l vals => rw [ho] at hlive; cases hlive
   | deep ty q k xs nl hh =>
    rw [ho] at hob
    obtain ⟨is, _, d2, d3, _⟩ := DP.open hob
    obtain ⟨c, e, t, h⟩ := d2.cells i ((d3 i).1 hi)
    rw [h] at hb; cases hb
  | some b => rw [hl.2 i b hb]
theorem Gam.heap {s : St} {env : Env} {σ' : Heap} (h : Gam P B F pl tb s env σ) (hl : σ.Le σ') : Gam P B F pl tb s env σ' :=
 ⟨h.bf, h.le.trans hl, h.env, fun d => (h.obj d).mono (Heap.Le.refl _) (fun _ _ h => h) fun hlive i hi => h.heap_get hl hlive hi, h.fresh, h.sep, h.free⟩
theorem makes_sound {env : Env} {σ0 : Heap} {d nt : Nat} (hnt : 0 < nt) (plc : Nat → Value) (bs : List OB) (hB : F.Le σ0)
  (hob : ∀ j b, bs[j]? = some b → b.ret = true ∧ OR P hNil plc noTb σ (plc j) b ∧ ∀ i, Oid (plc j) i → σ0.n ≤ i)
  (hsep : ∀ j j' i, j < bs.length → j' < bs.length → j ≠ j' → Oid (plc j) i → Oid (plc j') i → False) :
  ∀ (r : List OB) (j : Nat) (pl : Nat → Value) (s : St), bs.drop j = r → Gam P B F pl tb s env σ → (∀ k i, (oget s.own k).live = true → Oid (pl k) i → i < σ0.n ∨ ∃ j' < j, j' < bs.length ∧ Oid (plc j') i ∧ k = d + j' * nt) → (∀ j' < j, j' < bs.length → pl (d + j' * nt) = plc j') →
   ∃ pl', Gam P B F pl' tb (s.makes d nt j r) env σ ∧ (∀ j' < bs.length, pl' (d + j' * nt) = plc j') ∧ ∀ q, (∀ j' < bs.length, q ≠ d + j' * nt) → pl' q = pl q ∧ (oget (s.makes d nt j r).own q).live = (oget s.own q).live
 | [], j, pl, s, hr, hG, _, hp => ⟨pl, hG, fun j' hj' => hp j' (by
   have := congrArg List.length hr
   simp at this; omega) hj', fun q _ => ⟨rfl, rfl⟩⟩
 | b :: r, j, pl, s, hr, hG, hinv, hp => by
  have hjl : j < bs.length := by
   rcases Nat.lt_or_ge j bs.length with h | h
   ·exact h
   ·rw [List.drop_eq_nil_of_le h] at hr; cases hr
  have hbj : bs[j]? = some b := by
   have : (bs.drop j)[0]? = some b := by rw [hr]; rfl
   simpa using this
  have hr' : bs.drop (j + 1) = r := by
   have : (bs.drop j).drop 1 = r := by rw [hr]; rfl
   simpa [List.drop_drop, Nat.add_comm] using this
  obtain ⟨h1, h2, h3⟩ := hob j b hbj
  have hkey : ∀ j' , j' ≠ j → d + j' * nt ≠ d + j * nt := fun j' hne e => hne (Nat.eq_of_mul_eq_mul_right hnt (by omega))
  obtain ⟨pl', k1, k2, k3⟩ : ∃ pl', Gam P B F pl' tb ((s.make (d + j * nt) b).makes d nt (j + 1) r) env σ ∧ (∀ j' < bs.length, pl' (d + j' * nt) = plc j') ∧ ∀ q, (∀ j' < bs.length, q ≠ d + j' * nt) → pl' q = updP pl (d + j * nt) (plc j) q ∧ (oget ((s.make (d + j * nt) b).makes d nt (j + 1) r).own q).live = (oget (s.make (d + j * nt) b).own q).live := by
   refine makes_sound hnt plc bs hB hob hsep r (j + 1) (updP pl (d + j * nt) (plc j)) _ hr' (hG.make (d + j * nt) b (plc j) hG.le (fun _ _ _ _ _ => rfl) (h2.retd h1 fun _ _ => rfl) fun i _ hi => ⟨F.wf _ (by have := h3 i hi; have := hB.1; omega), fun k hk hl e => ?_⟩) (fun k i hl hi => ?_) fun j' hj' hj'' => ?_
   ·rcases hinv k i hl e with h | ⟨j', hj', hj2, he, _⟩
    ·have := h3 i hi; omega
    ·exact hsep j j' i hjl hj2 (by omega) hi he
   ·by_cases hk : k = d + j * nt
    ·subst hk
     simp only [updP, if_true] at hi
     exact .inr ⟨j, by omega, hjl, hi, rfl⟩
    ·have hl' : (oget s.own k).live = true := by
      simp only [St.make, St.kill, oget_oset, oget_okill, if_neg hk] at hl
      rwa [OB.live_kill] at hl
     simp only [updP, if_neg hk] at hi
     rcases hinv k i hl' hi with h | ⟨j', hj', h5⟩
     ·exact .inl h
     ·exact .inr ⟨j', by omega, h5⟩
   ·by_cases e : j' = j
    ·subst e; simp [updP]
    ·simp only [updP, if_neg (hkey j' e)]
     exact hp j' (by omega) hj''
  refine ⟨pl', k1, k2, fun q hq => ?_⟩
  obtain ⟨e1, e2⟩ := k3 q hq
  refine ⟨by rw [e1]; simp [updP, hq j hjl], ?_⟩
  show (oget ((s.make (d + j * nt) b).makes d nt (j + 1) r).own q).live = _
  rw [e2]
  simp only [St.make, St.kill, oget_oset, oget_okill, if_neg (hq j hjl), OB.live_kill]
theorem Ret.gamF {s : St} {env : Env} {d nt : Nat} (hnt : 0 < nt) (hG : Gam P B F pl tb s env σ) {v : SV} {bs : List OB} {u : Value} {σ' : Heap} (hv : v.ret bs.length = true) (hb : bs.all OB.ret = true) (h : Ret P σ v bs u σ') :
  ∃ pl', Gam P B F pl' tb (s.makes d nt 0 bs) env σ' ∧ SR P B pl' tb (v.ren d nt) u ∧ ∀ q, (∀ j' < bs.length, q ≠ d + j' * nt) → (oget (s.makes d nt 0 bs).own q).live = (oget s.own q).live ∧ pl' q = pl q ∧ ((oget s.own q).live = true → ∀ i, Oid (pl q) i → σ'.get i = σ.get i) := by
 obtain ⟨⟨h1, _⟩, _, plc, h2, h3, h4⟩ := h
 obtain ⟨pl', h5, h6, h7⟩ := makes_sound (tb := tb) (d := d) hnt plc bs hG.le (fun j b hj => ⟨List.all_eq_true.1 hb b (List.mem_of_getElem? hj), (h2 j b hj).1, fun i hi => ((h2 j b hj).2 i hi).2⟩) h3 bs 0 pl s rfl (hG.heap h1)
  (fun k i hl hi => .inl ((hG.obj k).id_lt hl hi)) (fun j' hj' => by omega)
 exact ⟨pl', h5, SR.ren (tb := noTb) (fun j hj => h6 j hj) _ _ hv (SR.mono (tb := noTb) (tb' := noTb) (empty_le B) (fun _ _ h => h) _ _ h4), fun q hq => ⟨(h7 q hq).2, (h7 q hq).1, fun hl i hi => hG.heap_get h1 hl hi⟩⟩
theorem Ret.gam {s : St} {env : Env} {d nt : Nat} (hnt : 0 < nt) (hG : Gam P B F pl tb s env σ) {v : SV} {bs : List OB} {u : Value} {σ' : Heap} (hv : v.ret bs.length = true) (hb : bs.all OB.ret = true) (h : Ret P σ v bs u σ') :
  ∃ pl', Gam P B F pl' tb (s.makes d nt 0 bs) env σ' ∧ SR P B pl' tb (v.ren d nt) u := by
 obtain ⟨pl', h1, h2, _⟩ := h.gamF hnt hG hv hb
 exact ⟨pl', h1, h2⟩
end
end Go.V
namespace Go.V
open Go
section
variable {P : Program}
structure GBase (B0 F0 D0 B F σ : Heap) : Prop where
 b : B0.Le B
 f : F0.Le F
 x : ∀ i b, F0.get i = some b → B0.get i = none → B.get i = none
 d : Dead D0 σ
theorem GBase.of {B F σ : Heap} {σ' : Heap} (_hB : B.Le F) (h : Dead σ σ') : GBase B F σ B F σ' := ⟨.refl _, .refl _, fun _ _ _ h => h, h⟩
theorem GBase.trans {B0 F0 D0 B F σ B' F' σ' : Heap} (h : GBase B0 F0 D0 B F σ) (h' : GBase B F σ B' F' σ') : GBase B0 F0 D0 B' F' σ' :=
 ⟨h.b.trans h'.b, h.f.trans h'.f, fun i b h1 h2 => h'.x i b (h.f.2 _ _ h1) (h.x i b h1 h2), h.d.trans h'.d⟩
def GRel (P : Program) (B0 F0 D0 : Heap) (s : St) (env : Env) (σ : Heap) : Prop := ∃ B F pl tb, GBase B0 F0 D0 B F σ ∧ Gam P B F pl tb s env σ
theorem dead_n {B0 F0 D0 B F : Heap} {σ σ' : Heap} (hB : GBase B0 F0 D0 B F σ) (h : Dead σ σ') : GBase B0 F0 D0 B F σ' := ⟨hB.b, hB.f, hB.x, hB.d.trans h⟩
theorem Gam.evs {B F : Heap} {pl : Nat → Value} {tb : Nat → Option Bool} {s : St} {env : Env} {σ : Heap} (h : Gam P B F pl tb s env σ) {gs : List Gd} (hg : Gds tb gs) (x : Operand) : SR P B pl tb (gev gs s.env x) (evalO env x) := gev_sound hg h.env x
theorem Gds.nil {tb : Nat → Option Bool} : Gds tb [] := fun _ h => by cases h
theorem gimp_holds {gs : List Gd} {c : Prop} (h : gimp gs c) (hg : ∀ g ∈ gs, g.c = g.want) : c := by
 induction gs with
 | nil => exact h
 | cons g gs ih => exact ih (h (hg g (by simp))) fun g' hg' => hg g' (by simp [hg'])
theorem gobl_holds {gs : List Gd} {cs : List Prop} {q : Prop} (h : gobl gs cs q) : q ∧ ((∀ g ∈ gs, g.c = g.want) → ∀ c ∈ cs, c) := by
 induction cs with
 | nil => exact ⟨h, fun _ c hc => by cases hc⟩
 | cons c cs ih =>
  obtain ⟨h1, h2⟩ := h
  obtain ⟨h3, h4⟩ := ih h2
  exact ⟨h3, fun hg c' hc' => by
   rcases List.mem_cons.1 hc' with rfl | hc'
   ·exact gimp_holds h1 hg
   ·exact h4 hg c' hc'⟩
theorem Dead.push (σ : Heap) (b : Blk) : Dead σ (σ.push b) := ⟨by simp, fun i hi h => by rw [Heap.get_push_lt _ _ hi]; exact h⟩
theorem Dead.upd (σ : Heap) (j : Nat) (b : Blk) (hj : (σ.get j).isSome = true) : Dead σ (σ.upd j b) := ⟨by simp, fun i hi h => by
 have : i ≠ j := fun e => by subst e; rw [h] at hj; cases hj
 rw [Heap.get_upd_ne _ _ this]; exact h⟩
theorem Dead.kill (σ : Heap) (j : Nat) : Dead σ (σ.kill j) := ⟨by simp, fun i hi h => by
 by_cases e : i = j
 ·subst e; exact Heap.get_kill_self _ _
 ·rw [Heap.get_kill_ne _ e]; exact h⟩
theorem vappend_dead {e : El} {bytes m : Nat} {σ σ' : Heap} {s u : Value} {xs : List Value} (h : vappend e bytes σ s m xs = some (u, σ')) : Dead σ σ' := by
 unfold vappend at h
 split at h
 ·split at h
  ·obtain ⟨rfl, rfl⟩ := pinj h; exact Dead.refl _
  ·split at h
   ·obtain ⟨rfl, rfl⟩ := pinj h; exact Dead.push _ _
   ·cases h
 ·split at h
  ·rename_i hg
   split at h
   ·split at h
    ·obtain ⟨rfl, rfl⟩ := pinj h; exact Dead.refl _
    ·split at h
     ·split at h
      ·obtain ⟨rfl, rfl⟩ := pinj h; exact Dead.upd _ _ _ (by rw [hg]; rfl)
      ·cases h
     ·split at h
      ·split at h
       ·obtain ⟨rfl, rfl⟩ := pinj h; exact Dead.push _ _
       ·split at h
        ·obtain ⟨rfl, rfl⟩ := pinj h; exact (Dead.kill _ _).trans (Dead.push _ _)
        ·cases h
      ·cases h
   ·cases h
  ·cases h
 ·cases h
theorem vact_dead {o : VOp} {ev : Operand → Value} {σ σ' : Heap} {u : Value} (h : vact o ev σ = some (u, σ')) : Dead σ σ' := by
 by_cases hk : o.kind = 2
 ·cases o <;> first | (cases hk; done) | skip
  case alloc t z => obtain ⟨rfl, rfl⟩ := pinj h; exact Dead.push _ _
  case box t x =>
   simp only [vact] at h
   split at h
   ·obtain ⟨rfl, rfl⟩ := pinj h; exact Dead.push _ _
   ·cases h
  case buildSlice e z n ps =>
   simp only [vact] at h
   split at h
   ·obtain ⟨rfl, rfl⟩ := pinj h; exact Dead.push _ _
   ·cases h
  case makeSlice e b z l c =>
   simp only [vact] at h
   split at h
   ·split at h
    ·obtain ⟨rfl, rfl⟩ := pinj h; exact Dead.push _ _
    ·cases h
   ·cases h
  case store size a x =>
   simp only [vact] at h
   split at h
   ·split at h
    ·rename_i hg
     split at h
     ·obtain ⟨rfl, rfl⟩ := pinj h; exact Dead.upd _ _ _ (by rw [hg]; rfl)
     ·cases h
    ·cases h
   ·cases h
  case append e b x y =>
   simp only [vact] at h
   split at h
   ·split at h
    ·exact vappend_dead h
    ·cases h
   ·cases h
  case slice size x lo hi mx =>
   simp only [vact] at h
   split at h
   ·have sl : ∀ {l hh : Nat} {m : Option Nat} {v : Value}, vslice size σ v l hh m = some (u, σ') → Dead σ σ' := fun {l hh m v} h => by
     unfold vslice at h
     split at h
     ·split at h
      ·obtain ⟨rfl, rfl⟩ := pinj h; exact Dead.refl _
      ·cases h
     ·split at h
      ·split at h
       ·split at h
        ·obtain ⟨rfl, rfl⟩ := pinj h; exact Dead.refl _
        ·cases h
       ·split at h
        ·split at h
         ·obtain ⟨rfl, rfl⟩ := pinj h; exact Dead.push _ _
         ·obtain ⟨rfl, rfl⟩ := pinj h; exact Dead.refl _
        ·cases h
      ·cases h
     ·cases h
    split at h
    ·exact sl h
    ·split at h
     ·exact sl h
     ·cases h
    ·cases h
   ·cases h
  case callF f a => cases h
  case callV f a => cases h
  case ext x =>
   cases x <;> first | (cases hk; done) | skip
   case makeMap => obtain ⟨rfl, rfl⟩ := pinj h; exact Dead.push _ _
   case mapUpdate mk m k v =>
    simp only [vact, xact] at h
    split at h
    ·split at h
     ·rename_i hm
      split at h
      ·obtain ⟨rfl, rfl⟩ := pinj h
       refine Dead.upd _ _ _ ?_
       unfold Heap.mapAt at hm
       split at hm
       ·rename_i hg; rw [hg]; rfl
       ·cases hm
      ·cases h
     ·cases h
    ·cases h
   case delete mk m k => cases h
   case rangeMap x =>
    simp only [vact, xact] at h
    split at h
    ·split at h
     ·obtain ⟨rfl, rfl⟩ := pinj h; exact Dead.push _ _
     ·cases h
    ·cases h
   case nextMap x => cases h
   case copy size a b =>
    simp only [vact, xact] at h
    split at h
    ·split at h
     ·obtain ⟨rfl, rfl⟩ := pinj h; exact Dead.refl _
     ·split at h
      ·split at h
       ·rename_i hg
        split at h
        ·obtain ⟨rfl, rfl⟩ := pinj h; exact Dead.upd _ _ _ (by rw [hg]; rfl)
        ·cases h
       ·cases h
      ·cases h
    ·cases h
   case unsafeStr e x n =>
    simp only [vact, xact] at h
    split at h
    ·split at h
     ·obtain ⟨rfl, rfl⟩ := pinj h; exact Dead.refl _
     ·split at h
      ·split at h
       ·rename_i hg
        split at h
        ·split at h
         ·obtain ⟨rfl, rfl⟩ := pinj h; exact Dead.upd _ _ _ (by rw [hg]; rfl)
         ·cases h
        ·cases h
       ·cases h
      ·cases h
    ·cases h
 ·obtain rfl := act_quiet hk h; exact Dead.refl _
theorem gpick_sound {B F : Heap} {pl : Nat → Value} {tb : Nat → Option Bool} {s : St} {env : Env} {σ : Heap} (hG : Gam P B F pl tb s env σ) {gs : List Gd} (hg : Gds tb gs) {c a b : Operand} {v : SV} (h : gpick gs s.env c a b = some v) :
  ∃ u, vact (.pick c a b) (evalO env) σ = some (u, σ) ∧ SR P B pl tb v u := by
 have hc := hG.evs hg c
 unfold gpick at h
 split at h
 ·rename_i n t heq
  rw [heq] at hc
  simp only [SR] at hc
  obtain ⟨e, htb⟩ := hc
  have ht : ∀ w, t = w → Gds tb (gs ++ [⟨n, w, t⟩]) := fun w hw g hg' => by
   rcases List.mem_append.1 hg' with h1 | h1
   ·exact hg g h1
   ·obtain rfl := List.mem_singleton.1 h1; exact ⟨hw, htb⟩
  have hv : ∀ u, (if t then evalO env a else evalO env b) = u → vact (.pick c a b) (evalO env) σ = some (u, σ) := fun u hu => by
   simp only [vact, e]; rw [← hu]
  split at h
  ·rename_i b'
   simp only [Option.map_eq_some_iff] at h
   obtain ⟨y, h1, rfl⟩ := h
   refine ⟨.bool (t || y), hv _ ?_, sr_bool _⟩
   cases t with
   | true => rfl
   | false => simpa using asB_inv h1 (hG.evs (ht false rfl) _)
  ·rename_i a' hne
   simp only [Option.map_eq_some_iff] at h
   obtain ⟨x, h1, rfl⟩ := h
   refine ⟨.bool (t && x), hv _ ?_, sr_bool _⟩
   cases t with
   | true => simpa using asB_inv h1 (hG.evs (ht true rfl) _)
   | false => rfl
  ·split at h
   ·rename_i k x k' y h1 h2
    split at h
    ·rename_i hk
     subst hk
     obtain rfl := Option.some.inj h
     refine ⟨.int k (if t then x else y), hv _ ?_, sr_int _ _⟩
     cases t with
     | true => have := hG.evs (ht true rfl) a; rw [h1] at this; exact asI_inv rfl this
     | false => have := hG.evs (ht false rfl) b; rw [h2] at this; exact asI_inv rfl this
    ·cases h
   ·rename_i x y h1 h2
    obtain rfl := Option.some.inj h
    refine ⟨.bool (if t then x else y), hv _ ?_, sr_bool _⟩
    cases t with
    | true => have := hG.evs (ht true rfl) a; rw [h1] at this; exact asB_inv rfl this
    | false => have := hG.evs (ht false rfl) b; rw [h2] at this; exact asB_inv rfl this
   ·cases h
 ·cases h
theorem Gam.bid {B F : Heap} {pl : Nat → Value} {tb : Nat → Option Bool} {s : St} {env : Env} {σ : Heap} (hG : Gam P B F pl tb s env σ) {j : Nat} {v : SV} {c : Bool} (hv : ∀ tb', (∀ n c, tb n = some c → tb' n = some c) → tb' s.nx = some c → SR P B pl tb' v (env.getD j undef)) :
  ∃ tb', (∀ n c, tb n = some c → tb' n = some c) ∧ tb' s.nx = some c ∧ Gam P B F pl tb' ⟨s.env.set j v, s.own, s.nx + 1⟩ env σ := by
 refine ⟨fun n => if n = s.nx then some c else tb n, ?_, by simp, ?_⟩
 ·intro n c' hn
  by_cases e : n = s.nx
  ·rw [e, hG.free _ (Nat.le_refl _)] at hn; cases hn
  ·simp only [if_neg e]; exact hn
 ·have hm : ∀ n c', tb n = some c' → (fun n => if n = s.nx then some c else tb n) n = some c' := fun n c' hn => by
   by_cases e : n = s.nx
   ·rw [e, hG.free _ (Nat.le_refl _)] at hn; cases hn
   ·simp only [if_neg e]; exact hn
  refine ⟨hG.bf, hG.le, ?_, fun d => (hG.obj d).mono (Heap.Le.refl _) hm fun _ _ _ => rfl, hG.fresh, hG.sep, fun n hn => ?_⟩
  ·have h1 := SRs.mono (Heap.Le.refl B) hm _ _ hG.env
   by_cases hj : j < env.length
   ·have := h1.set j (hv _ hm (by simp))
    rwa [List.getD_eq_getElem?_getD, List.getElem?_eq_getElem hj, Option.getD_some, List.set_getElem_self] at this
   ·have : s.env.set j v = s.env := List.set_eq_of_length_le (by rw [hG.env.length]; omega)
    rw [this]; exact h1
  ·have : n ≠ s.nx := by simp only at hn; omega
   simp only [if_neg this]
   exact hG.free n (by simp only at hn; omega)
theorem not_all {gs : List Gd} (h : ¬ ∀ g ∈ gs, g.c = g.want) : ∃ g ∈ gs, g.c ≠ g.want := by
 rcases Classical.em (∃ g ∈ gs, g.c ≠ g.want) with h' | h'
 ·exact h'
 ·exact absurd (fun g hg => Classical.byContradiction fun hne => h' ⟨g, hg, hne⟩) h
theorem gguard_sound {B F : Heap} {pl : Nat → Value} {tb : Nat → Option Bool} {s : St} {env : Env} {σ : Heap} (hG : Gam P B F pl tb s env σ) {j : Nat} {want : Bool} {gs : List Gd} {s' : St} (h : gguard s j want = some (gs, s')) :
  ∃ tb', Gam P B F pl tb' s' env σ ∧ (∀ g ∈ gs, tb' g.id = some g.c) ∧ ∃ b, vwant env (some (j, want)) = some b ∧ (b = true → ∀ g ∈ gs, g.c = g.want) ∧ (b = false → ∃ g ∈ gs, g.c ≠ g.want) := by
 have hj := hG.env.getD j undef
 unfold gguard at h
 split at h
 ·rename_i c heq
  obtain ⟨rfl, rfl⟩ := pinj h
  rw [heq] at hj
  have hb : env.getD j undef = .bool c := asB_inv (s := .val .bo c) rfl hj
  obtain ⟨tb', h1, h2, h3⟩ := hG.bid (j := j) (v := .bid s.nx c) (c := c) fun tb' _ h => by simp only [SR]; exact ⟨hb, h⟩
  refine ⟨tb', h3, fun g hg => by obtain rfl := List.mem_singleton.1 hg; exact h2, c == want, by simp only [vwant, hb], fun e g hg => ?_, fun e => ⟨_, List.mem_singleton.2 rfl, ?_⟩⟩
  ·obtain rfl := List.mem_singleton.1 hg; simpa using e
  ·simpa using e
 ·rename_i n c heq
  obtain ⟨rfl, rfl⟩ := pinj h
  rw [heq] at hj
  simp only [SR] at hj
  refine ⟨tb, hG, fun g hg => by obtain rfl := List.mem_singleton.1 hg; exact hj.2, c == want, by simp only [vwant, hj.1], fun e g hg => ?_, fun e => ⟨_, List.mem_singleton.2 rfl, ?_⟩⟩
  ·obtain rfl := List.mem_singleton.1 hg; simpa using e
  ·simpa using e
 ·rename_i gs0 c heq
  obtain ⟨rfl, rfl⟩ := pinj h
  rw [heq] at hj
  simp only [SR] at hj
  obtain ⟨⟨k1, k0⟩, k2, k3⟩ := hj
  obtain ⟨tb', h1, h2, h3⟩ := hG.bid (j := j) (v := .grd gs0 (.bid s.nx c)) (c := c) fun tb' hm h => by
   simp only [SR]
   exact ⟨⟨fun g hg => hm _ _ (k1 g hg), h⟩, fun hall => ⟨asB_inv (s := .val .bo c) (P := P) (B := B) (pl := pl) (tb := tb) rfl (by simpa only [SR] using k2 hall), h⟩, k3⟩
  refine ⟨tb', h3, fun g hg => ?_, ?_⟩
  ·rcases List.mem_append.1 hg with h4 | h4
   ·exact h1 _ _ (k1 g h4)
   ·obtain rfl := List.mem_singleton.1 h4; exact h2
  ·by_cases hall : ∀ g ∈ gs0, g.c = g.want
   ·have hb : env.getD j undef = .bool c := asB_inv (s := .val .bo c) (P := P) (B := B) (pl := pl) (tb := tb) rfl (by simpa only [SR] using k2 hall)
    refine ⟨c == want, by simp only [vwant, hb], fun e g hg => ?_, fun e => ⟨_, List.mem_append.2 (.inr (List.mem_singleton.2 rfl)), by simpa using e⟩⟩
    rcases List.mem_append.1 hg with h4 | h4
    ·exact hall g h4
    ·obtain rfl := List.mem_singleton.1 h4; simpa using e
   ·have hex := not_all hall
    refine ⟨false, by simp only [vwant, k3 hex]; rfl, (fun e => by cases e), fun _ => ?_⟩
    obtain ⟨g, hg, hne⟩ := hex
    exact ⟨g, List.mem_append.2 (.inl hg), hne⟩
 ·rename_i gs0 n c heq
  obtain ⟨rfl, rfl⟩ := pinj h
  rw [heq] at hj
  simp only [SR] at hj
  obtain ⟨⟨k1, k0⟩, k2, k3⟩ := hj
  refine ⟨tb, hG, fun g hg => ?_, ?_⟩
  ·rcases List.mem_append.1 hg with h4 | h4
   ·exact k1 g h4
   ·obtain rfl := List.mem_singleton.1 h4; exact k0
  ·by_cases hall : ∀ g ∈ gs0, g.c = g.want
   ·obtain ⟨hb, htb⟩ := k2 hall
    refine ⟨c == want, by simp only [vwant, hb], fun e g hg => ?_, fun e => ⟨_, List.mem_append.2 (.inr (List.mem_singleton.2 rfl)), by simpa using e⟩⟩
    rcases List.mem_append.1 hg with h4 | h4
    ·exact hall g h4
    ·obtain rfl := List.mem_singleton.1 h4; simpa using e
   ·have hex := not_all hall
    refine ⟨false, by simp only [vwant, k3 hex]; rfl, (fun e => by cases e), fun _ => ?_⟩
    obtain ⟨g, hg, hne⟩ := hex
    exact ⟨g, List.mem_append.2 (.inl hg), hne⟩
 ·cases h
theorem Gam.gcall {B F : Heap} {pl : Nat → Value} {tb : Nat → Option Bool} {s : St} {env : Env} {σ : Heap} (hG : Gam P B F pl tb s env σ) {gs : List Gd} (hg : Gds tb gs) (args : List Operand) : SRs P σ noPl noTb (ress s.own (args.map (gev gs s.env))) (args.map (evalO env)) :=
 ress_sound hG.leB hG.obj (SRs.map fun x _ => hG.evs hg x)
theorem Gam.gfun {B F : Heap} {pl : Nat → Value} {tb : Nat → Option Bool} {s : St} {env : Env} {σ : Heap} (hG : Gam P B F pl tb s env σ) {gs : List Gd} (hg : Gds tb gs) (f : Operand) : SR P σ noPl noTb ((ress s.own [gev gs s.env f]).getD 0 .any) (evalO env f) := by
 have := (ress_sound hG.leB hG.obj (show SRs P B pl tb [gev gs s.env f] [evalO env f] by simp only [SRs]; exact ⟨_, [], rfl, hG.evs hg f, rfl⟩)).getD 0 poison
 simpa using this
theorem vcallV_of {env : Env} {f : Operand} {args : List Operand} {σ : Heap} {K : Value → Heap → Prop} {g : FuncId} {a b : Array Value} (e : evalO env f = .func (.func g) a b) (h : VCalled P g (a.toList ++ args.map (evalO env) ++ b.toList) σ K) :
  vop (semSpecs P) (.callV f args) env σ K := by
 simp only [vop, e]
 exact h
def XOk (P : Program) (f : Nat) (x : XSp) : Prop :=
 ∀ (B F : Heap) (pl : Nat → Value) (tb : Nat → Option Bool) (s : St) (env : Env) (σ : Heap) (d : Nat) (args : List SV) (vs : List Value) (K : SV → St → Prop) (R : Value → Heap → Prop),
  Gam P B F pl tb s env σ → SRs P B pl tb args vs → x d args s K →
  (∀ v s' B' F' pl' tb' u σ', K v s' → GBase B F σ B' F' σ' → Gam P B' F' pl' tb' s' env σ' → SR P B' pl' tb' v u → R u σ') → VCalled P f vs σ R
def ItOk (P : Program) (f : Nat) (it : ISp) : Prop := Enterable P f ∧
 ∀ (B : Heap) (args : List SV) (vs : List Value) (c : Prop) (m ar : Nat) (xs : Nat → List SV), SRs P B noPl noTb args vs → it args = some (c, m, ar, xs) → c →
  (∀ k, (xs k).length = ar ∧ SVs.pure (xs k) = true) ∧ ∀ (i : Nat) (Y : VSpec) (J : Nat → Heap → Prop) (E : Heap → Prop) (τ0 : Heap), OkYield P i Y → (∀ k τ, J k τ → B.Le τ) →
   (∀ k us τ, k < m → J k τ → SRs P B noPl noTb (xs k) us → Y us τ fun v τ' => (v = .bool true ∧ J (k + 1) τ') ∨ (v = .bool false ∧ E τ')) →
   J 0 τ0 → VCallsTo P f (.func (.yield i) #[] #[] :: vs) τ0 fun _ τ => J m τ ∨ E τ
structure COk (P : Program) (C : Cx) : Prop where
 cs : CsOk P C.cs
 xs : ∀ f x, alook C.xs f = some x → XOk P f x
 it : ∀ f x, alook C.it f = some x → ItOk P f x
theorem gqc_sound {C : Cx} (hcs : CsOk P C.cs) {B F : Heap} {pl : Nat → Value} {tb : Nat → Option Bool} {s : St} {env : Env} {σ : Heap} (hG : Gam P B F pl tb s env σ) {gs : List Gd} (hg : Gds tb gs) {raw : Bool} {o : VOp} {cs : List Prop} {v : SV}
  (h : gqc C raw o (gev gs s.env) s.own = some (cs, v)) (hc : ∀ c ∈ cs, c) {K : Value → Heap → Prop} (hK : ∀ u, SR P B pl tb v u → K u σ) : vop (semSpecs P) o env σ K := by
 have flat : ∀ {c : Prop} {v' : SV}, (bif v'.ret 0 then some ([c], v') else none) = some (cs, v) → v'.ret 0 = true ∧ c ∧ v' = v := fun {c v'} h => by
  cases hv : v'.ret 0 with
  | false => rw [hv] at h; cases h
  | true =>
   rw [hv] at h
   obtain ⟨rfl, rfl⟩ := pinj h
   exact ⟨rfl, hc _ (by simp), rfl⟩
 have quiet : ∀ o, gq C.kt raw o (gev gs s.env) s.own = some (cs, v) → (∀ K, obind (vact o (evalO env) σ) (fun p => K p.1 p.2) → vop (semSpecs P) o env σ K) → vop (semSpecs P) o env σ K := fun o h hv => by
  obtain ⟨u, h1, h2⟩ := gq_sound (hG.evs hg) (fun _ => rfl) hG.leB hG.obj h hc
  exact hv K (by rw [h1]; exact hK u h2)
 cases o
 case callF f args =>
  simp only [gqc] at h
  split at h
  ·rename_i c v' heq
   obtain ⟨h1, h2, rfl⟩ := flat h
   obtain ⟨g, a, b, h3, h4, _⟩ := gcallee_sound hcs (show SR P σ noPl noTb (.fn f [] []) (.func (.func f) #[] #[]) by simp only [SR, SRs]; exact ⟨[], [], rfl, rfl, rfl⟩) (hG.gcall hg args) heq h1 rfl h2
   obtain ⟨rfl, rfl, rfl⟩ := (by simpa using h3 : f = g ∧ #[] = a ∧ #[] = b)
   have := h4.mono (R' := K) fun u σ' hr => by
    obtain ⟨rfl, hu⟩ := hr.flat h1
    exact hK u (hu.retd (fun j hj => by omega) _ _ h1)
   show VCalled P f (args.map (evalO env)) σ K
   simpa using this
  ·cases h
 case callV f args =>
  simp only [gqc] at h
  split at h
  ·rename_i c v' heq
   obtain ⟨h1, h2, rfl⟩ := flat h
   obtain ⟨g, a, b, h3, h4, _⟩ := gcallee_sound hcs (hG.gfun hg f) (hG.gcall hg args) heq h1 rfl h2
   exact vcallV_of h3 (h4.mono fun u σ' hr => by
    obtain ⟨rfl, hu⟩ := hr.flat h1
    exact hK u (hu.retd (fun j hj => by omega) _ _ h1))
  ·cases h
 case ext x =>
  cases x
  case nextMap x => cases h
  all_goals exact quiet _ h fun _ h => h
 all_goals exact quiet _ h fun _ h => h
end
end Go.V
namespace Go.V
open Go
section
variable {P : Program}
mutual
theorem nmV_elim : ∀ (v : SV) {K : SV → Prop}, nmV v K → K v
 | .val k x, K, h => by simp only [nmV] at h; exact h x rfl
 | .agg l, K, h => by simp only [nmV] at h; exact nmVs_elim l h
 | .tup l, K, h => by simp only [nmV] at h; exact nmVs_elim l h
 | .any, _, h | .dd _ _, _, h | .bid _ _, _, h | .grd _ _, _, h | .nilS, _, h | .nilP, _, h | .nilM, _, h | .nilF, _, h | .lst _, _, h | .sub _ _ _ _, _, h | .elp _ _ _ _, _, h | .rop _ _ _ _, _, h | .box _ _, _, h | .cp _ _, _, h | .map _, _, h | .fn _ _ _, _, h | .pf _ _ _ _, _, h => by simp only [nmV] at h; exact h
theorem nmVs_elim : ∀ (l : List SV) {K : List SV → Prop}, nmVs l K → K l
 | [], K, h => by simp only [nmVs] at h; exact h
 | v :: r, K, h => by simp only [nmVs] at h; exact nmVs_elim r (nmV_elim v h)
end
theorem gnm_elim {C : Cx} {o : VOp} {ev : Operand → SV} {v : SV} {K : SV → Prop} (h : gnm C o ev v K) : K v := by
 unfold gnm at h
 cases hb : (C.nm && nmOp o ev) with
 | true => rw [hb] at h; exact nmV_elim v h
 | false => rw [hb] at h; exact h
theorem unbid_sr {B : Heap} {pl : Nat → Value} {tb : Nat → Option Bool} {v : SV} {u : Value} (h : SR P B pl tb v u) : SR P B pl tb (unbid v) u ∧ gtb tb (unbid v) := by
 cases v with
 | bid n c => simp only [SR] at h; obtain ⟨rfl, _⟩ := h; exact ⟨sr_bool _, trivial⟩
 | _ => exact ⟨h, trivial⟩
theorem unbid_tb {tb : Nat → Option Bool} (v : SV) : gtb tb (unbid v) := by cases v <;> trivial
theorem gcallN_sound {C : Cx} (hcs : COk P C) {B F : Heap} {pl : Nat → Value} {tb : Nat → Option Bool} {s : St} {env : Env} {σ : Heap} (hG : Gam P B F pl tb s env σ) {d : Nat} {f : SV} {args : List SV} {fV : Value} {vs : List Value} (hf : SR P B pl tb f fV) (ha : SRs P B pl tb args vs) {K : SV → St → Prop} (h : gcallN C d f args s K) {R : Value → Heap → Prop}
  (hK : ∀ v s' B' F' pl' tb' u σ', K v s' → GBase B F σ B' F' σ' → Gam P B' F' pl' tb' s' env σ' → SR P B' pl' tb' v u → R u σ') : ∃ g a b, fV = .func (.func g) a b ∧ VCalled P g (a.toList ++ vs ++ b.toList) σ R := by
 unfold gcallN at h
 have hf' : SR P σ noPl noTb ((ress s.own [f]).getD 0 .any) fV := by
  have := (ress_sound hG.leB hG.obj (show SRs P B pl tb [f] [fV] by simp only [SRs]; exact ⟨_, [], rfl, hf, rfl⟩)).getD 0 poison
  simpa using this
 have ha' := ress_sound hG.leB hG.obj ha
 split at h
 ·rename_i c v bs heq
  cases hb : (v.ret bs.length && (bs.all OB.ret && Nat.blt 0 C.nt)) with
  | false => rw [hb] at h; exact h.elim
  | true =>
   rw [hb] at h
   obtain ⟨h1, h2⟩ := h
   simp only [Bool.and_eq_true] at hb
   obtain ⟨g, a, b, e, hcall, _⟩ := gcallee_sound hcs.cs hf' ha' heq hb.1 hb.2.1 h1
   refine ⟨g, a, b, e, hcall.mono fun u σ' hr => ?_⟩
   obtain ⟨pl', h3, h4⟩ := hr.gam (nt := C.nt) (d := d) (by simpa [Nat.blt_eq] using hb.2.2) hG hb.1 hb.2.1
   exact hK _ _ B F pl' tb u σ' h2 (.of hG.bf hr.1.2) h3 h4
 ·exact h.elim
theorem gcallX_sound {C : Cx} (hcs : COk P C) {B F : Heap} {pl : Nat → Value} {tb : Nat → Option Bool} {s : St} {env : Env} {σ : Heap} (hG : Gam P B F pl tb s env σ) {d : Nat} {f : SV} {args : List SV} {fV : Value} {vs : List Value} (hf : SR P B pl tb f fV) (ha : SRs P B pl tb args vs) {K : SV → St → Prop} (h : gcallX C d f args s K) {R : Value → Heap → Prop}
  (hK : ∀ v s' B' F' pl' tb' u σ', K v s' → GBase B F σ B' F' σ' → Gam P B' F' pl' tb' s' env σ' → SR P B' pl' tb' v u → R u σ') : ∃ g a b, fV = .func (.func g) a b ∧ VCalled P g (a.toList ++ vs ++ b.toList) σ R := by
 unfold gcallX at h
 split at h
 ·rename_i g a b
  split at h
  ·rename_i x hx
   have hf0 := hf
   simp only [SR] at hf
   obtain ⟨a', b', rfl, h1, h2⟩ := hf
   refine ⟨g, a'.toArray, b'.toArray, rfl, ?_⟩
   have := hcs.xs g x hx B F pl tb s env σ d _ _ K R hG (h1.append (ha.append h2)) h hK
   simpa using this
  ·exact gcallN_sound hcs hG hf ha h hK
 ·exact gcallN_sound hcs hG hf ha h hK
theorem gn_sound {C : Cx} (hcs : COk P C) {B F : Heap} {pl : Nat → Value} {tb : Nat → Option Bool} {s : St} {env : Env} {σ : Heap} (hG : Gam P B F pl tb s env σ) {d : Nat} {o : VOp} {K : SV → St → Prop} (h : gn C d o (gev [] s.env) s K) {R : Value → Heap → Prop}
  (hK : ∀ v s' B' F' pl' tb' u σ', K v s' → GBase B F σ B' F' σ' → Gam P B' F' pl' tb' s' env σ' → SR P B' pl' tb' v u → R u σ') : vop (semSpecs P) o env σ R := by
 have hev := hG.evs (Gds.nil (tb := tb))
 have act : ∀ o {T : Nat}, NOk P B F tb o (evalO env) env σ K T s pl → (∀ R', obind (vact o (evalO env) σ) (fun p => R' p.1 p.2) → vop (semSpecs P) o env σ R') → vop (semSpecs P) o env σ R := fun o _ ⟨u, σ', pl', v, s', h1, h2, h3, h4⟩ hv => hv R (by rw [h1]; exact hK v s' B F pl' tb u σ' h2 (.of hG.bf (vact_dead h1)) h3.1 h4)
 have hargs : ∀ args : List Operand, SRs P B pl tb (args.map (gev [] s.env)) (args.map (evalO env)) := fun args => SRs.map fun x _ => hG.evs Gds.nil x
 cases o
 case alloc t z => exact act _ (n_alloc hev hG h) fun _ h => h
 case box t x => exact act _ (n_box hev hG h) fun _ h => h
 case buildSlice e z n ps => exact act _ (n_buildSlice hev hG h) fun _ h => h
 case makeSlice e b z l c => exact act _ (n_makeSlice hev hG h) fun _ h => h
 case append e b x y => exact act _ (n_append hev hG h) fun _ h => h
 case store size a x => exact act _ (n_store hev hG h) fun _ h => h
 case callF f args =>
  simp only [gn] at h
  obtain ⟨g, a, b, h3, h4⟩ := gcallX_sound hcs hG (show SR P B pl tb (.fn f [] []) (.func (.func f) #[] #[]) by simp only [SR, SRs]; exact ⟨[], [], rfl, rfl, rfl⟩) (hargs args) h hK
  obtain ⟨rfl, rfl, rfl⟩ := (by simpa using h3 : f = g ∧ #[] = a ∧ #[] = b)
  show VCalled P f (args.map (evalO env)) σ R
  simpa using h4
 case callV f args =>
  simp only [gn] at h
  obtain ⟨g, a, b, h3, h4⟩ := gcallX_sound hcs hG (hG.evs Gds.nil f) (hargs args) h hK
  exact vcallV_of h3 h4
 case ext x =>
  cases x
  case mapUpdate mk m k v => exact act _ (n_mapUpdate hev hG h) fun _ h => h
  case copy size a b => exact act _ (n_copy hev hG h) fun _ h => h
  case unsafeStr e a n => exact act _ (n_unsafeStr hev hG h) fun _ h => h
  all_goals exact h.elim
 all_goals exact h.elim
theorem gndX_sound {C : Cx} {B F : Heap} {pl : Nat → Value} {tb : Nat → Option Bool} {s : St} {env : Env} {σ : Heap} (hG : Gam P B F pl tb s env σ) {d : Nat} {o : VOp} {K : SV → St → Prop} (h : gnd C d o (gev [] s.env) s K) {R : Value → Heap → Prop}
  (hK : ∀ v s' B' F' pl' tb' u σ', K v s' → GBase B F σ B' F' σ' → Gam P B' F' pl' tb' s' env σ' → SR P B' pl' tb' v u → R u σ') : vop (semSpecs P) o env σ R := by
 obtain ⟨u, σ', pl', v, s', h1, h2, h3, h4⟩ := gnd_sound (fun x => hG.evs (Gds.nil (tb := tb)) x) hG h
 have fin : obind (vact o (evalO env) σ) (fun p => R p.1 p.2) := by rw [h1]; exact hK v s' B F pl' tb u σ' h2 (.of hG.bf (vact_dead h1)) h3.1 h4
 cases o
 case buildSlice e z n ps => exact fin
 case makeSlice e b z l c => exact fin
 case append e b x y => exact fin
 case store size a x => exact fin
 all_goals exact h.elim
section
variable {B F : Heap} {pl : Nat → Value} {tb : Nat → Option Bool} {s : St} {env : Env} {σ : Heap}
def Heap.ins (B σ : Heap) (i : Nat) (h : B.n ≤ σ.n) : Heap where
 get j := if j = i then σ.get i else B.get j
 n := σ.n
 wf j hj := by
  by_cases e : j = i
  ·simp only [if_pos e]; subst e; exact σ.wf j hj
  ·simp only [if_neg e]; exact B.wf j (Nat.le_trans h hj)
theorem Heap.ins_self (B σ : Heap) (i : Nat) (h : B.n ≤ σ.n) : (B.ins σ i h).get i = σ.get i := by simp [Heap.ins]
theorem Heap.ins_ne (B σ : Heap) {i j : Nat} (h : B.n ≤ σ.n) (e : j ≠ i) : (B.ins σ i h).get j = B.get j := by simp [Heap.ins, e]
theorem Heap.Le.ins {B σ : Heap} (h : B.Le σ) (i : Nat) : B.Le (B.ins σ i h.1) := ⟨h.1, fun j b hb => by
 by_cases e : j = i
 ·subst e; rw [Heap.ins_self]; exact h.2 _ _ hb
 ·rw [Heap.ins_ne _ _ _ e]; exact hb⟩
theorem Heap.Le.ins_le {B σ : Heap} (h : B.Le σ) (i : Nat) : (B.ins σ i h.1).Le σ := ⟨Nat.le_refl _, fun j b hb => by
 by_cases e : j = i
 ·subst e; rw [Heap.ins_self] at hb; exact hb
 ·rw [Heap.ins_ne _ _ _ e] at hb; exact h.2 _ _ hb⟩
theorem Heap.ins_ins {B F σ : Heap} (h : B.Le F) (i : Nat) (hB : B.n ≤ σ.n) (hF : F.n ≤ σ.n) : (B.ins σ i hB).Le (F.ins σ i hF) := ⟨Nat.le_refl _, fun j b hb => by
 by_cases e : j = i
 ·subst e; rw [Heap.ins_self] at hb ⊢; exact hb
 ·rw [Heap.ins_ne _ _ _ e] at hb ⊢; exact h.2 _ _ hb⟩
theorem Gam.freeze (hG : Gam P B F pl tb s env σ) {o i : Nat} (hl : (oget s.own o).live = true) (hi : Oid (pl o) i) :
  GBase B F σ (B.ins σ i hG.leB.1) (F.ins σ i hG.le.1) σ ∧ Gam P (B.ins σ i hG.leB.1) (F.ins σ i hG.le.1) pl tb ⟨s.env, oset s.own o .dead, s.nx⟩ env σ := by
 have hFi := hG.fresh o i hl hi
 have lv : ∀ d, (oget (oset s.own o .dead) d).live = true → d ≠ o ∧ (oget s.own d).live = true := fun d h => by
  rw [oget_oset] at h
  by_cases e : d = o
  ·rw [if_pos e] at h; cases h
  ·rw [if_neg e] at h; exact ⟨e, h⟩
 refine ⟨⟨hG.leB.ins i, hG.le.ins i, fun j b h1 h2 => ?_, .refl _⟩, ⟨Heap.ins_ins hG.bf i _ _, hG.le.ins_le i, SRs.mono (hG.leB.ins i) (fun _ _ h => h) _ _ hG.env, fun d => ?_, fun d j h1 h2 => ?_, fun d d' j hne h1 h2 h3 h4 => hG.sep d d' j hne (lv d h1).2 (lv d' h2).2 h3 h4, hG.free⟩⟩
 ·have e : j ≠ i := by rintro rfl; rw [hFi] at h1; cases h1
  rw [Heap.ins_ne _ _ _ e]; exact h2
 ·simp only [oget_oset]
  by_cases e : d = o
  ·rw [if_pos e]; trivial
  ·rw [if_neg e]; exact (hG.obj d).mono (hG.leB.ins i) (fun _ _ h => h) fun _ _ _ => rfl
 ·obtain ⟨hne, hlv⟩ := lv d h1
  have e : j ≠ i := by rintro rfl; exact hG.sep d o j hne hlv hl h2 hi
  rw [Heap.ins_ne _ _ _ e]; exact hG.fresh d j hlv h2
theorem Gam.own {s' : St} (hG : Gam P B F pl tb s env σ) (h1 : s'.env = s.env) (h2 : ∀ d, oget s'.own d = oget s.own d) (h3 : s'.nx = s.nx) : Gam P B F pl tb s' env σ :=
 ⟨hG.bf, hG.le, by rw [h1]; exact hG.env, fun d => by rw [h2]; exact hG.obj d, fun d i => by rw [h2]; exact hG.fresh d i, fun d d' i hne => by rw [h2, h2]; exact hG.sep d d' i hne, fun n hn => hG.free n (by rw [← h3]; exact hn)⟩
theorem Gam.drop (hG : Gam P B F pl tb s env σ) (o : Nat) : Gam P B F pl tb ⟨s.env, oset s.own o .dead, s.nx⟩ env σ := by
 have lv : ∀ d, (oget (oset s.own o .dead) d).live = true → d ≠ o ∧ (oget s.own d).live = true := fun d h => by
  rw [oget_oset] at h
  by_cases e : d = o
  ·rw [if_pos e] at h; cases h
  ·rw [if_neg e] at h; exact ⟨e, h⟩
 refine ⟨hG.bf, hG.le, hG.env, fun d => ?_, fun d j h1 h2 => hG.fresh d j (lv d h1).2 h2, fun d d' j hne h1 h2 h3 h4 => hG.sep d d' j hne (lv d h1).2 (lv d' h2).2 h3 h4, hG.free⟩
 simp only [oget_oset]
 by_cases e : d = o
 ·rw [if_pos e]; trivial
 ·rw [if_neg e]; exact hG.obj d
theorem make_drop (s : St) (d : Nat) (b : OB) (q : Nat) : oget (s.make d .dead).own q = oget (oset (s.make d b).own d .dead) q := by
 simp only [St.make, oget_oset]
 by_cases e : q = d
 ·rw [if_pos e, if_pos e]
 ·rw [if_neg e, if_neg e, if_neg e]
theorem lst_frz {d : Nat} (hbf : B.Le F) {ty : Nat} {k : Kind} {xs : List k.T} {nl : Bool} (hk : k.flat = true) {pl' : Nat → Value} {u : Value} {σ' : Heap} (h1 : Gam P B F pl' tb (s.make d (.lst ty k xs nl)) env σ') (h2 : SR P B pl' tb (.lst d) u) (hd : Dead σ σ') :
  ∃ B' F', GBase B F σ B' F' σ' ∧ Gam P B' F' pl' tb (s.make d .dead) env σ' ∧ SR P B' pl' tb (.val (.list k) xs) u := by
 have hob := h1.obj d
 have hget : oget (s.make d (.lst ty k xs nl)).own d = .lst ty k xs nl := by simp only [St.make, oget_oset, if_true]
 rw [hget] at hob
 simp only [SR] at h2
 obtain ⟨rfl, _⟩ := h2
 rcases hob with ⟨_, hx, hp⟩ | ⟨_, i, cap, c, t, hp, hcap, hg, hlen, hrows⟩
 ·refine ⟨B, F, .of hbf hd, (h1.drop d).own rfl (make_drop s d _) rfl, ?_⟩
  simp only [SR]
  exact ⟨_, rfl, .inl ⟨hx, hp⟩⟩
 ·obtain ⟨g1, g2⟩ := h1.freeze (o := d) (i := i) (by rw [hget]; rfl) (by rw [hp]; rfl)
  refine ⟨_, _, (GBase.of hbf hd).trans g1, g2.own rfl (make_drop s d _) rfl, ?_⟩
  simp only [SR]
  refine ⟨_, rfl, .inr ⟨i, 0, cap, c, ⟨k.size, ty⟩, true, t, hp, hcap, by rw [Heap.ins_self]; exact hg, rfl, by have := Nat.mul_le_mul_right k.size hcap; omega, ?_⟩⟩
  rw [List.drop_zero]
  exact hrows.mono fun _ _ e => KC.flat hk e
theorem ret_list {d nt : Nat} (hnt : 0 < nt) (hG : Gam P B F pl tb s env σ) {ty : Nat} {k : Kind} {xs : List k.T} {nl : Bool} (hk : k.flat = true) {u : Value} {σ' : Heap} (h : Ret P σ (.lst 0) [.lst ty k xs nl] u σ') :
  ∃ B' F' pl', GBase B F σ B' F' σ' ∧ Gam P B' F' pl' tb (s.make d .dead) env σ' ∧ SR P B' pl' tb (.val (.list k) xs) u := by
 obtain ⟨pl', h1, h2⟩ := h.gam (d := d) hnt hG (by rfl) (by simp only [List.all_cons, List.all_nil, Bool.and_true, OB.ret]; exact hk)
 simp only [St.makes, Nat.zero_mul, Nat.add_zero, SV.ren] at h1 h2
 obtain ⟨B', F', k⟩ := lst_frz hG.bf hk h1 h2 h.1.2
 exact ⟨B', F', pl', k⟩
theorem glist1_inv {nt : Nat} {r : Option (Prop × SV × List OB)} {c : Prop} {v : SV} (h : glist1 nt r = some (c, v)) : ∃ ty k xs nl, r = some (c, .lst 0, [.lst ty k xs nl]) ∧ v = .val (.list k) xs ∧ k.flat = true ∧ 0 < nt := by
 unfold glist1 at h
 split at h
 ·split at h
  ·rename_i k xs _
   cases hc : (k.flat && Nat.blt 0 nt) with
   | false => rw [hc] at h; cases h
   | true =>
    rw [hc] at h
    obtain ⟨rfl, rfl⟩ := pinj h
    simp only [Bool.and_eq_true, Nat.blt_eq] at hc
    exact ⟨_, _, _, _, rfl, rfl, hc.1, hc.2⟩
  ·cases h
 ·cases h
theorem glist_sound {C : Cx} (hcs : CsOk P C.cs) (hG : Gam P B F pl tb s env σ) {gs : List Gd} (hg : Gds tb gs) {o : VOp} {c : Prop} {v : SV} {d : Nat} (h : glist C o (gev gs s.env) s.own = some (c, v)) (hc : c) {K : Value → Heap → Prop}
  (hK : ∀ u σ' B' F' pl', GBase B F σ B' F' σ' → Gam P B' F' pl' tb (s.make d .dead) env σ' → SR P B' pl' tb v u → K u σ') : vop (semSpecs P) o env σ K := by
 cases o <;> first | (cases h; done) | skip
 case callF f args =>
  simp only [glist] at h
  obtain ⟨ty, k, xs, nl, heq, rfl, hk, hnt⟩ := glist1_inv h
  obtain ⟨g, a, b, h3, h4, _⟩ := gcallee_sound hcs (show SR P σ noPl noTb (.fn f [] []) (.func (.func f) #[] #[]) by simp only [SR, SRs]; exact ⟨[], [], rfl, rfl, rfl⟩) (hG.gcall hg args) heq (by rfl) (by simp only [List.all_cons, List.all_nil, Bool.and_true, OB.ret]; exact hk) hc
  obtain ⟨rfl, rfl, rfl⟩ := (by simpa using h3 : f = g ∧ #[] = a ∧ #[] = b)
  have := h4.mono (R' := K) fun u σ' hr => by
   obtain ⟨B', F', pl', k1, k2, k3⟩ := ret_list (d := d) hnt hG hk hr
   exact hK u σ' B' F' pl' k1 k2 k3
  show VCalled P f (args.map (evalO env)) σ K
  simpa using this
 case callV f args =>
  simp only [glist] at h
  obtain ⟨ty, k, xs, nl, heq, rfl, hk, hnt⟩ := glist1_inv h
  obtain ⟨g, a, b, h3, h4, _⟩ := gcallee_sound hcs (hG.gfun hg f) (hG.gcall hg args) heq (by rfl) (by simp only [List.all_cons, List.all_nil, Bool.and_true, OB.ret]; exact hk) hc
  exact vcallV_of h3 (h4.mono fun u σ' hr => by
   obtain ⟨B', F', pl', k1, k2, k3⟩ := ret_list (d := d) hnt hG hk hr
   exact hK u σ' B' F' pl' k1 k2 k3)
 case buildSlice e z n ps =>
  simp only [glist] at h
  split at h
  ·rename_i k hkt
   split at h
   ·rename_i hcc
    split at h
    ·rename_i xs hx
     obtain ⟨rfl, rfl⟩ := pinj h
     have hgn : gn C d (.buildSlice e z n ps) (gev gs s.env) s (fun v s' => v = .lst d ∧ s' = s.make d (.lst e.ty k xs false)) := by
      simp only [gn, hkt, hx]
      rw [if_pos ⟨hcc.1, hcc.2.1⟩]
      simp
     obtain ⟨u, σ', pl', v, s', h1, ⟨rfl, rfl⟩, ⟨h3, _⟩, h4⟩ := n_buildSlice (fun x => hG.evs hg x) hG hgn
     obtain ⟨B', F', k1, k2, k3⟩ := lst_frz hG.bf hcc.2.2 h3 h4 (vact_dead h1)
     show obind (vact (.buildSlice e z n ps) (evalO env) σ) _
     rw [h1]
     exact hK u σ' B' F' pl' k1 k2 k3
    ·cases h
   ·cases h
  ·cases h
theorem glist_val {C : Cx} {o : VOp} {ev : Operand → SV} {own : Own} {c : Prop} {v : SV} (h : glist C o ev own = some (c, v)) : ∃ (k : Kind) (xs : List k.T), v = .val (.list k) xs := by
 cases o <;> first | (cases h; done) | skip
 case callF => simp only [glist] at h; obtain ⟨ty, k, xs, nl, _, hv, _⟩ := glist1_inv h; exact ⟨k, xs, hv⟩
 case callV => simp only [glist] at h; obtain ⟨ty, k, xs, nl, _, hv, _⟩ := glist1_inv h; exact ⟨k, xs, hv⟩
 case buildSlice e z n ps =>
  simp only [glist] at h
  split at h
  ·split at h
   ·split at h
    ·obtain ⟨_, rfl⟩ := pinj h; exact ⟨_, _, rfl⟩
    ·cases h
   ·cases h
  ·cases h
theorem Gam.frz (hG : Gam P B F pl tb s env σ) (o : Nat) : ∃ B' F', GBase B F σ B' F' σ ∧ Gam P B' F' pl tb (s.frz o) env σ := by
 unfold St.frz
 split
 ·rename_i ty k xs nl ho
  have fin : ∀ {B' F' : Heap}, Gam P B' F' pl tb ⟨s.env, oset s.own o .dead, s.nx⟩ env σ → KC B' (.list k) xs [pl o] → Gam P B' F' pl tb ⟨SVs.frz o k xs s.env, ofrz o k xs s.own, s.nx⟩ env σ := fun {B' F'} h hk => by
   have e1 : ∀ d, oget (ofrz o k xs s.own) d = (oget (oset s.own o .dead) d).frz o k xs := fun d => by
    rw [oget_ofrz, oget_oset]
    by_cases e : d = o
    ·rw [if_pos e, if_pos e]; rfl
    ·rw [if_neg e, if_neg e]
   have lv : ∀ d, (oget (ofrz o k xs s.own) d).live = (oget (oset s.own o .dead) d).live := fun d => by rw [e1, OB.live_frz]
   refine ⟨h.bf, h.le, SRs.frz hk _ _ h.env, fun d => ?_, fun d i h1 h2 => ?_, fun d d' i hne h1 h2 => ?_, h.free⟩
   ·simp only [e1]; exact (h.obj d).frz hk
   ·simp only [lv] at h1; exact h.fresh d i h1 h2
   ·simp only [lv] at h1 h2; exact h.sep d d' i hne h1 h2
  have hob := hG.obj o
  rw [ho] at hob
  rcases hob with ⟨_, hx, hp⟩ | ⟨_, i, cap, c, t, hp, hcap, hg, hlen, hrows⟩
  ·exact ⟨B, F, .of hG.bf (.refl _), fin (hG.drop o) ⟨_, rfl, .inl ⟨hx, hp⟩⟩⟩
  ·obtain ⟨g1, g2⟩ := hG.freeze (o := o) (i := i) (by rw [ho]; rfl) (by rw [hp]; rfl)
   refine ⟨_, _, g1, fin g2 ⟨_, rfl, .inr ⟨i, 0, cap, c, ⟨k.size, ty⟩, true, t, hp, hcap, by rw [Heap.ins_self]; exact hg, rfl, by have := Nat.mul_le_mul_right k.size hcap; omega, ?_⟩⟩⟩
   rw [List.drop_zero]
   exact hrows.mono fun _ _ e => KC.mono g1.b e
 ·exact ⟨B, F, .of hG.bf (.refl _), hG⟩
theorem GRel.frzs {B0 F0 D0 : Heap} : ∀ (l : List Nat) {s : St}, GRel P B0 F0 D0 s env σ → GRel P B0 F0 D0 (s.frzs l) env σ
 | [], _, h => h
 | o :: r, s, ⟨B, F, pl, tb, hB, hG⟩ => by
  obtain ⟨B', F', g1, g2⟩ := hG.frz o
  exact GRel.frzs r ⟨B', F', pl, tb, hB.trans g1, g2⟩
end
theorem gop_sound {C : Cx} (hcs : COk P C) {B0 F0 D0 : Heap} {s : St} {env : Env} {σ : Heap} (hR : GRel P B0 F0 D0 s env σ) {o : VOper} {K : St → Prop} (h : gop C o s K) {R : Env → Heap → Prop} (hK : ∀ s' env' σ', K s' → GRel P B0 F0 D0 s' env' σ' → R env' σ') :
  obind (vwant env o.guard) fun b => vif b (vop (semSpecs P) o.op env σ fun v σ' => R (putE env o.dst v) σ') (R (putE env o.dst undef) σ) := by
 unfold gop at h
 split at h
 ·rename_i hg
  rw [hg]
  refine ⟨fun _ => ?_, fun e => by cases e⟩
  replace hR := hR.frzs (frzOf C (o.dst.getD 0) o.op (gev [] s.env) s.own)
  generalize s.frzs (frzOf C (o.dst.getD 0) o.op (gev [] s.env) s.own) = s at h hR
  obtain ⟨B, F, pl, tb, hB, hG⟩ := hR
  unfold gopU at h
  split at h
  ·rename_i c a b hop
   split at h
   ·rename_i v hv
    obtain ⟨u, h1, h2⟩ := gpick_sound hG Gds.nil hv
    rw [hop]
    show obind (vact (.pick c a b) (evalO env) σ) _
    rw [h1]
    exact hK _ _ _ (gnm_elim h) ⟨B, F, pl, tb, hB, hG.put o.dst h2⟩
   ·exact h.elim
  ·rename_i hnp
   cases hq : isQuiet o.op with
   | true =>
    rw [hq] at h
    simp only [_root_.cond_true] at h
    split at h
    ·rename_i cs v hgq
     obtain ⟨h1, h2⟩ := gobl_holds h
     replace h1 := gnm_elim h1
     refine gqc_sound (C := C) hcs.cs hG Gds.nil (raw := C.raw.contains (o.dst.getD 0)) (cs := cs) (v := v) ?_ (h2 fun g hg => by cases hg) fun u hu => hK _ _ _ h1 ⟨B, F, pl, tb, hB, hG.put o.dst hu⟩
     rw [← hgq]
     cases ho : o.op <;> first | rfl | (rw [ho] at hq; cases hq)
    ·exact h.elim
   | false =>
    rw [hq] at h
    simp only [_root_.cond_false] at h
    split at h
    ·rename_i hop
     split at h
     ·rename_i kk vk _
      obtain ⟨h1, h2⟩ := n_makeMap hG (C.off + o.dst.getD 0) kk vk
      rw [hop]
      change R (putE env o.dst (.map (some σ.n))) (σ.push (.obj (.map [] 0) true))
      exact hK _ _ _ h ⟨B, F, _, tb, dead_n hB (Dead.push _ _), h1.put o.dst h2⟩
     ·exact h.elim
    ·rename_i hop
     cases hdp : isDeep C (o.dst.getD 0) o.op (gev [] s.env) with
     | true =>
      rw [hdp] at h
      simp only [_root_.cond_true] at h
      exact gndX_sound hG h fun v s' B' F' pl' tb' u σ' h1 hd h2 h3 => hK _ _ _ h1 ⟨B', F', pl', tb', hB.trans hd, h2.put o.dst h3⟩
     | false =>
      rw [hdp] at h
      simp only [_root_.cond_false] at h
      exact gn_sound hcs hG h fun v s' B' F' pl' tb' u σ' h1 hd h2 h3 => hK _ _ _ h1 ⟨B', F', pl', tb', hB.trans hd, h2.put o.dst h3⟩
 ·rename_i j want hg
  obtain ⟨B, F, pl, tb, hB, hG⟩ := hR
  rw [hg]
  split at h
  ·exact h.elim
  ·rename_i gs s' hgd
   obtain ⟨tb', hG', htb, b, hw, hb1, hb2⟩ := gguard_sound hG hgd
   rw [hw]
   refine ⟨fun e => ?_, fun e => ?_⟩
   ·have hgs : Gds tb' gs := fun g hg => ⟨hb1 e g hg, htb g hg⟩
    have fin : ∀ {v u}, SR P B pl tb' v u → SR P B pl tb' (.grd gs (unbid v)) u := fun {v u} hs => by
     simp only [SR]
     obtain ⟨h1, h2⟩ := unbid_sr hs
     exact ⟨⟨htb, h2⟩, fun _ => h1, fun ⟨g, hg, hne⟩ => absurd (hb1 e g hg) hne⟩
    split at h
    ·rename_i c a b' hop
     split at h
     ·rename_i v hv
      obtain ⟨u, h1, h2⟩ := gpick_sound hG' hgs hv
      rw [hop]
      show obind (vact (.pick c a b') (evalO env) σ) _
      rw [h1]
      exact hK _ _ _ (gnm_elim h) ⟨B, F, pl, tb', hB, hG'.put o.dst (fin h2)⟩
     ·exact h.elim
    ·split at h
     ·rename_i cs v hgq
      obtain ⟨h1, h2⟩ := gobl_holds h
      replace h1 := gnm_elim h1
      exact gqc_sound hcs.cs hG' hgs hgq (h2 (hb1 e)) fun u hu => hK _ _ _ h1 ⟨B, F, pl, tb', hB, hG'.put o.dst (fin hu)⟩
     ·split at h
      ·rename_i c v hgl
       obtain ⟨h1, h2⟩ := gobl_holds h
       replace h1 := gnm_elim h1
       refine glist_sound hcs.cs hG' hgs (d := C.off + o.dst.getD 0) hgl (h2 (hb1 e) c (by simp)) fun u σ' B' F' pl' k1 k2 k3 => hK _ _ _ h1 ⟨B', F', pl', tb', hB.trans k1, k2.put o.dst ?_⟩
       simp only [SR]
       refine ⟨⟨htb, ?_⟩, fun _ => k3, fun ⟨g, hg, hne⟩ => absurd (hb1 e g hg) hne⟩
       obtain ⟨k, xs, rfl⟩ := glist_val hgl
       trivial
      ·exact h.elim
   ·have fin : ∀ v, SR P B pl tb' (.grd gs (unbid v)) undef := fun v => by
     simp only [SR]
     obtain ⟨g, hg, hne⟩ := hb2 e
     exact ⟨⟨htb, unbid_tb v⟩, fun hall => absurd (hall g hg) hne, fun _ => trivial⟩
    split at h
    ·split at h
     ·exact hK _ _ _ (gnm_elim h) ⟨B, F, pl, tb', hB, hG'.put o.dst (fin _)⟩
     ·exact h.elim
    ·split at h
     ·exact hK _ _ _ (gnm_elim (gobl_holds h).1) ⟨B, F, pl, tb', hB, hG'.put o.dst (fin _)⟩
     ·split at h
      ·rename_i c v hgl
       refine hK _ _ _ (gnm_elim (gobl_holds h).1) ⟨B, F, _, tb', hB, (hG'.make (C.off + o.dst.getD 0) .dead undef hG'.le (fun _ _ _ _ _ => rfl) trivial (fun i hl _ => by cases hl)).put o.dst ?_⟩
       simp only [SR]
       obtain ⟨g, hg, hne⟩ := hb2 e
       refine ⟨⟨htb, ?_⟩, fun hall => absurd (hall g hg) hne, fun _ => trivial⟩
       obtain ⟨k, xs, rfl⟩ := glist_val hgl
       trivial
      ·exact h.elim
theorem gops_sound {C : Cx} (hcs : COk P C) {B0 F0 D0 : Heap} : ∀ (ops : List VOper) {s : St} {env : Env} {σ : Heap}, GRel P B0 F0 D0 s env σ → ∀ {K : St → Prop}, gops C ops s K → ∀ {R : Env → Heap → Prop}, (∀ s' env' σ', K s' → GRel P B0 F0 D0 s' env' σ' → R env' σ') → vops (semSpecs P) ops env σ R
 | [], s, env, σ, hR, _K, h, _R, hK => hK s env σ h hR
 | _o :: r, _s, _env, _σ, hR, _K, h, _R, hK => gop_sound hcs hR h fun _ _ _ h1 h2 => gops_sound hcs r h2 h1 hK
theorem seg_pureG {S : VSpecs} {l : List DOper} {rest : List DSeg} {env : Env} {σ : Heap} {K : Env → Heap → Prop} (h : l.all (fun o => !(o.kind == 2) && !(o.op.kind == 2)) = true) (hv : vops S (l.map dv) env σ fun env σ => vsegs S rest env σ K) : vsegs S (.alts [l] :: rest) env σ K := by
 intro ops ho
 obtain rfl := List.mem_singleton.1 ho
 have key : ∀ (l : List DOper) (env : Env) (pend : List (Nat × (Heap → Prop))) (K' : Env → Heap → Prop), l.all (fun o => !(o.kind == 2) && !(o.op.kind == 2)) = true → vops S (l.map dv) env σ K' → vopsD S l env [σ] σ pend K' := by
  intro l
  induction l with
  | nil => intro env pend K' _ h; exact h
  | cons o rest ih =>
   intro env pend K' hk h
   simp only [List.all_cons, Bool.and_eq_true, Bool.not_eq_true', beq_eq_false_iff_ne] at hk
   obtain ⟨⟨hk1, hk2⟩, hr⟩ := hk
   have hr : rest.all (fun o => !(o.kind == 2) && !(o.op.kind == 2)) = true := by simpa using hr
   simp only [List.map_cons, vops, dv] at h
   simp only [vopsD]
   cases hw : vwant env o.guard with
   | none => rw [hw] at h; exact h.elim
   | some b =>
    rw [hw] at h
    obtain ⟨ht, hf⟩ := h
    refine ⟨fun e => ?_, fun e => ?_⟩
    ·have ht := ht e
     obtain ⟨p, hp, hr'⟩ : ∃ p, vact o.op (evalO env) σ = some p ∧ vops S (rest.map dv) (putE env o.dst p.1) p.2 K' := by
      have := ht
      unfold vop at this
      split at this
      ·rename_i f axs heq; rw [heq] at hk2; exact absurd rfl hk2
      ·rename_i f axs heq; rw [heq] at hk2; exact absurd rfl hk2
      ·rename_i x heq; rw [heq] at hk2; exact absurd rfl hk2
      ·cases hva : vact o.op (evalO env) σ with
       | none => rw [hva] at this; exact this.elim
       | some p => rw [hva] at this; exact ⟨p, rfl, this⟩
     have hq : p.2 = σ := act_quiet hk2 (v := p.1) (σ' := p.2) hp
     rw [hq] at hr'
     rw [if_neg hk1]
     split
     ·rw [hp]
      refine ⟨fun τ hτ => ?_, ih _ _ _ hr hr'⟩
      have : τ = σ := by
       have := List.mem_of_mem_drop hτ
       simpa using this
      subst this
      show obind (vact o.op (evalO env) τ) _
      rw [hp]; rfl
     ·rw [hp]; exact ih _ _ _ hr hr'
    ·rw [if_neg hk1]
     exact ih _ _ _ hr (hf e)
 have := key ops env [] _ h hv
 have mono : ∀ (l : List DOper) (env : Env) (hs : List Heap) (τ : Heap) (pend : List (Nat × (Heap → Prop))) (A B : Env → Heap → Prop), l.all (fun o => !(o.kind == 2) && !(o.op.kind == 2)) = true → (∀ e s, A e s → B e s) → vopsD S l env hs τ pend A → vopsD S l env hs τ pend B := by
  intro l
  induction l with
  | nil => intro env hs τ pend A B _ hAB h; exact hAB _ _ h
  | cons o rest ih =>
   intro env hs τ pend A B hk hAB h
   simp only [List.all_cons, Bool.and_eq_true, Bool.not_eq_true', beq_eq_false_iff_ne] at hk
   obtain ⟨⟨hk1, hk2⟩, hr⟩ := hk
   have hr : rest.all (fun o => !(o.kind == 2) && !(o.op.kind == 2)) = true := by simpa using hr
   simp only [vopsD] at h ⊢
   cases hw : vwant env o.guard with
   | none => rw [hw] at h; exact h.elim
   | some b =>
    rw [hw] at h
    obtain ⟨ht, hf⟩ := h
    refine ⟨fun e => ?_, fun e => ?_⟩
    ·have ht := ht e
     rw [if_neg hk1] at ht ⊢
     by_cases hk3 : o.kind = 1
     ·rw [if_pos hk3] at ht ⊢
      cases hva : vact o.op (evalO env) τ with
      | none => rw [hva] at ht; exact ht.elim
      | some p => rw [hva] at ht; exact ⟨ht.1, ih _ _ _ _ _ _ hr hAB ht.2⟩
     ·rw [if_neg hk3] at ht ⊢
      cases hva : vact o.op (evalO env) τ with
      | none => rw [hva] at ht; exact ht.elim
      | some p => rw [hva] at ht; exact ih _ _ _ _ _ _ hr hAB ht
    ·have hf := hf e
     rw [if_neg hk1] at hf ⊢
     exact ih _ _ _ _ _ _ hr hAB hf
 exact mono ops env _ _ _ _ _ h (fun e s hs => ⟨e, s, .refl _ _ _, hs⟩) this
theorem vreads_of {op : VOp} {ev : Operand → Value} {u : Value} {τ τ' : Heap} (h : vact op ev τ = some (u, τ')) : vreads op ev u τ := by
 unfold vreads; rw [h]; rfl
theorem put_own (s : St) (d : Option Nat) (v : SV) : (s.put d v).own = s.own := by cases d <;> rfl
theorem gguard_own {s s' : St} {j : Nat} {want : Bool} {gs : List Gd} (h : gguard s j want = some (gs, s')) : s'.own = s.own := by
 unfold gguard at h
 split at h <;> first | (cases h; done) | (obtain ⟨_, rfl⟩ := pinj h; rfl)
theorem gd1_sound {C : Cx} {B F : Heap} {pl : Nat → Value} {tb : Nat → Option Bool} {s : St} {env : Env} {σ : Heap} (hG : Gam P B F pl tb s env σ) {o : DOper} {K : St → Prop} (h : gd1 C o s K) :
  ∃ b, vwant env o.guard = some b ∧ (b = true → ∃ u s' tb', vact o.op (evalO env) σ = some (u, σ) ∧ K s' ∧ s'.own = s.own ∧ Gam P B F pl tb' s' (putE env o.dst u) σ) ∧ (b = false → ∃ s' tb', K s' ∧ s'.own = s.own ∧ Gam P B F pl tb' s' (putE env o.dst undef) σ) := by
 unfold gd1 at h
 split at h
 ·rename_i hg
  rw [hg]
  refine ⟨true, rfl, fun _ => ?_, fun e => by cases e⟩
  split at h
  ·rename_i c a b hop
   split at h
   ·rename_i v hv
    obtain ⟨u, h1, h2⟩ := gpick_sound hG Gds.nil hv
    exact ⟨u, _, tb, by rw [hop]; exact h1, gnm_elim h, put_own _ _ _, hG.put o.dst h2⟩
   ·exact h.elim
  ·split at h
   ·rename_i cs v hgq
    obtain ⟨h1, h2⟩ := gobl_holds h
    obtain ⟨u, h3, h4⟩ := gq_sound (hG.evs (Gds.nil (tb := tb))) (fun _ => rfl) hG.leB hG.obj hgq (h2 fun g hg => by cases hg)
    exact ⟨u, _, tb, h3, gnm_elim h1, put_own _ _ _, hG.put o.dst h4⟩
   ·exact h.elim
 ·rename_i j want hg
  rw [hg]
  split at h
  ·exact h.elim
  ·rename_i gs s' hgd
   obtain ⟨tb', hG', htb, b, hw, hb1, hb2⟩ := gguard_sound hG hgd
   refine ⟨b, hw, fun e => ?_, fun e => ?_⟩
   ·have hgs : Gds tb' gs := fun g hg => ⟨hb1 e g hg, htb g hg⟩
    have fin : ∀ {v u}, SR P B pl tb' v u → SR P B pl tb' (.grd gs (unbid v)) u := fun {v u} hs => by
     simp only [SR]
     obtain ⟨h1, h2⟩ := unbid_sr hs
     exact ⟨⟨htb, h2⟩, fun _ => h1, fun ⟨g, hg, hne⟩ => absurd (hb1 e g hg) hne⟩
    split at h
    ·rename_i c a b' hop
     split at h
     ·rename_i v hv
      obtain ⟨u, h1, h2⟩ := gpick_sound hG' hgs hv
      exact ⟨u, _, tb', by rw [hop]; exact h1, gnm_elim h, (put_own _ _ _).trans (gguard_own hgd), hG'.put o.dst (fin h2)⟩
     ·exact h.elim
    ·split at h
     ·rename_i cs v hgq
      obtain ⟨h1, h2⟩ := gobl_holds h
      obtain ⟨u, h3, h4⟩ := gq_sound (hG'.evs hgs) (fun _ => rfl) hG'.leB hG'.obj hgq (h2 (hb1 e))
      exact ⟨u, _, tb', h3, gnm_elim h1, (put_own _ _ _).trans (gguard_own hgd), hG'.put o.dst (fin h4)⟩
     ·exact h.elim
   ·have fin : ∀ v, SR P B pl tb' (.grd gs (unbid v)) undef := fun v => by
     simp only [SR]
     obtain ⟨g, hg, hne⟩ := hb2 e
     exact ⟨⟨htb, unbid_tb v⟩, fun hall => absurd (hall g hg) hne, fun _ => trivial⟩
    split at h
    ·split at h
     ·exact ⟨_, tb', gnm_elim h, (put_own _ _ _).trans (gguard_own hgd), hG'.put o.dst (fin _)⟩
     ·exact h.elim
    ·split at h
     ·exact ⟨_, tb', gnm_elim (gobl_holds h).1, (put_own _ _ _).trans (gguard_own hgd), hG'.put o.dst (fin _)⟩
     ·exact h.elim
theorem allWf_holds {bs : List OB} {q : Prop} (h : allWf bs q) : (∀ b ∈ bs, b.wf) ∧ q := by
 induction bs with
 | nil => exact ⟨(fun b hb => by cases hb), h⟩
 | cons b r ih =>
  obtain ⟨h1, h2⟩ := h
  obtain ⟨h3, h4⟩ := ih h2
  exact ⟨fun b' hb' => by
   rcases List.mem_cons.1 hb' with rfl | hb'
   ·exact h1
   ·exact h3 b' hb', h4⟩
mutual
theorem ren_ret0 {d nt : Nat} : ∀ (v : SV), v.ret 0 = true → (v.ren d nt).ret 0 = true
 | .val k x, h => h
 | .nilS, _ | .nilP, _ | .nilM, _ | .nilF, _ => rfl
 | .lst j, h | .box j _, h | .map j, h => by simp [SV.ret, Nat.blt] at h
 | .agg l, h => by simp only [SV.ren, SV.ret] at h ⊢; exact rens_ret0 l h
 | .tup l, h => by simp only [SV.ren, SV.ret] at h ⊢; exact rens_ret0 l h
 | .any, h | .bid _ _, h | .grd _ _, h | .sub _ _ _ _, h | .elp _ _ _ _, h | .rop _ _ _ _, h | .cp _ _, h | .fn _ _ _, h | .pf _ _ _ _, h => by cases h
theorem rens_ret0 {d nt : Nat} : ∀ (v : List SV), SVs.ret 0 v = true → SVs.ret 0 (SVs.ren d nt v) = true
 | [], _ => rfl
 | s :: ss, h => by
  simp only [SVs.ret, SVs.ren, Bool.and_eq_true] at h ⊢
  exact ⟨ren_ret0 s h.1, rens_ret0 ss h.2⟩
end
theorem gdcall_sound {C : Cx} (hcs : COk P C) {B F : Heap} {pl : Nat → Value} {tb : Nat → Option Bool} {s : St} {env : Env} {σ : Heap} (hG : Gam P B F pl tb s env σ) {d : Nat} {f : SV} {args : List SV} {K : List Nat → SV → St → Prop} (h : gdcall C d f args s K) {fV : Value} {vs : List Value}
  (hf : SR P σ noPl noTb f fV) (ha : SRs P σ noPl noTb args vs) : ∃ g a b u σ' ts v s' pl', fV = .func (.func g) a b ∧ (VCalled P g (a.toList ++ vs ++ b.toList) σ fun u' σ'' => u' = u ∧ σ'' = σ') ∧ K ts v s' ∧ Gam P B F pl' tb s' env σ' ∧ SR P B pl' tb v u ∧ (ts = [] → σ' = σ ∧ pl' = pl ∧ s' = s) ∧ σ.Le σ' ∧ Dead σ σ' ∧ FrL ts s s' pl pl' σ σ' := by
 unfold gdcall at h
 split at h
 ·rename_i c v bs heq
  cases hb : (v.ret bs.length && (bs.all OB.ret && (Nat.blt 0 C.nt && (bs.all OB.isL && noBox v)))) with
  | false => rw [hb] at h; exact h.elim
  | true =>
   rw [hb] at h
   obtain ⟨h1, h2⟩ := h
   obtain ⟨h3, h4⟩ := allWf_holds h2
   simp only [Bool.and_eq_true] at hb
   obtain ⟨hv, hbr, hnt, hl, hnb⟩ := hb
   obtain ⟨g, a, b, e, _, hx⟩ := gcallee_sound hcs.cs hf ha heq hv hbr h1
   have hret := canon_ret (P := P) σ hv hnb hbr hl (fun b hb => by have := h3 b hb; cases b <;> exact this)
   by_cases hbs : bs = []
   ·subst hbs
    obtain ⟨k1, k2⟩ := hret.flat hv
    refine ⟨g, a, b, _, _, _, _, _, pl, e, hx hl hnb, h4, ?_, ?_, fun _ => ⟨k1, rfl, rfl⟩, hret.1.1, hret.1.2, fun q _ => ⟨rfl, rfl, fun _ _ _ => by rw [k1]⟩⟩
    ·rw [k1]; exact hG
    ·exact SR.retd (B := hNil) (pl := pl) (tb := noTb) (n := 0) (fun j hj => by omega) _ _ (ren_ret0 v hv) (SR.ren (pl := noPl) (tb := noTb) (n := 0) (fun j hj => by omega) v _ hv k2)
   ·obtain ⟨pl', h5, h6, h7⟩ := hret.gamF (nt := C.nt) (d := d) (by simpa [Nat.blt_eq] using hnt) hG hv hbr
    refine ⟨g, a, b, _, _, _, _, _, pl', e, hx hl hnb, h4, h5, h6, fun he => absurd (by simpa using he) hbs, hret.1.1, hret.1.2, fun q hq => h7 q fun j hj e => hq ?_⟩
    exact List.mem_map.2 ⟨j, List.mem_range.2 hj, e.symm⟩
 ·exact h.elim
def isCall : VOp → Bool
 | .callF .. | .callV .. => true
 | _ => false
theorem gn_nok {C : Cx} {B F : Heap} {pl : Nat → Value} {tb : Nat → Option Bool} {s : St} {env : Env} {σ : Heap} (hG : Gam P B F pl tb s env σ) {d : Nat} {o : VOp} {K : SV → St → Prop} (h : gn C d o (gev [] s.env) s K) (hc : isCall o = false) :
  NOk P B F tb o (evalO env) env σ K (gtouch d o (gev [] s.env)) s pl := by
 have hev := hG.evs (Gds.nil (tb := tb))
 cases o
 case alloc t z => exact n_alloc hev hG h
 case box t x => exact n_box hev hG h
 case buildSlice e z n ps => exact n_buildSlice hev hG h
 case makeSlice e b z l c => exact n_makeSlice hev hG h
 case append e b x y => exact n_append hev hG h
 case store size a x => exact n_store hev hG h
 case callF => cases hc
 case callV => cases hc
 case ext x =>
  cases x
  case mapUpdate mk m k v => exact n_mapUpdate hev hG h
  case copy size a b => exact n_copy hev hG h
  case unsafeStr e a n => exact n_unsafeStr hev hG h
  all_goals exact h.elim
 all_goals exact h.elim
theorem make_le {o : VOp} {ev : Operand → Value} {σ σ' : Heap} {u : Value} (hm : isMake o = true) (h : vact o ev σ = some (u, σ')) : σ.Le σ' := by
 have push : ∀ b : Blk, σ.Le (σ.push b) := fun b => (Heap.Le.refl σ).push b
 cases o <;> first | (cases hm; done) | skip
 case alloc t z => obtain ⟨rfl, rfl⟩ := pinj h; exact push _
 case box t x =>
  simp only [vact] at h
  split at h
  ·obtain ⟨rfl, rfl⟩ := pinj h; exact push _
  ·cases h
 case buildSlice e z n ps =>
  simp only [vact] at h
  split at h
  ·obtain ⟨rfl, rfl⟩ := pinj h; exact push _
  ·cases h
 case makeSlice e b z l c =>
  simp only [vact] at h
  split at h
  ·split at h
   ·obtain ⟨rfl, rfl⟩ := pinj h; exact push _
   ·cases h
  ·cases h
def RdOk (σ : Heap) (own : Own) (pl : Nat → Value) (Q : Heap → Prop) : Option Nat → Prop
 | none => ∀ τ, σ.Le τ → Q τ
 | some q => (oget own q).live = true ∧ ∃ i b, Oid (pl q) i ∧ σ.get i = some b ∧ ∀ τ, τ.get i = some b → Q τ
structure DSt (hs : List Heap) (σ : Heap) (pend : List (Nat × (Heap → Prop))) (hl chg : Nat) (A R : List (Nat × Option Nat)) (own : Own) (pl : Nat → Value) : Prop where
 len : hs.length = hl
 same : ∀ j τ, chg ≤ j → hs[j]? = some τ → τ = σ
 pend : ∀ c ∈ pend, c.1 < hl ∨ ∃ r ∈ R, c.1 ≤ r.1 ∧ RdOk σ own pl c.2 r.2
 fr : ∀ j τ q i, hs[j]? = some τ → untouched A j q = true → (oget own q).live = true → Oid (pl q) i → τ.get i = σ.get i
theorem vpend_of {r : Nat} {σ : Heap} : ∀ {l : List (Nat × (Heap → Prop))}, (∀ c ∈ l, r ≤ c.1 → c.2 σ) → vpend r σ l
 | [], _ => trivial
 | c :: l, h => ⟨h c (by simp), vpend_of fun c' hc' => h c' (by simp [hc'])⟩
theorem get_snoc {hs : List Heap} {σ' τ : Heap} {j : Nat} (h : (hs ++ [σ'])[j]? = some τ) : (j < hs.length ∧ hs[j]? = some τ) ∨ (j = hs.length ∧ τ = σ') := by
 rw [List.getElem?_append] at h
 split at h
 ·rename_i hlt; exact .inl ⟨hlt, h⟩
 ·have : j - hs.length = 0 := by
   cases hz : j - hs.length with
   | zero => rfl
   | succ n => rw [hz] at h; simp at h
  rw [this] at h
  exact .inr ⟨by omega, by simpa using h.symm⟩
theorem untouched_cons {a : Nat × Option Nat} {A : List (Nat × Option Nat)} {j q : Nat} (h : untouched (a :: A) j q = true) (hj : j ≤ a.1) : (∃ t, a.2 = some t ∧ t ≠ q) ∧ untouched A j q = true := by
 simp only [untouched, List.all_cons, Bool.and_eq_true, Bool.or_eq_true, Nat.blt_eq] at h
 refine ⟨?_, h.2⟩
 rcases h.1 with h | h
 ·omega
 ·split at h
  ·rename_i t ht
   exact ⟨t, ht, fun e => by subst e; simp at h⟩
  ·cases h
theorem DSt.stay {hs : List Heap} {σ : Heap} {pend : List (Nat × (Heap → Prop))} {hl chg : Nat} {A R : List (Nat × Option Nat)} {own : Own} {pl : Nat → Value} (h : DSt hs σ pend hl chg A R own pl) :
  vpend hs.length σ pend ∧ DSt (hs ++ [σ]) σ pend (hl + 1) chg A R own pl := by
 have hr : ∀ c ∈ pend, ∀ r ∈ R, RdOk σ own pl c.2 r.2 → c.2 σ := fun c _ r _ hok => by
  unfold RdOk at hok
  split at hok
  ·exact hok σ (.refl _)
  ·obtain ⟨_, i, b, _, h2, h3⟩ := hok; exact h3 σ h2
 refine ⟨vpend_of fun c hc hle => ?_, ⟨by simp [h.len], fun j τ hj ht => ?_, fun c hc => ?_, fun j τ q i ht hu hl hi => ?_⟩⟩
 ·rcases h.pend c hc with h1 | ⟨r, h1, _, h2⟩
  ·rw [h.len] at hle; omega
  ·exact hr c hc r h1 h2
 ·rcases get_snoc ht with ⟨_, h1⟩ | ⟨_, h1⟩
  ·exact h.same j τ hj h1
  ·exact h1
 ·rcases h.pend c hc with h1 | h1
  ·exact .inl (by omega)
  ·exact .inr h1
 ·rcases get_snoc ht with ⟨_, h1⟩ | ⟨_, rfl⟩
  ·exact h.fr j τ q i h1 hu hl hi
  ·rfl
theorem DSt.write {hs : List Heap} {σ σ' : Heap} {pend : List (Nat × (Heap → Prop))} {hl chg : Nat} {A R : List (Nat × Option Nat)} {s s' : St} {pl pl' : Nat → Value} (h : DSt hs σ pend hl chg A R s.own pl) {T : Nat} (hf : Fr T s s' pl pl' σ σ') {mk : Bool} (hm : mk = true → σ.Le σ')
  (hc : ((mk && rdKeep R hl T) || rdFree R hl T) = true) (hl0 : 0 < hl) : vpend hs.length σ' pend ∧ DSt (hs ++ [σ']) σ' pend (hl + 1) hl ((hl - 1, some T) :: A) R s'.own pl' := by
 have hr : ∀ Q : Heap → Prop, ∀ r ∈ R, hl ≤ r.1 → RdOk σ s.own pl Q r.2 → RdOk σ' s'.own pl' Q r.2 := fun Q r hrR hge hok => by
  have hq : ∀ q, r.2 = some q → q ≠ T := fun q hq e => by
   subst e
   simp only [Bool.or_eq_true, Bool.and_eq_true, rdKeep, rdFree] at hc
   rcases hc with ⟨_, hc⟩ | hc
   ·have := List.all_eq_true.1 hc r hrR
    rw [hq] at this
    simp only [Bool.or_eq_true, Nat.blt_eq, Nat.beq_refl, Bool.not_true, Bool.false_eq_true, or_false] at this
    omega
   ·have := List.all_eq_true.1 hc r hrR
    rw [hq] at this
    simp only [Bool.or_eq_true, Nat.blt_eq, Nat.beq_refl, Bool.not_true, Bool.false_eq_true, or_false] at this
    omega
  cases e : r.2 with
  | none =>
   rw [e] at hok
   have hmk : mk = true := by
    simp only [Bool.or_eq_true, Bool.and_eq_true, rdFree] at hc
    rcases hc with ⟨hc, _⟩ | hc
    ·exact hc
    ·have := List.all_eq_true.1 hc r hrR
     rw [e] at this
     simp only [Bool.or_eq_true, Nat.blt_eq, Bool.false_eq_true, or_false] at this
     omega
   exact fun τ ht => hok τ ((hm hmk).trans ht)
  | some q =>
   rw [e] at hok
   obtain ⟨k1, i, b, k2, k3, k4⟩ := hok
   obtain ⟨f1, f2, f3⟩ := hf q (hq q e)
   exact ⟨by rw [f1]; exact k1, i, b, by rw [f2]; exact k2, by rw [f3 k1 i k2]; exact k3, k4⟩
 have now : ∀ Q : Heap → Prop, ∀ r, RdOk σ' s'.own pl' Q r → Q σ' := fun Q r hok => by
  unfold RdOk at hok
  split at hok
  ·exact hok σ' (.refl _)
  ·obtain ⟨_, i, b, _, h2, h3⟩ := hok; exact h3 σ' h2
 refine ⟨vpend_of fun c hc hle => ?_, ⟨by simp [h.len], fun j τ hj ht => ?_, fun c hc => ?_, fun j τ q i ht hu hl' hi => ?_⟩⟩
 ·rw [h.len] at hle
  rcases h.pend c hc with h1 | ⟨r, h1, h2, h3⟩
  ·omega
  ·exact now _ _ (hr _ r h1 (by omega) h3)
 ·rcases get_snoc ht with ⟨h1, _⟩ | ⟨_, h1⟩
  ·rw [h.len] at h1; omega
  ·exact h1
 ·rcases h.pend c hc with h1 | ⟨r, h1, h2, h3⟩
  ·exact .inl (by omega)
  ·by_cases hge : hl ≤ r.1
   ·exact .inr ⟨r, h1, h2, hr _ r h1 hge h3⟩
   ·exact .inl (by omega)
 ·rcases get_snoc ht with ⟨h1, h2⟩ | ⟨_, rfl⟩
  ·rw [h.len] at h1
   obtain ⟨⟨t, ht, htq⟩, hu'⟩ := untouched_cons hu (by simp only; omega)
   obtain rfl := Option.some.inj ht
   obtain ⟨f1, f2, f3⟩ := hf q (Ne.symm htq)
   rw [f1] at hl'
   rw [f2] at hi
   rw [f3 hl' i hi]
   exact h.fr j τ q i h2 hu' hl' hi
  ·rfl
theorem untouched_map {ts : List Nat} {hl j q : Nat} {A : List (Nat × Option Nat)} (h : untouched (ts.map (fun t => (hl, some t)) ++ A) j q = true) (hj : j ≤ hl) : q ∉ ts ∧ untouched A j q = true := by
 simp only [untouched, List.all_append, Bool.and_eq_true] at h ⊢
 refine ⟨fun hm => ?_, h.2⟩
 have := List.all_eq_true.1 h.1 (hl, some q) (List.mem_map.2 ⟨q, hm, rfl⟩)
 simp only [Bool.or_eq_true, Nat.blt_eq, Nat.beq_refl, Bool.not_true, Bool.false_eq_true, or_false] at this
 omega
theorem DSt.call {hs : List Heap} {σ σ' : Heap} {pend : List (Nat × (Heap → Prop))} {hl chg : Nat} {A R : List (Nat × Option Nat)} {s s' : St} {pl pl' : Nat → Value} (h : DSt hs σ pend hl chg A R s.own pl) (hle : σ.Le σ') {Ts : List Nat} (hf : FrL Ts s s' pl pl' σ σ') (hl0 : 0 < hl) :
  vpend hs.length σ' pend ∧ DSt (hs ++ [σ']) σ' pend (hl + 1) hl (Ts.map (fun t => (hl - 1, some t)) ++ A) (R.map fun r => (r.1, none)) s'.own pl' := by
 have hr : ∀ Q r, RdOk σ s.own pl Q r → ∀ τ, σ'.Le τ → Q τ := fun Q r hok τ ht => by
  unfold RdOk at hok
  split at hok
  ·exact hok τ (hle.trans ht)
  ·obtain ⟨_, i, b, _, h2, h3⟩ := hok; exact h3 τ (ht.2 _ _ (hle.2 _ _ h2))
 refine ⟨vpend_of fun c hc hle => ?_, ⟨by simp [h.len], fun j τ hj ht => ?_, fun c hc => ?_, fun j τ q i ht hu hl' hi => ?_⟩⟩
 ·rcases h.pend c hc with h1 | ⟨r, h1, _, h2⟩
  ·rw [h.len] at hle; omega
  ·exact hr _ _ h2 _ (.refl _)
 ·rcases get_snoc ht with ⟨h1, _⟩ | ⟨_, h1⟩
  ·rw [h.len] at h1; omega
  ·exact h1
 ·rcases h.pend c hc with h1 | ⟨r, h1, h2, h3⟩
  ·exact .inl (by omega)
  ·exact .inr ⟨(r.1, none), List.mem_map.2 ⟨r, h1, rfl⟩, h2, hr _ _ h3⟩
 ·rcases get_snoc ht with ⟨h1, h2⟩ | ⟨_, rfl⟩
  ·rw [h.len] at h1
   obtain ⟨hq, hu'⟩ := untouched_map hu (by omega)
   obtain ⟨f1, f2, f3⟩ := hf q hq
   rw [f1] at hl'
   rw [f2] at hi
   rw [f3 hl' i hi]
   exact h.fr j τ q i h2 hu' hl' hi
  ·rfl
theorem DSt.writeD {hs : List Heap} {σ σ' : Heap} {pend : List (Nat × (Heap → Prop))} {hl chg : Nat} {A R : List (Nat × Option Nat)} {s s' : St} {pl pl' : Nat → Value} (h : DSt hs σ pend hl chg A R s.own pl) {Ts : List Nat} (hf : FrL Ts s s' pl pl' σ σ') {mk : Bool} (hm : mk = true → σ.Le σ')
  (hc : rdAll mk R hl Ts = true) (hl0 : 0 < hl) : vpend hs.length σ' pend ∧ DSt (hs ++ [σ']) σ' pend (hl + 1) hl (Ts.map (fun t => (hl - 1, some t)) ++ A) R s'.own pl' := by
 have hr : ∀ Q : Heap → Prop, ∀ r ∈ R, hl ≤ r.1 → RdOk σ s.own pl Q r.2 → RdOk σ' s'.own pl' Q r.2 := fun Q r hrR hge hok => by
  have hcr := List.all_eq_true.1 hc r hrR
  have hcr : (match r.2 with | some q => Ts.all (fun t => !(Nat.beq q t)) | none => mk) = true := by
   rw [Bool.or_eq_true, Nat.blt_eq] at hcr
   exact hcr.resolve_left (by omega)
  cases e : r.2 with
  | none =>
   rw [e] at hok hcr
   exact fun τ ht => hok τ ((hm hcr).trans ht)
  | some q =>
   rw [e] at hok hcr
   obtain ⟨k1, i, b, k2, k3, k4⟩ := hok
   obtain ⟨f1, f2, f3⟩ := hf q fun hq => by
    have := List.all_eq_true.1 hcr q hq
    simp at this
   exact ⟨by rw [f1]; exact k1, i, b, by rw [f2]; exact k2, by rw [f3 k1 i k2]; exact k3, k4⟩
 have now : ∀ Q : Heap → Prop, ∀ r, RdOk σ' s'.own pl' Q r → Q σ' := fun Q r hok => by
  unfold RdOk at hok
  split at hok
  ·exact hok σ' (.refl _)
  ·obtain ⟨_, i, b, _, h2, h3⟩ := hok; exact h3 σ' h2
 refine ⟨vpend_of fun c hc hle => ?_, ⟨by simp [h.len], fun j τ hj ht => ?_, fun c hc => ?_, fun j τ q i ht hu hl' hi => ?_⟩⟩
 ·rw [h.len] at hle
  rcases h.pend c hc with h1 | ⟨r, h1, h2, h3⟩
  ·omega
  ·exact now _ _ (hr _ r h1 (by omega) h3)
 ·rcases get_snoc ht with ⟨h1, _⟩ | ⟨_, h1⟩
  ·rw [h.len] at h1; omega
  ·exact h1
 ·rcases h.pend c hc with h1 | ⟨r, h1, h2, h3⟩
  ·exact .inl (by omega)
  ·by_cases hge : hl ≤ r.1
   ·exact .inr ⟨r, h1, h2, hr _ r h1 hge h3⟩
   ·exact .inl (by omega)
 ·rcases get_snoc ht with ⟨h1, h2⟩ | ⟨_, rfl⟩
  ·rw [h.len] at h1
   obtain ⟨hq, hu'⟩ := untouched_map hu (by omega)
   obtain ⟨f1, f2, f3⟩ := hf q hq
   rw [f1] at hl'
   rw [f2] at hi
   rw [f3 hl' i hi]
   exact h.fr j τ q i h2 hu' hl' hi
  ·rfl
theorem untouched_none {hl d j q : Nat} {A : List (Nat × Option Nat)} (h : untouched ((hl, none) :: A) j q = true) : untouched ([d].map (fun t => (hl, some t)) ++ A) j q = true := by
 simp only [untouched, List.all_cons, Bool.and_eq_true, Bool.or_eq_true, Bool.false_eq_true, or_false, List.map_cons, List.map_nil, List.cons_append, List.nil_append] at h ⊢
 exact ⟨.inl h.1, h.2⟩
theorem DSt.frozen {hs : List Heap} {σ : Heap} {pend : List (Nat × (Heap → Prop))} {hl chg m d : Nat} {A R : List (Nat × Option Nat)} {own : Own} {pl : Nat → Value} (h : DSt hs σ pend hl chg ([d].map (fun t => (m, some t)) ++ A) R own pl) : DSt hs σ pend hl chg ((m, none) :: A) R own pl :=
 ⟨h.len, h.same, h.pend, fun j τ q i ht hu => h.fr j τ q i ht (untouched_none hu)⟩
theorem noFz_app {ts : List Nat} {m j : Nat} {A : List (Nat × Option Nat)} (h : noFz (ts.map (fun t => (m, some t)) ++ A) j = true) : noFz A j = true := by
 simp only [noFz, List.all_append, Bool.and_eq_true] at h
 exact h.2
theorem noFz_cons {a : Nat × Option Nat} {j : Nat} {A : List (Nat × Option Nat)} (h : noFz (a :: A) j = true) : noFz A j = true := by
 simp only [noFz, List.all_cons, Bool.and_eq_true] at h
 exact h.2
theorem glistD_inv {C : Cx} {f : SV} {args : List SV} {cs : List Prop} {v : SV} (h : glistD C f args = some (cs, v)) : ∃ c ty k xs nl, gcallee C.cs f args = some (c, .lst 0, [.lst ty k xs nl]) ∧ cs = [c, nl = true → xs = []] ∧ v = .val (.list k) xs ∧ k.flat = true ∧ 0 < C.nt := by
 unfold glistD at h
 split at h
 ·rename_i heq
  split at h
  ·rename_i k xs nl
   cases hc : (k.flat && Nat.blt 0 C.nt) with
   | false => rw [hc] at h; cases h
   | true =>
    rw [hc] at h
    obtain ⟨rfl, rfl⟩ := pinj h
    simp only [Bool.and_eq_true, Nat.blt_eq] at hc
    exact ⟨_, _, _, _, _, heq, rfl, rfl, hc.1, hc.2⟩
  ·cases h
 ·cases h
theorem here_live {b : OB} (h : b.here = true) : b.live = true := by cases b <;> first | rfl | cases h
theorem rdThing_sound {B F : Heap} {pl : Nat → Value} {tb : Nat → Option Bool} {s : St} {env : Env} {σ : Heap} (hG : Gam P B F pl tb s env σ) {o : VOp} {q : Nat} (h : rdThing o (gev [] s.env) s.own = some q) {u : Value} {σ2 : Heap} (hv : vact o (evalO env) σ = some (u, σ2)) :
  (oget s.own q).live = true ∧ ∃ i b, Oid (pl q) i ∧ σ.get i = some b ∧ ∀ τ, τ.get i = some b → vact o (evalO env) τ = some (u, τ) := by
 unfold rdThing at h
 split at h
 ·rename_i agg size a
  have ha := hG.evs (Gds.nil (tb := tb)) a
  have key : ∀ q i off, (oget s.own q).live = true → Oid (pl q) i → evalO env a = .pointer (some ⟨i, off, none⟩) → (oget s.own q).live = true ∧ ∃ i b, Oid (pl q) i ∧ σ.get i = some b ∧ ∀ τ, τ.get i = some b → vact (.load agg size a) (evalO env) τ = some (u, τ) := fun q i off hl hi he => by
   simp only [vact, he] at hv
   cases hb : σ.get i with
   | none => rw [hb] at hv; cases hv
   | some b =>
    refine ⟨hl, i, b, hi, hb, fun τ ht => ?_⟩
    rw [hb] at hv
    simp only [vact, he, ht]
    cases b with
    | obj o wr => cases hv
    | cells c e wr t =>
     simp only at hv ⊢
     split at hv
     ·obtain ⟨rfl, rfl⟩ := pinj hv; rfl
     ·cases hv
  split at h
  ·rename_i q' off hx
   rw [hx] at ha
   simp only [SR] at ha
   obtain ⟨b, h1, h2⟩ := ha
   cases hh : (oget s.own q').here with
   | false => rw [hh] at h; cases h
   | true =>
    rw [hh] at h
    obtain rfl := Option.some.inj h
    exact key q' b off (here_live hh) (by rw [h1]; rfl) h2
  ·rename_i q' i off sz hx
   rw [hx] at ha
   simp only [SR] at ha
   obtain ⟨b, len, cap, h1, h2, h3, h4⟩ := ha
   cases hh : (oget s.own q').here with
   | false => rw [hh] at h; cases h
   | true =>
    rw [hh] at h
    obtain rfl := Option.some.inj h
    exact key q' b _ (here_live hh) (by rw [h1]; rfl) h4
  ·cases h
 ·cases h
theorem vpend_memB {r : Nat} {σ : Heap} : ∀ {l : List (Nat × (Heap → Prop))}, vpend r σ l → ∀ {c}, c ∈ l → r ≤ c.1 → c.2 σ
 | c :: l, h, c', hc, hr => by
  rcases List.mem_cons.1 hc with rfl | hc
  ·exact h.1 hr
  ·exact vpend_memB h.2 hc hr
theorem rdRo_sound {B F : Heap} {pl : Nat → Value} {tb : Nat → Option Bool} {s : St} {env : Env} {σ : Heap} (hG : Gam P B F pl tb s env σ) {gs : List Gd} (hg : Gds tb gs) {o : VOp} (h : rdRo o (gev gs s.env) = true) {u : Value} {σ2 : Heap} (hv : vact o (evalO env) σ = some (u, σ2)) :
  ∀ τ, B.Le τ → vact o (evalO env) τ = some (u, τ) := by
 unfold rdRo at h
 split at h
 ·rename_i agg size a
  have ha := hG.evs hg a
  have key : ∀ i off, (∃ b, B.get i = some b) → evalO env a = .pointer (some ⟨i, off, none⟩) → ∀ τ, B.Le τ → vact (.load agg size a) (evalO env) τ = some (u, τ) := fun i off ⟨b, hb⟩ he τ hτ => by
   simp only [vact, he, hG.leB.2 _ _ hb] at hv
   simp only [vact, he, hτ.2 _ _ hb]
   cases b with
   | obj o wr => cases hv
   | cells c e wr t =>
    simp only at hv ⊢
    split at hv
    ·obtain ⟨rfl, rfl⟩ := pinj hv; rfl
    ·cases hv
  split at h
  ·rename_i k l i off hx
   rw [hx] at ha
   simp only [SR] at ha
   obtain ⟨b, o, c, e, wr, t, _, _, h3, h4, _⟩ := ha
   exact key b _ ⟨_, h3⟩ h4
  ·rename_i l off hx
   rw [hx] at ha
   simp only [SR] at ha
   obtain ⟨b, c, e, wr, t, h3, h4, _⟩ := ha
   exact key b _ ⟨_, h3⟩ h4
  ·cases h
 ·cases h
theorem gopsD_sound {C : Cx} (hcs : COk P C) {B0 F0 D0 : Heap} : ∀ (ops : List DOper), (∀ o ∈ ops, o.kind = o.op.kind) → ∀ {s : St} {env : Env} {σ : Heap} {B F : Heap} {pl : Nat → Value} {tb : Nat → Option Bool}, GBase B0 F0 D0 B F σ → Gam P B F pl tb s env σ → ∀ {hl chg : Nat} {A Rd : List (Nat × Option Nat)} {hs : List Heap} {pend pd : List (Nat × (Heap → Prop))}, DSt hs σ pd hl chg A Rd s.own pl → (∀ c ∈ pend, (∀ τ, B.Le τ → c.2 τ) ∨ c ∈ pd) → (∀ j τ, hs[j]? = some τ → noFz A j = true → B.Le τ) → chg ≤ hl → 0 < hl →
  ∀ {K : St → Prop}, gopsD C ops s hl chg A Rd K → ∀ {R : Env → Heap → Prop}, (∀ s' env' σ', K s' → GRel P B0 F0 D0 s' env' σ' → R env' σ') → vopsD (semSpecs P) ops env hs σ pend R
 | [], _, s, env, σ, B, F, pl, tb, hB, hG, _, _, _, _, _, _, _, _, _, _, _, _, K, h, R, hK => hK s env σ h ⟨B, F, pl, tb, hB, hG⟩
 | o :: r, hkind, s, env, σ, B, F, pl, tb, hB, hG, hl, chg, A, Rd, hs, pend, pd, hD, hp, hbs, hch, hl0, K, h, R, hK => by
  have vps : ∀ {n : Nat} {τ : Heap}, B.Le τ → vpend n τ pd → vpend n τ pend := fun {n τ} hb hv => vpend_of fun c hc hn => (hp c hc).elim (fun h => h τ hb) fun h => vpend_memB hv h hn
  have snoc : ∀ {τ : Heap} {A' : List (Nat × Option Nat)}, B.Le τ → (∀ j, noFz A' j = true → noFz A j = true) → ∀ j τ', (hs ++ [τ])[j]? = some τ' → noFz A' j = true → B.Le τ' := fun {τ A'} hb hA j τ' hm hn => by
   rcases get_snoc hm with ⟨_, h1⟩ | ⟨_, rfl⟩
   ·exact hbs j τ' h1 (hA j hn)
   ·exact hb
  have hkr : ∀ o ∈ r, o.kind = o.op.kind := fun o' ho' => hkind o' (List.mem_cons_of_mem _ ho')
  have hko := hkind o List.mem_cons_self
  simp only [gopsD] at h
  simp only [vopsD]
  by_cases hk2 : o.kind = 2
  ·rw [if_pos hk2] at h
   have fin : ∀ {u : Value} {σ' : Heap} {ts : List Nat} {v : SV} {s' : St} {pl' : Nat → Value}, (∀ R', R' u σ' → vop (semSpecs P) o.op env σ R') → gopsD C r (s'.put o.dst v) (hl + 1) (bif ts.isEmpty then chg else hl) (ts.map (fun t => (hl - 1, some t)) ++ A) (bif ts.isEmpty then Rd else Rd.map fun r => (r.1, none)) K → Gam P B F pl' tb s' env σ' → SR P B pl' tb v u → (ts = [] → σ' = σ ∧ pl' = pl ∧ s' = s) → σ.Le σ' → Dead σ σ' → FrL ts s s' pl pl' σ σ' →
     vexact (fun R => vop (semSpecs P) o.op env σ R) fun v σ' => vpend hs.length σ' pend ∧ vopsD (semSpecs P) r (putE env o.dst v) (hs ++ [σ']) σ' pend R := fun {u σ' ts v s' pl'} hop hgo hG' hsr he hle hd hfr => by
    cases ts with
    | nil =>
     obtain ⟨rfl, rfl, rfl⟩ := he rfl
     obtain ⟨k1, k2⟩ := hD.stay
     exact ⟨u, σ', hop _ ⟨rfl, rfl⟩, vps hG'.leB k1, gopsD_sound hcs r hkr (dead_n hB hd) (hG'.put o.dst hsr) (by rw [put_own]; exact k2) hp (snoc hG'.leB fun _ h => h) (by simp only [List.isEmpty, _root_.cond_true] at *; omega) (by omega) hgo hK⟩
    | cons t ts =>
     obtain ⟨k1, k2⟩ := hD.call hle hfr hl0
     exact ⟨u, σ', hop _ ⟨rfl, rfl⟩, vps hG'.leB k1, gopsD_sound hcs r hkr (dead_n hB hd) (hG'.put o.dst hsr) (by rw [put_own]; exact k2) hp (snoc hG'.leB fun _ h => noFz_app h) (by simp only [List.isEmpty, _root_.cond_false] at *; omega) (by omega) hgo hK⟩
   split at h
   ·rename_i f args hop
    split at h
    ·rename_i hg
     rw [hg]
     refine ⟨fun _ => ?_, fun e => by cases e⟩
     rw [if_pos hk2]
     obtain ⟨g, a, b, u, σ', e, v, s', pl', h1, h2, h3, h4, h5, h6, h7, h8, h9⟩ := gdcall_sound hcs hG h (show SR P σ noPl noTb (.fn f [] []) (.func (.func f) #[] #[]) by simp only [SR, SRs]; exact ⟨[], [], rfl, rfl, rfl⟩) (hG.gcall Gds.nil args)
     obtain ⟨rfl, rfl, rfl⟩ := (by simpa using h1 : f = g ∧ #[] = a ∧ #[] = b)
     refine fin (u := u) (σ' := σ') (fun R' hr => ?_) h3 h4 h5 h6 h7 h8 h9
     rw [hop]
     show VCalled P f (args.map (evalO env)) σ R'
     have := h2.mono (R' := R') fun u' σ'' ⟨e1, e2⟩ => by subst e1; subst e2; exact hr
     simpa using this
    ·rename_i j want hg
     rw [hg]
     split at h
     ·exact h.elim
     ·rename_i gs s1 hgd
      obtain ⟨tb', hG', htb, b, hw, hb1, hb2⟩ := gguard_sound hG hgd
      have hown := gguard_own hgd
      rw [hw]
      split at h
      ·rename_i cs v hgq
       cases hnb : noBox v with
       | false => rw [hnb] at h; exact h.elim
       | true =>
       rw [hnb] at h
       simp only [_root_.cond_true] at h
       obtain ⟨h1, h2⟩ := gobl_holds h
       obtain ⟨k1, k2⟩ := hD.stay
       have k2' : ∀ x, DSt (hs ++ [σ]) σ pd (hl + 1) chg A Rd (s1.put o.dst x).own pl := fun x => by rw [put_own, hown]; exact k2
       refine ⟨fun e => ?_, fun e => ?_⟩
       ·rw [if_pos hk2]
        have hgs : Gds tb' gs := fun g hg => ⟨hb1 e g hg, htb g hg⟩
        have finv : ∀ {v u}, SR P B pl tb' v u → SR P B pl tb' (.grd gs (unbid v)) u := fun {v u} hs => by
         simp only [SR]
         obtain ⟨h1, h2⟩ := unbid_sr hs
         exact ⟨⟨htb, h2⟩, fun _ => h1, fun ⟨g, hg, hne⟩ => absurd (hb1 e g hg) hne⟩
        simp only [gqc] at hgq
        split at hgq
        ·rename_i c v' heq
         cases hvr : v'.ret 0 with
         | false => rw [hvr] at hgq; cases hgq
         | true =>
          rw [hvr] at hgq
          obtain ⟨rfl, rfl⟩ := pinj hgq
          obtain ⟨g, a, b', h3, h4, _⟩ := gcallee_sound hcs.cs (show SR P σ noPl noTb (.fn f [] []) (.func (.func f) #[] #[]) by simp only [SR, SRs]; exact ⟨[], [], rfl, rfl, rfl⟩) (hG'.gcall hgs args) heq hvr rfl (h2 (hb1 e) _ (by simp))
          obtain ⟨rfl, rfl, rfl⟩ := (by simpa using h3 : f = g ∧ #[] = a ∧ #[] = b')
          refine ⟨cval noPl v', σ, ?_, vps hG.leB k1, gopsD_sound hcs r hkr hB (hG'.put o.dst (finv ?_)) (k2' _) hp (snoc hG.leB fun _ h => h) (by omega) (by omega) (gnm_elim h1) hK⟩
          ·rw [hop]
           show VCalled P f (args.map (evalO env)) σ _
           have := h4.mono (R' := fun u σ' => u = cval noPl v' ∧ σ' = σ) fun u σ' hr => by
            obtain ⟨rfl, hu⟩ := hr.flat hvr
            exact ⟨cval_sound v' u hvr hnb hu, rfl⟩
           simpa using this
          ·exact SR.retd (fun j hj => by omega) _ _ hvr (cval_sr (P := P) (pl := noPl) (m := 0) (fun j hj => by omega) v' hvr hnb)
        ·cases hgq
       ·rw [if_pos hk2]
        obtain ⟨g, hg', hne⟩ := hb2 e
        exact ⟨vps hG.leB k1, gopsD_sound hcs r hkr hB (hG'.put o.dst (by simp only [SR]; exact ⟨⟨htb, unbid_tb v⟩, fun hall => absurd (hall g hg') hne, fun _ => trivial⟩)) (k2' _) hp (snoc hG.leB fun _ h => h) (by omega) (by omega) (gnm_elim h1) hK⟩
      ·split at h
       ·rename_i cs v hgl
        obtain ⟨c, ty, k, xs, nl, heq, rfl, rfl, hk, hnt⟩ := glistD_inv hgl
        obtain ⟨h1, h2⟩ := gobl_holds h
        have frz : ∀ {B' σ' : Heap}, B'.Le σ' → ∀ j τ', (hs ++ [σ'])[j]? = some τ' → noFz ((hl - 1, none) :: A) j = true → B'.Le τ' := fun {B' σ'} hb j τ' hm hn => by
         rcases get_snoc hm with ⟨h1, _⟩ | ⟨_, rfl⟩
         ·simp only [noFz, List.all_cons, Bool.and_eq_true, Bool.or_eq_true, Nat.blt_eq, Option.isSome_none, Bool.false_eq_true, or_false] at hn
          have := hD.len
          omega
         ·exact hb
        refine ⟨fun e => ?_, fun e => ?_⟩
        ·rw [if_pos hk2]
         have hgs : Gds tb' gs := fun g hg => ⟨hb1 e g hg, htb g hg⟩
         have hc1 := h2 (hb1 e) c (by simp)
         have hc2 := h2 (hb1 e) (nl = true → xs = []) (by simp)
         have hgd : gdcall C (C.off + o.dst.getD 0) (.fn f [] []) (ress s1.own (args.map (gev gs s1.env))) s1 (fun ts v' s' => ts = [C.off + o.dst.getD 0] ∧ v' = .lst (C.off + o.dst.getD 0) ∧ s' = s1.make (C.off + o.dst.getD 0) (.lst ty k xs nl)) := by
          unfold gdcall
          rw [heq]
          dsimp only
          have hcond : (SV.ret [OB.lst ty k xs nl].length (.lst 0) && ([OB.lst ty k xs nl].all OB.ret && (Nat.blt 0 C.nt && ([OB.lst ty k xs nl].all OB.isL && noBox (.lst 0))))) = true := by
           simp only [SV.ret, List.length_singleton, List.all_cons, List.all_nil, Bool.and_true, OB.ret, hk, Bool.true_and, OB.isL, noBox]
           rw [Bool.and_eq_true]
           exact ⟨rfl, by rw [Nat.blt_eq]; exact hnt⟩
          rw [hcond]
          simp only [_root_.cond_true, allWf, OB.wf]
          refine ⟨hc1, hc2, ?_, ?_, ?_⟩
          ·simp [List.range_succ]
          ·simp [SV.ren]
          ·simp [St.makes]
         obtain ⟨g, a, b', u, σ', ts, v', s', pl', h3, h4, ⟨rfl, rfl, rfl⟩, h5, h6, _, h7, h8, h9⟩ := gdcall_sound hcs hG' hgd (show SR P σ noPl noTb (.fn f [] []) (.func (.func f) #[] #[]) by simp only [SR, SRs]; exact ⟨[], [], rfl, rfl, rfl⟩) (hG'.gcall hgs args)
         obtain ⟨rfl, rfl, rfl⟩ := (by simpa using h3 : f = g ∧ #[] = a ∧ #[] = b')
         obtain ⟨B', F', m1, m2, m3⟩ := lst_frz hG'.bf hk h5 h6 h8
         have hfr : FrL [C.off + o.dst.getD 0] s ((s1.make (C.off + o.dst.getD 0) .dead).put o.dst (.grd gs (.val (.list k) xs))) pl pl' σ σ' := fun q hq => by
          obtain ⟨f1, f2, f3⟩ := h9 q hq
          rw [hown] at f3
          refine ⟨?_, f2, f3⟩
          rw [put_own, make_live _ _ _ (by simpa using hq), hown]
         obtain ⟨k1, k2⟩ := hD.call h7 hfr hl0
         refine ⟨u, σ', ?_, vps (m1.b.trans m2.leB) k1, gopsD_sound hcs r hkr (hB.trans m1) (m2.put o.dst ?_) k2.frozen (fun c hc => (hp c hc).imp (fun h τ hτ => h τ (m1.b.trans hτ)) id) (frz m2.leB) (by omega) (by omega) h1 hK⟩
         ·rw [hop]
          show VCalled P f (args.map (evalO env)) σ _
          simpa using h4
         ·simp only [SR]
          exact ⟨⟨htb, trivial⟩, fun _ => m3, fun ⟨g, hg, hne⟩ => absurd (hb1 e g hg) hne⟩
        ·rw [if_pos hk2]
         obtain ⟨g, hg', hne⟩ := hb2 e
         have hfr : FrL [C.off + o.dst.getD 0] s ((s1.make (C.off + o.dst.getD 0) .dead).put o.dst (.grd gs (.val (.list k) xs))) pl (updP pl (C.off + o.dst.getD 0) undef) σ σ := fun q hq => by
          have hq' : q ≠ C.off + o.dst.getD 0 := by simpa using hq
          refine ⟨?_, by simp [updP, hq'], fun _ _ _ => rfl⟩
          rw [put_own, make_live _ _ _ hq', hown]
         obtain ⟨k1, k2⟩ := hD.call (.refl σ) hfr hl0
         refine ⟨vps hG.leB k1, gopsD_sound hcs r hkr hB ((hG'.make (C.off + o.dst.getD 0) .dead undef hG'.le (fun _ _ _ _ _ => rfl) trivial (fun i hl _ => by cases hl)).put o.dst ?_) k2.frozen hp (frz hG.leB) (by omega) (by omega) h1 hK⟩
         simp only [SR]
         exact ⟨⟨htb, trivial⟩, fun hall => absurd (hall g hg') hne, fun _ => trivial⟩
       ·exact h.elim
   ·rename_i f args hop
    split at h
    ·rename_i hg
     rw [hg]
     refine ⟨fun _ => ?_, fun e => by cases e⟩
     rw [if_pos hk2]
     obtain ⟨g, a, b, u, σ', e, v, s', pl', h1, h2, h3, h4, h5, h6, h7, h8, h9⟩ := gdcall_sound hcs hG h (hG.gfun Gds.nil f) (hG.gcall Gds.nil args)
     refine fin (u := u) (σ' := σ') (fun R' hr => ?_) h3 h4 h5 h6 h7 h8 h9
     rw [hop]
     exact vcallV_of h1 (h2.mono (R' := R') fun u' σ'' ⟨e1, e2⟩ => by subst e1; subst e2; exact hr)
    ·exact h.elim
   ·rename_i hnf hnv
    split at h
    ·rename_i hg
     rw [hg]
     refine ⟨fun _ => ?_, fun e => by cases e⟩
     rw [if_pos hk2]
     have hcall : isCall o.op = false := by
      cases ho : o.op <;> first | rfl | (exact absurd ho (hnf _ _)) | (exact absurd ho (hnv _ _))
     cases hdp : isDeep C (o.dst.getD 0) o.op (gev [] s.env) with
     | true =>
      rw [hdp] at h
      simp only [_root_.cond_true] at h
      cases hm : rdAll (isMake o.op) Rd hl (dtouch (C.off + o.dst.getD 0) o.op (gev [] s.env)) with
      | false => rw [hm] at h; exact h.elim
      | true =>
       rw [hm] at h
       simp only [_root_.cond_true] at h
       obtain ⟨u, σ', pl', v, s', h1, h2, ⟨h3, h3'⟩, h4⟩ := gnd_sound (fun x => hG.evs (Gds.nil (tb := tb)) x) hG h
       have hopv : ∀ R', R' u σ' → vop (semSpecs P) o.op env σ R' := fun R' hr => by
        have : vop (semSpecs P) o.op env σ R' = obind (vact o.op (evalO env) σ) fun p => R' p.1 p.2 := by
         cases ho : o.op with
         | callF f a => rw [ho] at hcall; cases hcall
         | callV f a => rw [ho] at hcall; cases hcall
         | ext x =>
          cases x with
          | nextMap y => rw [ho] at h1; cases h1
          | _ => rfl
         | _ => rfl
        rw [this, h1]; exact hr
       obtain ⟨k1, k2⟩ := hD.writeD h3' (fun hmk => make_le hmk h1) hm hl0
       exact ⟨u, σ', hopv _ ⟨rfl, rfl⟩, vps h3.leB k1, gopsD_sound hcs r hkr (dead_n hB (vact_dead h1)) (h3.put o.dst h4) (by rw [put_own]; exact k2) hp (snoc h3.leB fun _ h => noFz_app h) (by omega) (by omega) h2 hK⟩
     | false =>
     rw [hdp] at h
     simp only [_root_.cond_false] at h
     cases hm : ((isMake o.op && rdKeep Rd hl (gtouch (C.off + o.dst.getD 0) o.op (gev [] s.env))) || rdFree Rd hl (gtouch (C.off + o.dst.getD 0) o.op (gev [] s.env))) with
     | false => rw [hm] at h; exact h.elim
     | true =>
      rw [hm] at h
      simp only [_root_.cond_true] at h
      obtain ⟨u, σ', pl', v, s', h1, h2, ⟨h3, h3'⟩, h4⟩ := gn_nok hG h hcall
      have hopv : ∀ R', R' u σ' → vop (semSpecs P) o.op env σ R' := fun R' hr => by
       have : vop (semSpecs P) o.op env σ R' = obind (vact o.op (evalO env) σ) fun p => R' p.1 p.2 := by
        cases ho : o.op with
        | callF f a => rw [ho] at hcall; cases hcall
        | callV f a => rw [ho] at hcall; cases hcall
        | ext x =>
         cases x with
         | nextMap y => rw [ho] at h1; cases h1
         | _ => rfl
        | _ => rfl
       rw [this, h1]; exact hr
      obtain ⟨k1, k2⟩ := hD.write h3' (fun hmk => make_le hmk h1) hm hl0
      exact ⟨u, σ', hopv _ ⟨rfl, rfl⟩, vps h3.leB k1, gopsD_sound hcs r hkr (dead_n hB (vact_dead h1)) (h3.put o.dst h4) (by rw [put_own]; exact k2) hp (snoc h3.leB fun _ h => noFz_cons h) (by omega) (by omega) h2 hK⟩
    ·exact h.elim
  ·rw [if_neg hk2] at h
   have hop2 : o.op.kind ≠ 2 := by rw [← hko]; exact hk2
   by_cases hk1 : o.kind = 1
   ·rw [if_pos hk1] at h
    have rd : ∀ (rq : Option Nat), (∀ q, rq = some q → rdThing o.op (gev [] s.env) s.own = some q) → (Nat.ble chg o.kmin || rdStay A o.kmin rq) = true → gd1 C o s (fun s' => gopsD C r s' hl chg A ((o.kmax, rq) :: Rd) K) →
      obind (vwant env o.guard) fun b => vif b (if o.kind = 2 then vexact (fun R => vop (semSpecs P) o.op env σ R) fun v σ' => vpend hs.length σ' pend ∧ vopsD (semSpecs P) r (putE env o.dst v) (hs ++ [σ']) σ' pend R
       else if o.kind = 1 then obind (vact o.op (evalO env) σ) fun p => (∀ τ ∈ hs.drop o.kmin, vreads o.op (evalO env) p.1 τ) ∧
        vopsD (semSpecs P) r (putE env o.dst p.1) hs σ (if hs.length ≤ o.kmax then (o.kmax, vreads o.op (evalO env) p.1) :: pend else pend) R
       else obind (vact o.op (evalO env) σ) fun p => vopsD (semSpecs P) r (putE env o.dst p.1) hs σ pend R)
      (if o.kind = 2 then vpend hs.length σ pend ∧ vopsD (semSpecs P) r (putE env o.dst undef) (hs ++ [σ]) σ pend R else vopsD (semSpecs P) r (putE env o.dst undef) hs σ pend R) := fun rq hrq hc h => by
     obtain ⟨b, hw, h1, h2⟩ := gd1_sound hG h
     rw [hw]
     have hdk : DSt hs σ pd hl chg A ((o.kmax, rq) :: Rd) s.own pl := ⟨hD.len, hD.same, fun c hc => (hD.pend c hc).imp id fun ⟨r, k1, k2⟩ => ⟨r, List.mem_cons_of_mem _ k1, k2⟩, hD.fr⟩
     refine ⟨fun e => ?_, fun e => ?_⟩
     ·obtain ⟨u, s', tb', h3, h4, hown, h5⟩ := h1 e
      rw [if_neg hk2, if_pos hk1, h3]
      refine ⟨fun τ hτ => ?_, ?_⟩
      ·obtain ⟨j, hj⟩ := List.mem_iff_getElem?.1 hτ
       rw [List.getElem?_drop] at hj
       rw [Bool.or_eq_true] at hc
       rcases hc with hc | hc
       ·have := hD.same (o.kmin + j) τ (by have := Nat.le_of_ble_eq_true hc; omega) hj
        subst this; exact vreads_of h3
       ·unfold rdStay at hc
        split at hc
        ·rename_i q
         obtain ⟨k1, i, bl, k2, k3, k4⟩ := rdThing_sound hG (hrq q rfl) h3
         have hu : untouched A (o.kmin + j) q = true := by
          simp only [untouched, List.all_eq_true, Bool.or_eq_true, Nat.blt_eq] at hc ⊢
          exact fun a ha => (hc a ha).imp (fun h => by omega) id
         have := hD.fr (o.kmin + j) τ q i hj hu k1 k2
         exact vreads_of (k4 τ (by rw [this]; exact k3))
        ·cases hc
      ·by_cases hle : hs.length ≤ o.kmax
       ·rw [if_pos hle]
        refine gopsD_sound hcs r hkr hB h5 (A := A) (Rd := (o.kmax, rq) :: Rd) (hl := hl) (chg := chg) (pd := (o.kmax, vreads o.op (evalO env) u) :: pd) ?_ (fun c hc => ?_) hbs hch hl0 h4 hK
        ·rw [hown]
         refine ⟨hD.len, hD.same, fun c hc => ?_, hD.fr⟩
         rcases List.mem_cons.1 hc with rfl | hc
         ·refine .inr ⟨_, List.mem_cons_self, Nat.le_refl _, ?_⟩
          cases rq with
          | none => exact fun τ hτ => vreads_of (vact_mono hop2 h3 hτ)
          | some q =>
           obtain ⟨k1, i, bl, k2, k3, k4⟩ := rdThing_sound hG (hrq q rfl) h3
           exact ⟨k1, i, bl, k2, k3, fun τ ht => vreads_of (k4 τ ht)⟩
         ·exact hdk.pend c hc
        ·rcases List.mem_cons.1 hc with rfl | hc
         ·exact .inr List.mem_cons_self
         ·exact (hp c hc).imp id fun h => List.mem_cons_of_mem _ h
       ·rw [if_neg hle]
        exact gopsD_sound hcs r hkr hB h5 (A := A) (Rd := (o.kmax, rq) :: Rd) (hl := hl) (chg := chg) (pd := pd) (by rw [hown]; exact hdk) hp hbs hch hl0 h4 hK
     ·obtain ⟨s', tb', h4, hown, h5⟩ := h2 e
      rw [if_neg hk2]
      exact gopsD_sound hcs r hkr hB h5 (by rw [hown]; exact hdk) hp hbs hch hl0 h4 hK
    have ro : noFz A o.kmin = true → (∀ u, vact o.op (evalO env) σ = some (u, σ) → (vwant env o.guard = some true) → ∀ τ, B.Le τ → vact o.op (evalO env) τ = some (u, τ)) → gd1 C o s (fun s' => gopsD C r s' hl chg A Rd K) →
      obind (vwant env o.guard) fun b => vif b (if o.kind = 2 then vexact (fun R => vop (semSpecs P) o.op env σ R) fun v σ' => vpend hs.length σ' pend ∧ vopsD (semSpecs P) r (putE env o.dst v) (hs ++ [σ']) σ' pend R
       else if o.kind = 1 then obind (vact o.op (evalO env) σ) fun p => (∀ τ ∈ hs.drop o.kmin, vreads o.op (evalO env) p.1 τ) ∧
        vopsD (semSpecs P) r (putE env o.dst p.1) hs σ (if hs.length ≤ o.kmax then (o.kmax, vreads o.op (evalO env) p.1) :: pend else pend) R
       else obind (vact o.op (evalO env) σ) fun p => vopsD (semSpecs P) r (putE env o.dst p.1) hs σ pend R)
      (if o.kind = 2 then vpend hs.length σ pend ∧ vopsD (semSpecs P) r (putE env o.dst undef) (hs ++ [σ]) σ pend R else vopsD (semSpecs P) r (putE env o.dst undef) hs σ pend R) := fun hfz hro h => by
     obtain ⟨b, hw, h1, h2⟩ := gd1_sound hG h
     rw [hw]
     refine ⟨fun e => ?_, fun e => ?_⟩
     ·obtain ⟨u, s', tb', h3, h4, hown, h5⟩ := h1 e
      have hro := hro u h3 (by rw [hw, e])
      rw [if_neg hk2, if_pos hk1, h3]
      refine ⟨fun τ hτ => ?_, ?_⟩
      ·obtain ⟨j, hj⟩ := List.mem_iff_getElem?.1 hτ
       rw [List.getElem?_drop] at hj
       refine vreads_of (hro τ (hbs _ τ hj ?_))
       simp only [noFz, List.all_eq_true, Bool.or_eq_true, Nat.blt_eq] at hfz ⊢
       exact fun a ha => (hfz a ha).imp (fun h => by omega) id
      refine gopsD_sound hcs r hkr hB h5 (A := A) (Rd := Rd) (hl := hl) (chg := chg) (pd := pd) (by rw [hown]; exact hD) (fun c hc => ?_) hbs hch hl0 h4 hK
      split at hc
      ·rcases List.mem_cons.1 hc with rfl | hc
       ·exact .inl fun τ hτ => vreads_of (hro τ hτ)
       ·exact hp c hc
      ·exact hp c hc
     ·obtain ⟨s', tb', h4, hown, h5⟩ := h2 e
      rw [if_neg hk2]
      exact gopsD_sound hcs r hkr hB h5 (by rw [hown]; exact hD) hp hbs hch hl0 h4 hK
    split at h
    ·rename_i hg
     cases hr : (rdRo o.op (gev [] s.env) && noFz A o.kmin) with
     | true =>
      rw [hr] at h
      rw [Bool.and_eq_true] at hr
      exact ro hr.2 (fun u hu _ => rdRo_sound hG Gds.nil hr.1 hu) h
     | false =>
     rw [hr] at h
     simp only [_root_.cond_false] at h
     cases hb : (Nat.ble chg o.kmin || rdStay A o.kmin (rdThing o.op (gev [] s.env) s.own)) with
     | false => rw [hb] at h; exact h.elim
     | true =>
      rw [hb] at h
      exact rd _ (fun q hq => hq) hb h
    ·rename_i j want hg
     cases hr : (rdRoG s j want o.op && noFz A o.kmin) with
     | true =>
      rw [hr] at h
      rw [Bool.and_eq_true] at hr
      obtain ⟨hr, hfz⟩ := hr
      refine ro hfz (fun u hu hw => ?_) h
      unfold rdRoG at hr
      split at hr
      ·rename_i gs s1 hgd
       obtain ⟨tb', hG', htb, b, hw', hb1, hb2⟩ := gguard_sound hG hgd
       rw [hg, hw'] at hw
       have e := Option.some.inj hw
       exact rdRo_sound hG' (fun g hg => ⟨hb1 e g hg, htb g hg⟩) hr hu
      ·cases hr
     | false =>
     rw [hr] at h
     simp only [_root_.cond_false] at h
     cases hb : Nat.ble chg o.kmin with
     | false => rw [hb] at h; exact h.elim
     | true =>
      rw [hb] at h
      exact rd none (fun q hq => by cases hq) (by rw [hb]; rfl) h
   ·rw [if_neg hk1] at h
    obtain ⟨b, hw, h1, h2⟩ := gd1_sound hG h
    rw [hw]
    refine ⟨fun e => ?_, fun e => ?_⟩
    ·obtain ⟨u, s', tb', h3, h4, hown, h5⟩ := h1 e
     rw [if_neg hk2, if_neg hk1, h3]
     exact gopsD_sound hcs r hkr hB h5 (by rw [hown]; exact hD) hp hbs hch hl0 h4 hK
    ·obtain ⟨s', tb', h4, hown, h5⟩ := h2 e
     rw [if_neg hk2]
     exact gopsD_sound hcs r hkr hB h5 (by rw [hown]; exact hD) hp hbs hch hl0 h4 hK
def mapP (pl : Nat → Value) (mp : List (Nat × Option Nat)) : Nat → Value := fun t => match alook mp t with
 | some (some a) => pl a
 | _ => .slice none 0 0
theorem castEq_kc {h : Heap} {k k' : Kind} {x : k.T} {y : k'.T} (e : castEq x y) {cs : List Value} (hk : KC h k' y cs) : KC h k x cs := by
 unfold castEq at e
 split at e
 ·rename_i z hz
  obtain rfl := castK_kind hz
  obtain rfl := castK_same hz
  subst e; exact hk
 ·exact e.elim
mutual
theorem svEq_sound {B : Heap} {pl : Nat → Value} {tb : Nat → Option Bool} {mp : List (Nat × Option Nat)} : ∀ (p a : SV) (v : Value), svEq mp p a → SR P B pl tb a v → SR P B (mapP pl mp) noTb p v
 | .any, a, v, _, _ => trivial
 | .val k x, a, v, h, hs => by
  simp only [svEq] at h
  split at h
  ·simp only [SR] at hs ⊢; exact castEq_kc h hs
  ·simp only [SR] at hs ⊢; exact castEq_kc h (by simp [KC, hs.1])
  ·split at h
   ·subst h; simp only [SR] at hs ⊢; subst hs; exact ⟨_, rfl, .inl ⟨rfl, rfl⟩⟩
   ·exact h.elim
  ·exact h.elim
 | .lst t, a, v, h, hs => by
  simp only [svEq] at h
  split at h
  ·split at h
   ·rename_i e; simp only [SR, mapP, e] at hs ⊢; exact hs
   ·exact h.elim
  ·split at h
   ·rename_i e; simp only [SR, mapP, e] at hs ⊢; exact ⟨hs, _, _, _, hs⟩
   ·exact h.elim
  ·exact h.elim
 | .box t off, a, v, h, hs => by
  simp only [svEq] at h
  split at h
  ·split at h
   ·rename_i e; obtain ⟨e, rfl⟩ := e; simp only [SR, mapP, e] at hs ⊢; exact hs
   ·exact h.elim
  ·exact h.elim
 | .map t, a, v, h, hs => by
  simp only [svEq] at h
  split at h
  ·split at h
   ·rename_i e; simp only [SR, mapP, e] at hs ⊢; exact hs
   ·exact h.elim
  ·exact h.elim
 | .dd t w, a, v, h, hs => by
  simp only [svEq] at h
  split at h
  ·split at h
   ·simp only [SR] at hs ⊢
    simp only [DR]
    exact .inl ⟨h, hs⟩
   ·split at h
    ·rename_i e
     obtain ⟨e, rfl⟩ := e
     simp only [SR, DR, mapP, e] at hs ⊢
     obtain ⟨b, h1, h2⟩ := hs
     exact .inr ⟨h, b, by rw [h1]; rfl, h2⟩
    ·exact h.elim
   ·split at h
    ·split at h
     ·rename_i e; subst h; simp only [SR, DR, mapP, e] at hs ⊢; exact hs
     ·exact h.elim
    ·exact h.elim
   ·exact h.elim
  ·split at h
   ·split at h
    ·split at h
     ·rename_i e; simp only [SR, mapP, e] at hs ⊢; exact hs
     ·exact h.elim
    ·exact h.elim
   ·split at h
    ·rename_i e; simp only [SR, mapP, e] at hs ⊢; exact ⟨hs, _, _, _, hs⟩
    ·exact h.elim
   ·exact h.elim
  ·exact h.elim
 | .agg l, a, v, h, hs => by
  simp only [svEq] at h
  split at h
  ·rename_i l'
   simp only [SR] at hs ⊢
   obtain ⟨cs, h1, h2⟩ := hs
   exact ⟨cs, h1, svEqs_sound l l' cs h h2⟩
  ·exact h.elim
 | .tup l, a, v, h, hs => by
  simp only [svEq] at h
  split at h
  ·rename_i l'
   simp only [SR] at hs ⊢
   obtain ⟨cs, h1, h2⟩ := hs
   exact ⟨cs, h1, svEqs_sound l l' cs h h2⟩
  ·exact h.elim
 | .fn f x y, a, v, h, hs => by
  simp only [svEq] at h
  split at h
  ·split at h
   ·rename_i e
    subst e
    simp only [SR] at hs ⊢
    obtain ⟨cs, ds, h1, h2, h3⟩ := hs
    exact ⟨cs, ds, h1, svEqs_sound x _ cs h.1 h2, svEqs_sound y _ ds h.2 h3⟩
   ·exact h.elim
  ·exact h.elim
 | .nilS, a, v, h, hs => by
  simp only [svEq] at h
  split at h
  ·simp only [SR] at hs ⊢; exact hs
  ·exact h.elim
 | .nilP, a, v, h, hs => by
  simp only [svEq] at h
  split at h
  ·simp only [SR] at hs ⊢; exact hs
  ·exact h.elim
 | .nilM, a, v, h, hs => by
  simp only [svEq] at h
  split at h
  ·simp only [SR] at hs ⊢; exact hs
  ·exact h.elim
 | .nilF, a, v, h, hs => by
  simp only [svEq] at h
  split at h
  ·simp only [SR] at hs ⊢; exact hs
  ·exact h.elim
 | .cp l off, a, v, h, hs => by
  simp only [svEq] at h
  obtain ⟨rfl, hp⟩ := h
  simp only [SR] at hs ⊢
  obtain ⟨b, c, e, wr, t, h1, h2, h3⟩ := hs
  exact ⟨b, c, e, wr, t, h1, h2, pures_sound l c hp h3⟩
 | .pf ks r dom p, a, v, h, hs => by
  simp only [svEq] at h
  subst h
  simp only [SR] at hs ⊢; exact hs
 | .sub t lo n sz, a, v, h, hs => by
  simp only [svEq] at h
  split at h
  ·split at h
   ·rename_i e; obtain ⟨rfl, rfl, rfl⟩ := h; simp only [SR, mapP, e] at hs ⊢; exact hs
   ·exact h.elim
  ·exact h.elim
 | .elp _ _ _ _, _, _, h, _ | .grd _ _, _, _, h, _ | .bid _ _, _, _, h, _ | .rop _ _ _ _, _, _, h, _ => by simp only [svEq] at h
theorem svEqs_sound {B : Heap} {pl : Nat → Value} {tb : Nat → Option Bool} {mp : List (Nat × Option Nat)} : ∀ (p a : List SV) (v : List Value), svEqs mp p a → SRs P B pl tb a v → SRs P B (mapP pl mp) noTb p v
 | [], a, v, h, hs => by simp only [svEqs] at h; subst h; exact hs
 | s :: ss, [], v, h, hs => by simp only [svEqs] at h
 | s :: ss, a :: axs, v, h, hs => by
  simp only [svEqs] at h
  simp only [SRs] at hs ⊢
  obtain ⟨x, y, h1, h2, h3⟩ := hs
  exact ⟨x, y, h1, svEq_sound s a x h.1 h2, svEqs_sound ss axs y h.2 h3⟩
theorem pure_sound {B : Heap} {pl pl' : Nat → Value} {tb tb' : Nat → Option Bool} : ∀ (s : SV) (v : Value), s.pure = true → SR P B pl tb s v → SR P B pl' tb' s v
 | .any, v, _, _ => trivial
 | .val k x, v, _, h => by simp only [SR] at h ⊢; exact h
 | .nilS, v, _, h | .nilP, v, _, h | .nilM, v, _, h | .nilF, v, _, h => by simp only [SR] at h ⊢; exact h
 | .rop k l i off, v, _, h => by simp only [SR] at h ⊢; exact h
 | .pf ks r dom p, v, _, h => by simp only [SR] at h ⊢; exact h
 | .agg l, v, hp, h => by
  simp only [SR] at h ⊢
  obtain ⟨cs, h1, h2⟩ := h
  exact ⟨cs, h1, pures_sound l cs hp h2⟩
 | .tup l, v, hp, h => by
  simp only [SR] at h ⊢
  obtain ⟨cs, h1, h2⟩ := h
  exact ⟨cs, h1, pures_sound l cs hp h2⟩
 | .cp l off, v, hp, h => by
  simp only [SR] at h ⊢
  obtain ⟨b, c, e, wr, t, h1, h2, h3⟩ := h
  exact ⟨b, c, e, wr, t, h1, h2, pures_sound l c hp h3⟩
 | .fn f a b, v, hp, h => by
  simp only [SV.pure, Bool.and_eq_true] at hp
  simp only [SR] at h ⊢
  obtain ⟨x, y, h1, h2, h3⟩ := h
  exact ⟨x, y, h1, pures_sound a x hp.1 h2, pures_sound b y hp.2 h3⟩
 | .lst _, _, h, _ | .sub _ _ _ _, _, h, _ | .elp _ _ _ _, _, h, _ | .box _ _, _, h, _ | .map _, _, h, _ | .grd _ _, _, h, _ | .bid _ _, _, h, _ => by cases h
theorem pures_sound {B : Heap} {pl pl' : Nat → Value} {tb tb' : Nat → Option Bool} : ∀ (s : List SV) (v : List Value), SVs.pure s = true → SRs P B pl tb s v → SRs P B pl' tb' s v
 | [], v, _, h => by simp only [SRs] at h ⊢; exact h
 | s :: ss, v, hp, h => by
  simp only [SVs.pure, Bool.and_eq_true] at hp
  simp only [SRs] at h ⊢
  obtain ⟨x, y, h1, h2, h3⟩ := h
  exact ⟨x, y, h1, pure_sound s x hp.1 h2, pures_sound ss y hp.2 h3⟩
end
end
end Go.V
namespace Go.V
open Go
section
variable {P : Program} {B F : Heap} {pl : Nat → Value} {tb : Nat → Option Bool} {s : St} {env : Env} {σ : Heap}
theorem castEq_list {k k' : Kind} {xs : List k.T} {ys : List k'.T} (h : castEq (k := .list k) xs (k' := .list k') ys) : ∃ e : k' = k, e ▸ ys = xs := by
 unfold castEq at h
 split at h
 ·rename_i z hz
  have e := castK_kind hz
  obtain rfl := Kind.list.inj e
  obtain rfl := castK_same hz
  exact ⟨rfl, h⟩
 ·exact h.elim
theorem obEq_sound (hG : Gam P B F pl tb s env σ) {mp : List (Nat × Option Nat)} {t : Nat} {b : OB} (h : obEq s mp t b) :
  OR P B (mapP pl mp) noTb σ (mapP pl mp t) b ∧ (b.live = true → ∀ i, Oid (mapP pl mp t) i → ∃ a, alook mp t = some (some a) ∧ (oget s.own a).live = true ∧ Oid (pl a) i) := by
 unfold obEq at h
 split at h
 ·rename_i a ha
  have hpl : mapP pl mp t = pl a := by simp [mapP, ha]
  rw [hpl]
  have hob := hG.obj a
  split at h
  ·exact ⟨trivial, fun h => by cases h⟩
  ·rename_i ty k xs nl ty' k' xs' nl' ho
   split at h
   ·rename_i e
    subst e
    obtain ⟨h1, rfl⟩ := h
    obtain ⟨rfl, rfl⟩ := castEq_list h1
    rw [ho] at hob
    exact ⟨hob, fun _ i hi => ⟨a, ha, by rw [ho]; rfl, hi⟩⟩
   ·exact h.elim
  ·rename_i l u l' u' ho
   split at h
   ·rename_i e0
    subst e0
    rw [ho] at hob
    obtain ⟨i, c, e, t', h1, h2, h3, h4⟩ := hob
    exact ⟨⟨i, c, e, t', h1, h2, svEqs_sound l l' c h h3, h4⟩, fun _ i hi => ⟨a, ha, by rw [ho]; rfl, hi⟩⟩
   ·exact h.elim
  ·rename_i kk vk m kk' vk' m' ho
   split at h
   ·obtain ⟨e, h1⟩ := castEq_list h
    obtain ⟨rfl, rfl⟩ := Kind.pair.inj e
    subst h1
    rw [ho] at hob
    exact ⟨hob, fun _ i hi => ⟨a, ha, by rw [ho]; rfl, hi⟩⟩
   ·exact h.elim
  ·rename_i l vals l' vals' ho
   rw [ho] at hob
   obtain ⟨rfl, h⟩ := h
   exact ⟨svEqs_sound l l' vals h hob, fun h => by cases h⟩
  ·rename_i ty q k xs nl h0 ty' q' k' xs' nl' h0' ho
   split at h
   ·rename_i e
    obtain ⟨rfl, rfl⟩ := e
    split at h
    ·obtain ⟨h1, rfl⟩ := h
     obtain ⟨rfl, rfl⟩ := castEq_list h1
     rw [ho] at hob
     exact ⟨hob, fun _ i hi => ⟨a, ha, by rw [ho]; rfl, hi⟩⟩
    ·exact h.elim
   ·exact h.elim
  ·exact h.elim
 ·rename_i ha
  have hpl : mapP pl mp t = .slice none 0 0 := by simp [mapP, ha]
  rw [hpl]
  split at h
  ·exact ⟨.inl ⟨h.2, h.1, rfl⟩, fun _ i hi => by cases hi⟩
  ·split at h
   ·obtain ⟨rfl, rfl⟩ := h
    refine ⟨⟨[], fun i => ⟨fun h => (by cases h), fun ⟨b, h⟩ => (by cases h)⟩, List.nodup_nil, .inl ⟨rfl, rfl, rfl⟩, fun i => ⟨fun ⟨b, h⟩ => (by cases h), fun h => (by cases h)⟩, (fun i b h => by cases h), by simp [phd]⟩, fun _ i hi => by cases hi⟩
   ·exact h.elim
  ·exact h.elim
 ·exact h.elim
theorem alook_append {α : Type _} (l : List (Nat × α)) (t : Nat) (x : α) (d : Nat) : alook (l ++ [(t, x)]) d = match alook l d with | some y => some y | none => if t = d then some x else none := by
 induction l with
 | nil =>
  simp only [List.nil_append, alook]
  by_cases h : t = d
  ·subst h; simp
  ·rw [beq_ne h]; simp [h]
 | cons p l ih =>
  obtain ⟨k, y⟩ := p
  simp only [List.cons_append, alook, ih]
  cases Nat.beq k d <;> rfl
theorem alook_mem {α : Type _} {l : List (Nat × α)} {d : Nat} {x : α} (h : alook l d = some x) : ∃ p ∈ l, p.1 = d ∧ p.2 = x := by
 induction l with
 | nil => cases h
 | cons p l ih =>
  obtain ⟨k, y⟩ := p
  simp only [alook] at h
  cases hb : Nat.beq k d with
  | true => rw [hb] at h; obtain rfl := Option.some.inj h; exact ⟨_, List.mem_cons_self, Nat.eq_of_beq_eq_true hb, rfl⟩
  | false =>
   rw [hb] at h
   obtain ⟨p, h1, h2⟩ := ih h
   exact ⟨p, List.mem_cons_of_mem _ h1, h2⟩
def Inj (mp : List (Nat × Option Nat)) : Prop := ∀ t t' a, alook mp t = some (some a) → alook mp t' = some (some a) → t = t'
theorem gmap_inj : ∀ (l : List (Nat × Src)) (mp mp' : List (Nat × Option Nat)), gmap s l mp = some mp' → Inj mp → Inj mp'
 | [], mp, mp', h, hi => by obtain rfl := Option.some.inj h; exact hi
 | (t, src) :: r, mp, mp', h, hi => by
  simp only [gmap] at h
  split at h
  ·rename_i a _
   split at h
   ·cases h
   ·rename_i hc
    refine gmap_inj r _ _ h ?_
    have hfr : ∀ d, alook mp d ≠ some (some a) := fun d hd => by
     obtain ⟨p, h1, h2, h3⟩ := alook_mem hd
     apply hc
     simp only [Bool.or_eq_true]
     exact .inl (List.any_eq_true.2 ⟨p, h1, by rw [h3]; simp⟩)
    intro t1 t2 a' h1 h2
    rw [alook_append] at h1 h2
    split at h1
    ·rename_i y1 e1
     split at h2
     ·rename_i y2 e2
      obtain rfl := Option.some.inj h1
      obtain rfl := Option.some.inj h2
      exact hi t1 t2 a' e1 e2
     ·split at h2
      ·obtain rfl := Option.some.inj (Option.some.inj h2)
       obtain rfl := Option.some.inj h1
       exact absurd e1 (hfr t1)
      ·cases h2
    ·split at h1
     ·rename_i e1
      obtain rfl := Option.some.inj (Option.some.inj h1)
      split at h2
      ·rename_i y2 e2
       obtain rfl := Option.some.inj h2
       exact absurd e2 (hfr t2)
      ·split at h2
       ·rename_i e2; omega
       ·cases h2
     ·cases h1
  ·split at h
   ·cases h
   ·refine gmap_inj r _ _ h ?_
    intro t1 t2 a' h1 h2
    rw [alook_append] at h1 h2
    split at h1
    ·rename_i y1 e1
     split at h2
     ·rename_i y2 e2
      obtain rfl := Option.some.inj h1
      obtain rfl := Option.some.inj h2
      exact hi t1 t2 a' e1 e2
     ·split at h2 <;> cases h2
    ·split at h1 <;> cases h1
  ·cases h
theorem gobs_mem {mp : List (Nat × Option Nat)} : ∀ {ow : List (Nat × Src × OB)}, gmatch.obs s mp ow → ∀ p ∈ ow, obEq s mp p.1 p.2.2
 | [], _, p, hp => by cases hp
 | (t, src, b) :: r, h, p, hp => by
  simp only [gmatch.obs] at h
  rcases List.mem_cons.1 hp with rfl | hp
  ·exact h.1
  ·exact gobs_mem h.2 p hp
theorem fold_oset {f : List (Nat × Src × OB)} : ∀ (own : Own) (t : Nat), (∃ p ∈ f, p.1 = t ∧ oget (f.foldl (fun o p => oset o p.1 p.2.2) own) t = p.2.2) ∨ oget (f.foldl (fun o p => oset o p.1 p.2.2) own) t = oget own t := by
 induction f with
 | nil => intro own t; exact .inr rfl
 | cons p f ih =>
  intro own t
  simp only [List.foldl_cons]
  rcases ih (oset own p.1 p.2.2) t with ⟨q, h1, h2⟩ | h
  ·exact .inl ⟨q, List.mem_cons_of_mem _ h1, h2⟩
  ·rw [h, oget_oset]
   by_cases e : t = p.1
   ·rw [if_pos e]; exact .inl ⟨p, List.mem_cons_self, e.symm, rfl⟩
   ·rw [if_neg e]; exact .inr rfl
theorem slots_sound (hG : Gam P B F pl tb s env σ) {mp : List (Nat × Option Nat)} : ∀ (st : List (Nat × SV)) {e : List SV} {eV : Env}, gmatch.slots s mp st → SRs P B (mapP pl mp) noTb e eV → SRs P B (mapP pl mp) noTb (st.foldl (fun e p => e.set p.1 p.2) e) (spreadE (st.map (·.1)) (pickE (st.map (·.1)) env) eV)
 | [], e, eV, _, h => h
 | (j, v) :: r, e, eV, hs, h => by
  simp only [gmatch.slots] at hs
  simp only [List.foldl_cons, List.map_cons, pickE, spreadE]
  exact slots_sound hG r hs.2 (h.set j (svEq_sound v _ _ hs.1 (hG.env.getD j poison)))
theorem any_rel {B : Heap} {pl : Nat → Value} {tb : Nat → Option Bool} : ∀ n, SRs P B pl tb (List.replicate n .any) (List.replicate n poison)
 | 0 => by simp [SRs]
 | n + 1 => by
  simp only [List.replicate_succ, SRs]
  exact ⟨_, _, rfl, by simp [SR], any_rel n⟩
theorem gmatch_sound {B0 F0 D0 : Heap} (hR : GRel P B0 F0 D0 s env σ) {st : List (Nat × SV)} {ow : List (Nat × Src × OB)} (h : gmatch s st ow) (len : Nat) : GRel P B0 F0 D0 (gstate len st ow) (spreadE (st.map (·.1)) (pickE (st.map (·.1)) env) (List.replicate len poison)) σ := by
 obtain ⟨B, F, pl, tb, hB, hG⟩ := hR
 unfold gmatch at h
 split at h
 ·rename_i mp hmp
  obtain ⟨h1, h2⟩ := h
  have hinj := gmap_inj _ _ _ hmp (fun t t' a h => by cases h)
  have hmem := gobs_mem h2
  have hob : ∀ t, (oget (gstate len st ow).own t).live = true → obEq s mp t (oget (gstate len st ow).own t) := fun t hl => by
   rcases fold_oset (f := ow) [] t with ⟨p, h3, h4, h5⟩ | h3
   ·have := hmem p h3
    rw [h4, ← h5] at this; exact this
   ·simp only [gstate] at hl
    rw [h3] at hl; cases hl
  refine ⟨B, F, mapP pl mp, noTb, hB, hG.bf, hG.le, slots_sound hG st h1 (any_rel len), fun t => ?_, fun t i hl hi => ?_, fun t t' i hne hl hl' hi hi' => ?_, fun _ _ => rfl⟩
  ·cases hl : (oget (gstate len st ow).own t).live with
   | true => exact (obEq_sound hG (hob t hl)).1
   | false =>
    cases ho : oget (gstate len st ow).own t with
    | dead => trivial
    | stk l vals =>
     rcases fold_oset (f := ow) [] t with ⟨p, h3, h4, h5⟩ | h3
     ·have := hmem p h3
      simp only [gstate] at ho
      rw [← h5, ho] at this
      have h6 := (obEq_sound hG this).1
      rw [h4] at h6; exact h6
     ·simp only [gstate] at ho; rw [h3] at ho; cases ho
    | _ => rw [ho] at hl; cases hl
  ·obtain ⟨a, _, h4, h5⟩ := (obEq_sound hG (hob t hl)).2 hl i hi
   exact hG.fresh a i h4 h5
  ·obtain ⟨a, e1, h4, h5⟩ := (obEq_sound hG (hob t hl)).2 hl i hi
   obtain ⟨a', e2, h4', h5'⟩ := (obEq_sound hG (hob t' hl')).2 hl' i hi'
   by_cases e : a = a'
   ·subst e; exact hne (hinj t t' a e1 e2)
   ·exact hG.sep a a' i e h4 h4' h5 h5'
 ·exact h.elim
theorem gfrz_sound : ∀ {caps caps' : List SV} {vs : List Value} {B F : Heap} {s s' : St}, Gam P B F pl tb s env σ → SRs P B pl tb caps vs → gfrz s caps = some (s', caps') →
  ∃ B' F', GBase B F σ B' F' σ ∧ Gam P B' F' pl tb s' env σ ∧ SRs P B' noPl noTb caps' vs ∧ s'.env = s.env
 | [], caps', vs, B, F, s, s', hG, hs, h => by
  simp only [gfrz, Option.some.injEq, Prod.mk.injEq] at h
  obtain ⟨rfl, rfl⟩ := h
  exact ⟨B, F, .of hG.bf (.refl _), hG, hs, rfl⟩
 | v :: caps, caps', vs, B, F, s, s', hG, hs, h => by
  simp only [SRs] at hs
  obtain ⟨u, us, rfl, h1, h2⟩ := hs
  have pureC : ∀ w : SV, SR P B pl tb w u → (bif w.pure then (match gfrz s caps with | some (s', r) => some (s', w :: r) | none => none) else none) = some (s', caps') →
    ∃ B' F', GBase B F σ B' F' σ ∧ Gam P B' F' pl tb s' env σ ∧ SRs P B' noPl noTb caps' (u :: us) ∧ s'.env = s.env := fun w hw h => by
   cases hp : w.pure with
   | false => rw [hp] at h; cases h
   | true =>
    rw [hp] at h
    simp only [_root_.cond_true] at h
    split at h
    ·rename_i s1 r heq
     simp only [Option.some.injEq, Prod.mk.injEq] at h
     obtain ⟨rfl, rfl⟩ := h
     obtain ⟨B', F', k1, k2, k3, k4⟩ := gfrz_sound hG h2 heq
     exact ⟨B', F', k1, k2, by simp only [SRs]; exact ⟨u, us, rfl, SR.mono k1.b (fun _ _ h => h) _ _ (pure_sound w u hp hw), k3⟩, k4⟩
    ·cases h
  simp only [gfrz] at h
  split at h
  ·rename_i o
   split at h
   ·rename_i l _ ho
    cases hp : SVs.pure l with
    | false => rw [hp] at h; cases h
    | true =>
     rw [hp] at h
     simp only [_root_.cond_true] at h
     split at h
     ·rename_i s1 r heq
      simp only [Option.some.injEq, Prod.mk.injEq] at h
      obtain ⟨rfl, rfl⟩ := h
      have hob := hG.obj o
      rw [ho] at hob
      obtain ⟨i, c, e, t, e1, e2, e3, _⟩ := hob
      obtain ⟨k1, k2⟩ := hG.freeze (o := o) (i := i) (by rw [ho]; rfl) (by rw [e1]; rfl)
      obtain ⟨B', F', j1, j2, j3, j4⟩ := gfrz_sound k2 (SRs.mono k1.b (fun _ _ h => h) _ _ h2) heq
      refine ⟨B', F', k1.trans j1, j2, ?_, j4⟩
      simp only [SRs]
      refine ⟨u, us, rfl, ?_, j3⟩
      simp only [SR] at h1 ⊢
      obtain ⟨b, q1, q2⟩ := h1
      rw [e1] at q1
      obtain rfl : i = b := by simpa using q1
      refine ⟨i, c, e, true, t, j1.b.2 _ _ ?_, q2, SRs.mono (k1.trans j1).b (fun _ _ h => h) _ _ (pures_sound l c hp e3)⟩
      rw [Heap.ins_self]; exact e2
     ·cases h
   ·cases h
  ·exact pureC _ h1 h
theorem Gam.lpUpd (hG : Gam P B F pl tb s env σ) {n : Nat} {b b0 : Blk} (hF : F.get n = some b0) (hB : B.get n = none) : Gam P B (F.upd n b) pl tb s env (σ.upd n b) := by
 have hne : ∀ {d i}, (oget s.own d).live = true → Oid (pl d) i → i ≠ n := fun h1 h2 e => by
  have := hG.fresh _ _ h1 h2
  subst e; rw [hF] at this; cases this
 refine ⟨⟨hG.bf.1, fun i c hc => ?_⟩, ⟨hG.le.1, fun i c hc => ?_⟩, hG.env, fun d => (hG.obj d).mono (.refl _) (fun _ _ h => h) fun h1 i h2 => Heap.get_upd_ne _ _ (hne h1 h2), fun d i h1 h2 => ?_, hG.sep, hG.free⟩
 ·have : i ≠ n := by rintro rfl; rw [hB] at hc; cases hc
  rw [Heap.get_upd_ne _ _ this]; exact hG.bf.2 _ _ hc
 ·by_cases e : i = n
  ·subst e
   rw [Heap.get_upd_self _ _ (F.lt hF)] at hc
   rw [Heap.get_upd_self _ _ (Nat.lt_of_lt_of_le (F.lt hF) hG.le.1)]; exact hc
  ·rw [Heap.get_upd_ne _ _ e] at hc ⊢; exact hG.le.2 _ _ hc
 ·rw [Heap.get_upd_ne _ _ (hne h1 h2)]; exact hG.fresh _ _ h1 h2
theorem Gam.lpKill (hG : Gam P B F pl tb s env σ) {n : Nat} {b0 : Blk} (hF : F.get n = some b0) (hB : B.get n = none) : Gam P B (F.kill n) pl tb s env (σ.kill n) := by
 have hne : ∀ {d i}, (oget s.own d).live = true → Oid (pl d) i → i ≠ n := fun h1 h2 e => by
  have := hG.fresh _ _ h1 h2
  subst e; rw [hF] at this; cases this
 refine ⟨⟨hG.bf.1, fun i c hc => ?_⟩, ⟨hG.le.1, fun i c hc => ?_⟩, hG.env, fun d => (hG.obj d).mono (.refl _) (fun _ _ h => h) fun h1 i h2 => Heap.get_kill_ne _ (hne h1 h2), fun d i h1 h2 => ?_, hG.sep, hG.free⟩
 ·have : i ≠ n := by rintro rfl; rw [hB] at hc; cases hc
  rw [Heap.get_kill_ne _ this]; exact hG.bf.2 _ _ hc
 ·by_cases e : i = n
  ·subst e; rw [Heap.get_kill_self] at hc; cases hc
  ·rw [Heap.get_kill_ne _ e] at hc ⊢; exact hG.le.2 _ _ hc
 ·rw [Heap.get_kill_ne _ (hne h1 h2)]; exact hG.fresh _ _ h1 h2
theorem GRel.lpUpd {B1 F1 D0 : Heap} (h : GRel P B1 F1 D0 s env σ) {n : Nat} {b b0 : Blk} (hF : F1.get n = some b0) (hB : B1.get n = none) : GRel P B1 (F1.upd n b) D0 s env (σ.upd n b) := by
 obtain ⟨B, F, pl, tb, hB', hG⟩ := h
 have hF2 := hB'.f.2 _ _ hF
 have hB2 := hB'.x _ _ hF hB
 refine ⟨B, F.upd n b, pl, tb, ⟨hB'.b, ⟨hB'.f.1, fun i c hc => ?_⟩, fun i c h1 h2 => ?_, ⟨hB'.d.1, fun i h1 h2 => ?_⟩⟩, hG.lpUpd hF2 hB2⟩
 ·by_cases e : i = n
  ·subst e
   rw [Heap.get_upd_self _ _ (F1.lt hF)] at hc
   rw [Heap.get_upd_self _ _ (F.lt hF2)]; exact hc
  ·rw [Heap.get_upd_ne _ _ e] at hc ⊢; exact hB'.f.2 _ _ hc
 ·by_cases e : i = n
  ·subst e; exact hB2
  ·rw [Heap.get_upd_ne _ _ e] at h1; exact hB'.x _ _ h1 h2
 ·have hd := hB'.d.2 i h1 h2
  have : i ≠ n := by rintro rfl; rw [hG.le.2 _ _ hF2] at hd; cases hd
  rw [Heap.get_upd_ne _ _ this]; exact hd
theorem GRel.lpKill {B1 F1 D0 : Heap} (h : GRel P B1 F1 D0 s env σ) {n : Nat} {b0 : Blk} (hF : F1.get n = some b0) (hB : B1.get n = none) : GRel P B1 (F1.kill n) D0 s env (σ.kill n) := by
 obtain ⟨B, F, pl, tb, hB', hG⟩ := h
 have hF2 := hB'.f.2 _ _ hF
 have hB2 := hB'.x _ _ hF hB
 refine ⟨B, F.kill n, pl, tb, ⟨hB'.b, ⟨hB'.f.1, fun i c hc => ?_⟩, fun i c h1 h2 => ?_, ⟨hB'.d.1, fun i h1 h2 => ?_⟩⟩, hG.lpKill hF2 hB2⟩
 ·by_cases e : i = n
  ·subst e; rw [Heap.get_kill_self] at hc; cases hc
  ·rw [Heap.get_kill_ne _ e] at hc ⊢; exact hB'.f.2 _ _ hc
 ·by_cases e : i = n
  ·subst e; exact hB2
  ·rw [Heap.get_kill_ne _ e] at h1; exact hB'.x _ _ h1 h2
 ·have hd := hB'.d.2 i h1 h2
  by_cases e : i = n
  ·subst e; exact Heap.get_kill_self _ _
  ·rw [Heap.get_kill_ne _ e]; exact hd
theorem GRel.base {B0 F0 B1 F1 D0 : Heap} (h : GRel P B1 F1 D0 s env σ) (hb : B0.Le B1) (hf : F0.Le F1) (hx : ∀ i b, F0.get i = some b → B0.get i = none → B1.get i = none) : GRel P B0 F0 D0 s env σ := by
 obtain ⟨B, F, pl, tb, hB', hG⟩ := h
 exact ⟨B, F, pl, tb, ⟨hb.trans hB'.b, hf.trans hB'.f, fun i b h1 h2 => hB'.x i b (hf.2 _ _ h1) (hx i b h1 h2), hB'.d⟩, hG⟩
theorem slots_soundE (hG : Gam P B F pl tb s env σ) {mp : List (Nat × Option Nat)} : ∀ (st : List (Nat × SV)) {e : List SV}, gmatch.slots s mp st → SRs P B (mapP pl mp) noTb e env → SRs P B (mapP pl mp) noTb (st.foldl (fun e p => e.set p.1 p.2) e) env
 | [], e, _, h => h
 | (j, v) :: r, e, hs, h => by
  simp only [gmatch.slots] at hs
  simp only [List.foldl_cons]
  refine slots_soundE hG r hs.2 ?_
  have := h.set j (svEq_sound v _ _ hs.1 (hG.env.getD j poison))
  by_cases hj : j < env.length
  ·rwa [List.getD_eq_getElem?_getD, List.getElem?_eq_getElem hj, Option.getD_some, List.set_getElem_self] at this
  ·rw [List.set_eq_of_length_le (by rw [h.length]; omega)]; exact h
theorem any_relE {B : Heap} {pl : Nat → Value} {tb : Nat → Option Bool} : ∀ (env : Env), SRs P B pl tb (List.replicate (List.length env) .any) env
 | [] => by simp [SRs]
 | v :: env => by
  simp only [List.length_cons, List.replicate_succ, SRs]
  exact ⟨_, _, rfl, by simp [SR], any_relE env⟩
theorem gmatch_soundE {B0 F0 D0 : Heap} (hR : GRel P B0 F0 D0 s env σ) {st : List (Nat × SV)} {ow : List (Nat × Src × OB)} (h : gmatch s st ow) : GRel P B0 F0 D0 (gstate (List.length env) st ow) env σ := by
 obtain ⟨B, F, pl, tb, hB, hG⟩ := hR
 unfold gmatch at h
 split at h
 ·rename_i mp hmp
  obtain ⟨h1, h2⟩ := h
  have hinj := gmap_inj _ _ _ hmp (fun t t' a h => by cases h)
  have hmem := gobs_mem h2
  have hob : ∀ t, (oget (gstate (List.length env) st ow).own t).live = true → obEq s mp t (oget (gstate (List.length env) st ow).own t) := fun t hl => by
   rcases fold_oset (f := ow) [] t with ⟨p, h3, h4, h5⟩ | h3
   ·have := hmem p h3
    rw [h4, ← h5] at this; exact this
   ·simp only [gstate] at hl
    rw [h3] at hl; cases hl
  refine ⟨B, F, mapP pl mp, noTb, hB, hG.bf, hG.le, slots_soundE hG st h1 (any_relE env), fun t => ?_, fun t i hl hi => ?_, fun t t' i hne hl hl' hi hi' => ?_, fun _ _ => rfl⟩
  ·cases hl : (oget (gstate (List.length env) st ow).own t).live with
   | true => exact (obEq_sound hG (hob t hl)).1
   | false =>
    cases ho : oget (gstate (List.length env) st ow).own t with
    | dead => trivial
    | stk l vals =>
     rcases fold_oset (f := ow) [] t with ⟨p, h3, h4, h5⟩ | h3
     ·have := hmem p h3
      simp only [gstate] at ho
      rw [← h5, ho] at this
      have h6 := (obEq_sound hG this).1
      rw [h4] at h6; exact h6
     ·simp only [gstate] at ho; rw [h3] at ho; cases ho
    | _ => rw [ho] at hl; cases hl
  ·obtain ⟨a, _, h4, h5⟩ := (obEq_sound hG (hob t hl)).2 hl i hi
   exact hG.fresh a i h4 h5
  ·obtain ⟨a, e1, h4, h5⟩ := (obEq_sound hG (hob t hl)).2 hl i hi
   obtain ⟨a', e2, h4', h5'⟩ := (obEq_sound hG (hob t' hl')).2 hl' i hi'
   by_cases e : a = a'
   ·subst e; exact hne (hinj t t' a e1 e2)
   ·exact hG.sep a a' i e h4 h4' h5 h5'
 ·exact h.elim
theorem obind_ex {α : Type} {o : Option α} {f : α → Prop} (h : obind o f) : ∃ a, f a := by
 cases o with
 | none => exact h.elim
 | some a => exact ⟨a, h⟩
theorem vopsD_const {S : VSpecs} {Q : Prop} : ∀ {ops : List DOper} {env : Env} {hs : List Heap} {σ : Heap} {pend : List (Nat × (Heap → Prop))}, vopsD S ops env hs σ pend (fun _ _ => Q) → Q
 | [], _, _, _, _, h => h
 | o :: r, env, hs, σ, pend, h => by
  simp only [vopsD] at h
  obtain ⟨b, h⟩ := obind_ex h
  cases b with
  | true =>
   have h := h.1 rfl
   split at h
   ·obtain ⟨v, σ', _, _, h⟩ := h
    exact vopsD_const h
   ·split at h
    ·obtain ⟨p, _, h⟩ := obind_ex h
     exact vopsD_const h
    ·obtain ⟨p, h⟩ := obind_ex h
     exact vopsD_const h
  | false =>
   have h := h.2 rfl
   split at h
   ·exact vopsD_const h.2
   ·exact vopsD_const h
theorem galts_inv {C : Cx} {s : St} {st : List (Nat × SV)} {ow : List (Nat × Src × OB)} {Q : Prop} : ∀ (ls : List (List DOper)), galts C ls s st ow Q → (∀ l ∈ ls, gopsD C l s 1 0 [] [] fun s' => gmatchN s.env.length s' st ow) ∧ Q
 | [], h => ⟨fun l hl => (by cases hl), h⟩
 | l :: ls, h => by
  obtain ⟨h1, h2⟩ := h
  obtain ⟨h3, h4⟩ := galts_inv ls h2
  exact ⟨fun l' hl' => (List.mem_cons.1 hl').elim (fun e => e ▸ h1) (h3 l'), h4⟩
theorem gmatchN_sound {B0 F0 D0 : Heap} {s : St} {env : Env} {σ : Heap} {n : Nat} (hR : GRel P B0 F0 D0 s env σ) {st : List (Nat × SV)} {ow : List (Nat × Src × OB)} (h : gmatchN n s st ow) : GRel P B0 F0 D0 (gstate n st ow) env σ := by
 unfold gmatchN at h
 cases hb : Nat.beq s.env.length n with
 | false => rw [hb] at h; exact h.elim
 | true =>
  rw [hb] at h
  have hl : env.length = n := by
   rw [← Nat.eq_of_beq_eq_true hb]
   obtain ⟨_, _, _, _, _, hG⟩ := hR
   exact hG.env.length.symm
  rw [← hl]
  exact gmatch_soundE hR h
theorem gsegs_sound {C : Cx} (hcs : COk P C) {B0 F0 D0 : Heap} : ∀ (segs : List DSeg) {s : St} {env : Env} {σ : Heap}, GRel P B0 F0 D0 s env σ → ∀ {K : St → Prop}, gsegs C segs s K → ∀ {R : Env → Heap → Prop}, (∀ s' env' σ', K s' → GRel P B0 F0 D0 s' env' σ' → R env' σ') → vsegs (semSpecs P) segs env σ R
 | [], s, env, σ, hR, K, h, R, hK => hK s env σ h hR
 | .one o :: r, s, env, σ, hR, K, h, R, hK => by
  refine gops_sound hcs [o] hR (K := fun s' => gsegs C r s' K) h fun s' env' σ' h1 h2 => ?_
  exact gsegs_sound hcs r h2 h1 hK
 | .alts [l] :: r, s, env, σ, hR, K, h, R, hK => by
  simp only [gsegs] at h
  cases hd : dquiet l with
  | false =>
   rw [hd] at h
   simp only [_root_.cond_false] at h
   cases hk : l.all (fun o => o.kind == o.op.kind) with
   | false => rw [hk] at h; exact h.elim
   | true =>
    rw [hk] at h
    simp only [_root_.cond_true] at h
    intro ops ho
    obtain rfl := List.mem_singleton.1 ho
    obtain ⟨B, F, pl, tb, hB, hG⟩ := hR
    have one : ∀ (j : Nat) (τ : Heap), ([σ] : List Heap)[j]? = some τ → τ = σ := fun j τ ht => by
     cases j with
     | zero => simpa using ht.symm
     | succ j => simp at ht
    exact gopsD_sound hcs ops (fun o ho => by simpa using List.all_eq_true.1 hk o ho) hB hG (hl := 1) (chg := 0) (A := []) (Rd := []) ⟨rfl, fun j τ _ ht => one j τ ht, (fun c hc => absurd hc (by simp)), fun j τ q i ht _ _ _ => by rw [one j τ ht]⟩ (pend := []) (pd := []) (fun c hc => absurd hc (by simp)) (fun j τ ht _ => by rw [one j τ ht]; exact hG.leB) (Nat.zero_le _) (Nat.succ_pos _) h fun s' env' σ' h1 h2 => ⟨env', σ', .refl _ _ _, gsegs_sound hcs r h2 h1 hK⟩
  | true =>
   rw [hd] at h
   refine seg_pureG (l := l) hd ?_
   exact gops_sound hcs _ hR h fun s' env' σ' h1 h2 => gsegs_sound hcs r h2 h1 hK
 | .alts [] :: r, s, env, σ, hR, K, h, R, hK => h.elim
 | .alts (l :: l2 :: ls) :: r, s, env, σ, hR, K, h, R, hK => by
  simp only [gsegs] at h
  cases hk : (l :: l2 :: ls).all (fun l => l.all fun o => o.kind == o.op.kind) with
  | false => rw [hk] at h; exact h.elim
  | true =>
   rw [hk] at h
   simp only [_root_.cond_true] at h
   obtain ⟨B, F, pl, tb, hB, hG⟩ := hR
   have one : ∀ (j : Nat) (τ : Heap), ([σ] : List Heap)[j]? = some τ → τ = σ := fun j τ ht => by
    cases j with
    | zero => simpa using ht.symm
    | succ j => simp at ht
   have run : ∀ l' ∈ l :: l2 :: ls, ∀ {K' : St → Prop}, gopsD C l' s 1 0 [] [] K' → ∀ {R' : Env → Heap → Prop}, (∀ s' env' σ', K' s' → GRel P B0 F0 D0 s' env' σ' → R' env' σ') → vopsD (semSpecs P) l' env [σ] σ [] R' := fun l' hl' K' h' R' hK' =>
    gopsD_sound hcs l' (fun o ho => by simpa using List.all_eq_true.1 (List.all_eq_true.1 hk l' hl') o ho) hB hG (hl := 1) (chg := 0) (A := []) (Rd := []) ⟨rfl, fun j τ _ ht => one j τ ht, (fun c hc => absurd hc (by simp)), fun j τ q i ht _ _ _ => by rw [one j τ ht]⟩ (pend := []) (pd := []) (fun c hc => absurd hc (by simp)) (fun j τ ht _ => by rw [one j τ ht]; exact hG.leB) (Nat.zero_le _) (Nat.succ_pos _) h' hK'
   obtain ⟨s0, h0, h1⟩ := vopsD_const (run l List.mem_cons_self h (R' := fun _ _ => ∃ s0 : St, _) fun s' _ _ h' _ => ⟨s', h'⟩)
   obtain ⟨h2, h3⟩ := galts_inv _ h1
   intro ops ho
   rcases List.mem_cons.1 ho with rfl | ho'
   ·exact run ops ho h fun s' env' σ' h' hR' => ⟨env', σ', .refl _ _ _, by
     obtain ⟨k1, k2⟩ := h'
     exact gsegs_sound hcs r (gmatchN_sound hR' k1) (galts_inv _ k2).2 hK⟩
   ·exact run ops ho (h2 ops ho') fun s' env' σ' h' hR' => ⟨env', σ', .refl _ _ _, gsegs_sound hcs r (gmatchN_sound hR' h') h3 hK⟩
theorem zipG_keys : ∀ (l : List Nat) (vs : List SV), (zipG l vs).map (·.1) = l
 | [], _ => rfl
 | j :: js, [] => by simp [zipG, zipG_keys js []]
 | j :: js, v :: vs => by simp [zipG, zipG_keys js vs]
theorem gsetPs_sound {B : Heap} {pl : Nat → Value} {tb : Nat → Option Bool} : ∀ {ps : List Nat} {xs : List SV} {us : List Value} {e : List SV} {env : Env}, SRs P B pl tb xs us → SRs P B pl tb e env → SRs P B pl tb (gsetPs e ps xs) (setPs env ps us)
 | [], xs, us, e, env, _, h => by simpa [gsetPs, setPs] using h
 | p :: ps, [], us, e, env, hx, h => by
  simp only [SRs] at hx; subst hx
  simpa [gsetPs, setPs] using h
 | p :: ps, x :: xs, us, e, env, hx, h => by
  simp only [SRs] at hx
  obtain ⟨u, us', rfl, h1, h2⟩ := hx
  simp only [gsetPs, setPs]
  exact gsetPs_sound h2 (h.set p h1)
def InLpF (F0 : Heap) : Option Nat → Prop
 | none => True
 | some i => ∃ env r st pend, F0.get i = some (.obj (.lp env r st pend) true)
theorem gwp_sound {C : Cx} (hcs : COk P C) {L : List (Nat × LoopAnn)} {D0 : Heap} (vc : VCode) : ∀ {B0 F0 : Heap} (n : Nat) (K : Exit → St → Prop) (s : St) (env : Env) (σ : Heap) (ro : Option Nat) (Q : Exit → Env → Heap → Prop), InLpF F0 ro → GRel P B0 F0 D0 s env σ → gwp C L vc n K s → (∀ e s' env' σ', K e s' → GRel P B0 F0 D0 s' env' σ' → Q e env' σ') → vwp (semSpecs P) vc ro Q env σ := by
 induction vc with
 | skip => intro B0 F0 n K s env σ ro Q hro hR h hK; exact hK _ _ _ _ h hR
 | region ops => intro B0 F0 n K s env σ ro Q hro hR h hK; exact gops_sound hcs ops hR h fun s' env' σ' h1 h2 => hK _ _ _ _ h1 h2
 | regionD segs => intro B0 F0 n K s env σ ro Q hro hR h hK; exact gsegs_sound hcs segs hR h fun s' env' σ' h1 h2 => hK _ _ _ _ h1 h2
 | rangeF g ps a b iha ihb =>
  intro B0 F0 n K s env σ ro Q hro hR h hK
  simp only [gwp] at h
  split at h
  ·rename_i f caps hg
   split at h
   ·rename_i it s1 caps' A hit hfrz hA
    split at h
    ·rename_i c m ar xs hc
     cases hps : Nat.beq ps.length ar with
     | false => rw [hps] at h; exact h.elim
     | true =>
     rw [hps] at h
     simp only [_root_.cond_true] at h
     obtain ⟨hcc, p, d0, hm0, I, hI0, hIs, hIe⟩ := h
     have hps := Nat.eq_of_beq_eq_true hps
     have hlen : s.env.length = env.length := by obtain ⟨B, F, pl, tb, _, hG⟩ := hR; exact hG.env.length
     rw [hlen] at hIs hIe
     have hR0 := hR
     obtain ⟨B, F, pl, tb, hB, hG⟩ := hR
     have hgv := hG.evs Gds.nil g
     rw [hg] at hgv
     simp only [SR] at hgv
     obtain ⟨x, y, hge, hx, hy⟩ := hgv
     simp only [SRs] at hx
     subst hx
     obtain ⟨B1, F1, hB1, hG1, hcv, he1⟩ := gfrz_sound hG hy hfrz
     obtain ⟨hent, hitk⟩ := hcs.it f it hit
     obtain ⟨harl, hits⟩ := hitk B1 caps' y c m ar xs hcv hc hcc
     have hR1 : GRel P B1 F1 D0 (gstate (List.length env) (A.st p d0) (A.own p d0)) env σ := gmatch_soundE ⟨B1, F1, pl, tb, ⟨.refl _, .refl _, fun _ _ _ h => h, (hB.trans hB1).d⟩, hG1⟩ hm0
     have hBn : B1.get σ.n = none := B1.wf _ hG1.leB.1
     have hFn : F1.get σ.n = none := F1.wf _ hG1.le.1
     show vwp (semSpecs P) (.rangeF g ps a b) ro Q env σ
     simp only [vwp, vrange, hge]
     have hitS : (semSpecs P).it f = some fun i Y args σ K => OkYield P i Y → VCallsTo P f args σ K := by
      simp only [semSpecs]; rw [if_pos hent]
     rw [hitS]
     refine ⟨?_, fun r hY => ?_⟩
     ·cases ro with
      | none => trivial
      | some i =>
       obtain ⟨e1, r1, st1, pe1, hi⟩ := hro
       exact ⟨e1, r1, st1, pe1, hG.le.2 _ _ (hB.f.2 _ _ hi)⟩
     ·let rdy : Blk := .obj (.lp env r .ready none) true
      let bsy : Blk := .obj (.lp env r .busy none) true
      have hF1le : F1.Le (σ.push rdy) := hG1.le.push rdy
      let Fr := F1.ins (σ.push rdy) σ.n hF1le.1
      have hFr : Fr.get σ.n = some rdy := by
       show (F1.ins _ _ _).get σ.n = _
       rw [Heap.ins_self, Heap.get_push_self]
      have hFrn : Fr.n = σ.n + 1 := rfl
      have hF1r : F1.Le Fr := hF1le.ins σ.n
      let J : Nat → Heap → Prop := fun k τ => ∃ d, I k d ∧ GRel P B1 Fr D0 (gstate (List.length env) (A.st p d) (A.own p d)) env τ
      let E : Heap → Prop := fun τ => ∃ cd e, τ.get σ.n = some (.obj (.lp env r .done (some cd)) true) ∧ ((cd = .ret ∧ e = Exit.ret) ∨ ∃ id, cd = .exit id ∧ e = Exit.exit id) ∧ Q e env (τ.kill σ.n)
      have back : ∀ {s' : St} {τ : Heap}, GRel P B1 (Fr.upd σ.n bsy) D0 s' env τ → ∀ b, GRel P B1 ((Fr.upd σ.n bsy).upd σ.n b) D0 s' env (τ.upd σ.n b) := fun h b =>
       h.lpUpd (b0 := bsy) (Heap.get_upd_self _ _ (by rw [hFrn]; omega)) hBn
      have kill0 : ∀ {Fx : Heap} {b0 : Blk} {s' : St} {τ : Heap}, Fx.get σ.n = some b0 → (∀ i, i ≠ σ.n → Fx.get i = F1.get i) → Fx.n = σ.n + 1 → GRel P B1 Fx D0 s' env τ → GRel P B0 F0 D0 s' env (τ.kill σ.n) := fun {Fx b0 s' τ} h1 h2 h3 h4 => by
       refine (h4.lpKill h1 hBn).base (hB.b.trans hB1.b) ⟨?_, fun i b hb => ?_⟩ fun i b k1 k2 => (hB.trans hB1).x i b k1 k2
       ·show F0.n ≤ Fx.n
        rw [h3]
        have := (hB.trans hB1).f.1
        have := hG1.le.1
        omega
       ·have hb1 := (hB.trans hB1).f.2 _ _ hb
        have e : i ≠ σ.n := by rintro rfl; rw [hFn] at hb1; cases hb1
        rw [Heap.get_kill_ne _ e, h2 i e]; exact hb1
      have Frne : ∀ i, i ≠ σ.n → Fr.get i = F1.get i := fun i e => Heap.ins_ne _ _ _ e
      have hrun := hits σ.n _ J E (σ.push rdy) hY (fun k τ ⟨d, _, hd⟩ => ?_) (fun k us τ hk ⟨d, hId, hd⟩ hus => ?_) ⟨d0, hI0, ?_⟩
      ·refine VCallsTo.mono (R := fun _ τ => J m τ ∨ E τ) (by simpa using hrun) fun v τ hjt => ?_
       unfold endR
       rcases hjt with ⟨d, hId, hd⟩ | ⟨cd, e, h1, h2, h3⟩
       ·have hrd : τ.get σ.n = some rdy := by
         obtain ⟨B', F', pl', tb', q1, q2⟩ := hd
         exact q2.le.2 _ _ (q1.f.2 _ _ hFr)
        rw [hrd]
        exact ⟨(by intro h; cases h), hK _ _ _ _ (hIe d hId) (kill0 hFr Frne hFrn hd)⟩
       ·rw [h1]
        refine ⟨(by intro h; cases h), ?_⟩
        rcases h2 with ⟨rfl, rfl⟩ | ⟨id, rfl, rfl⟩ <;> exact h3
      ·obtain ⟨B', F', pl', tb', q1, q2⟩ := hd
       exact q1.b.trans q2.leB
      ·
       have hrd : τ.get σ.n = some rdy := by
        obtain ⟨B', F', pl', tb', q1, q2⟩ := hd
        exact q2.le.2 _ _ (q1.f.2 _ _ hFr)
       refine ⟨hrd, by rw [hps, ← (harl k).1, hus.length], ?_⟩
       have hF := hIs k d hk hId env
       have hst : GRel P B1 Fr D0 ⟨gsetPs (gstk (2000000 + n) env (gstate (List.length env) (A.st p d) (A.own p d))).env ps (xs k), (gstk (2000000 + n) env (gstate (List.length env) (A.st p d) (A.own p d))).own, 0⟩ (setPs env ps us) τ := by
        obtain ⟨B', F', pl', tb', q1, q2⟩ := hd
        have q3 : Gam P B' F' (updP pl' (2000000 + n) poison) tb' (gstk (2000000 + n) env (gstate (List.length env) (A.st p d) (A.own p d))) env τ := by
         refine q2.make (2000000 + n) _ poison q2.le (fun _ _ _ _ _ => rfl) ?_ (fun i hl _ => by cases hl)
         exact SRs.upd (.refl _) (fun _ _ h => h) (fun j hj => by simp [updP, hj]) _ _ q2.env
        refine ⟨B', F', updP pl' (2000000 + n) poison, tb', q1, ⟨q3.bf, q3.le, gsetPs_sound ?_ q3.env, q3.obj, q3.fresh, q3.sep, ?_⟩⟩
        ·exact SRs.mono q1.b (fun _ _ h => h) _ _ (pures_sound _ _ (harl k).2 hus)
        ·exact q3.free
       refine iha (B0 := B1) (F0 := Fr) n _ _ _ τ (some σ.n) _ ⟨env, r, _, _, hFr⟩ hst hF fun e s3 env3 σ3 h7 h8 => ?_
       cases e with
       | normal =>
        have hr3 : σ3.get σ.n = some rdy := by
         obtain ⟨B', F', pl', tb', q1, q2⟩ := h8
         exact q2.le.2 _ _ (q1.f.2 _ _ hFr)
        refine ⟨hr3, ?_⟩
        have h9 := h8.lpUpd (b := bsy) hFr hBn
        have hFb : (Fr.upd σ.n bsy).get σ.n = some bsy := Heap.get_upd_self _ _ (by rw [hFrn]; omega)
        refine ihb (B0 := B1) (F0 := Fr.upd σ.n bsy) n _ _ _ _ (some σ.n) _ ⟨env, r, _, _, hFb⟩ h9 h7 fun e s4 env4 σ4 h10 h11 => ?_
        have hb4 : σ4.get σ.n = some bsy := by
         obtain ⟨B', F', pl', tb', q1, q2⟩ := h11
         exact q2.le.2 _ _ (q1.f.2 _ _ hFb)
        have hn4 : σ.n < σ4.n := σ4.lt hb4
        unfold grangeK at h10
        split at h10
        ·rename_i l vs hstk
         obtain ⟨rfl, h10⟩ := h10
         have hfr : GRel P B1 (Fr.upd σ.n bsy) D0 ⟨l, s4.own, s4.nx⟩ vs σ4 := by
          obtain ⟨B', F', pl', tb', q1, q2⟩ := h11
          have := q2.obj (2000000 + n)
          rw [hstk] at this
          exact ⟨B', F', pl', tb', q1, q2.bf, q2.le, this, q2.obj, q2.fresh, q2.sep, q2.free⟩
         have fupd : ∀ b, ((Fr.upd σ.n bsy).upd σ.n b).get σ.n = some b := fun b => Heap.get_upd_self _ _ (by show σ.n < Fr.n; rw [hFrn]; omega)
         have fne : ∀ b i, i ≠ σ.n → ((Fr.upd σ.n bsy).upd σ.n b).get i = F1.get i := fun b i e => by rw [Heap.get_upd_ne _ _ e, Heap.get_upd_ne _ _ e, Frne i e]
         refine ⟨hb4, ?_⟩
         cases e with
         | normal =>
          obtain ⟨d', h12, h13⟩ := h10
          refine .inl ⟨rfl, d', h13, ?_⟩
          have := (back (gmatch_soundE hfr h12) rdy).base (B0 := B1) (F0 := Fr) (.refl _) ⟨Nat.le_refl _, fun i b hb => ?_⟩ fun i b k1 k2 => k2
          ·exact this
          ·by_cases e : i = σ.n
           ·subst e; rw [hFr] at hb; rw [fupd]; exact hb
           ·rw [fne _ _ e, ← Frne i e]; exact hb
         | ret =>
          refine .inr ⟨rfl, _, _, Heap.get_upd_self _ _ hn4, .inl ⟨rfl, rfl⟩, hK _ _ _ _ h10 (kill0 (fupd _) (fne _) (by show Fr.n = _; exact hFrn) (back hfr _))⟩
         | exit id =>
          refine .inr ⟨rfl, _, _, Heap.get_upd_self _ _ hn4, .inr ⟨id, rfl, rfl⟩, hK _ _ _ _ h10 (kill0 (fupd _) (fne _) (by show Fr.n = _; exact hFrn) (back hfr _))⟩
         | _ => exact h10.elim
        ·exact h10.elim
       | _ => exact h7.elim
      ·
       obtain ⟨B', F', pl', tb', q1, q2⟩ := hR1
       have hle : F'.Le (σ.push rdy) := q2.le.push rdy
       have hFn' : F'.get σ.n = none := F'.wf _ q2.le.1
       have hob : ∀ d i, (oget (gstate (List.length env) (A.st p d0) (A.own p d0)).own d).live = true → Oid (pl' d) i → i < σ.n := fun d i h1 h2 => (q2.obj d).id_lt h1 h2
       refine ⟨B', F'.ins (σ.push rdy) σ.n hle.1, pl', tb', ⟨q1.b, Heap.ins_ins q1.f _ _ _, fun i b k1 k2 => ?_, q1.d.trans (Dead.push _ _)⟩, ⟨q2.bf.trans (hle.ins _), hle.ins_le _, q2.env, fun d => (q2.obj d).mono (.refl _) (fun _ _ h => h) fun h1 i h2 => Heap.get_push_lt _ _ (hob d i h1 h2), fun d i h1 h2 => ?_, q2.sep, q2.free⟩⟩
       ·by_cases e : i = σ.n
        ·subst e; exact B'.wf _ q2.leB.1
        ·rw [Frne i e] at k1; exact q1.x i b k1 k2
       ·rw [Heap.ins_ne _ _ _ (Nat.ne_of_lt (hob d i h1 h2))]; exact q2.fresh d i h1 h2
    ·exact h.elim
   ·exact h.elim
  ·exact h.elim
 | bad => intro B0 F0 n K s env σ ro Q hro hR h hK; exact h.elim
 | ret => intro B0 F0 n K s env σ ro Q hro hR h hK; exact hK _ _ _ _ h hR
 | exit id => intro B0 F0 n K s env σ ro Q hro hR h hK; exact hK _ _ _ _ h hR
 | seq a b iha ihb =>
  intro B0 F0 n K s env σ ro Q hro hR h hK
  refine iha n _ s env σ ro _ hro hR h fun e s' env' σ' h1 h2 => ?_
  cases e with
  | normal => exact ihb n K s' env' σ' ro Q hro h2 h1 hK
  | _ => exact hK _ _ _ _ h1 h2
 | cond c a b iha ihb =>
  intro B0 F0 n K s env σ ro Q hro hR h hK
  simp only [gwp] at h
  split at h
  ·rename_i t ht
   obtain ⟨B, F, pl, tb, hB, hG⟩ := hR
   have := asB_inv ht (hG.evs Gds.nil c)
   simp only [vwp, this, vcond]
   exact ⟨fun e => iha n K s env σ ro Q hro ⟨B, F, pl, tb, hB, hG⟩ (h.1 e) hK, fun e => ihb n K s env σ ro Q hro ⟨B, F, pl, tb, hB, hG⟩ (h.2 e) hK⟩
  ·exact h.elim
 | block id b ih =>
  intro B0 F0 n K s env σ ro Q hro hR h hK
  refine ih id _ s env σ ro _ hro hR h fun e s' env' σ' h1 h2 => ?_
  cases e with
  | exit id' =>
   simp only [gblockK] at h1
   simp only [blockK]
   split
   ·rename_i e; rw [if_pos e] at h1; exact hK _ _ _ _ h1 h2
   ·rename_i e; rw [if_neg e] at h1; exact hK _ _ _ _ h1 h2
  | _ => exact hK _ _ _ _ h1 h2
 | loop b ih =>
  intro B0 F0 n K s env σ ro Q hro hR h hK
  simp only [gwp] at h
  split at h
  ·rename_i A hA
   obtain ⟨p, d0, h1, I, μ, h2, h3⟩ := h
   have hlen : s.env.length = env.length := by obtain ⟨B, F, pl, tb, _, hG⟩ := hR; exact hG.env.length
   have hk : ∀ d, (A.st p d).map (·.1) = A.sl := fun d => zipG_keys _ _
   refine ⟨A.sl, fun m vs σ' => ∃ d, I d ∧ μ d = m ∧ GRel P B0 F0 D0 (gstate s.env.length (A.st p d) (A.own p d)) (spreadE A.sl vs (List.replicate env.length poison)) σ', μ d0, ⟨d0, h2, rfl, ?_⟩, fun m vs σ' ⟨d, h4, h5, h6⟩ => ?_⟩
   ·have := gmatch_sound hR h1 s.env.length
    rw [hk d0, hlen] at this
    rw [hlen]; exact this
   ·refine ih n _ _ _ σ' ro _ hro h6 (h3 d h4) fun e s' env' σ'' h7 h8 => ?_
    cases e with
    | normal =>
     obtain ⟨d', h9, h10, h11⟩ := h7
     refine ⟨μ d', by omega, d', h10, rfl, ?_⟩
     have := gmatch_sound h8 h9 s.env.length
     rw [hk d', hlen] at this
     rw [hlen]; exact this
    | _ => exact hK _ _ _ _ h7 h8
  ·exact h.elim
end
end Go.V
namespace Go.V
open Go
def gres1 (s : St) : VResult → Option SV
 | .tmp t => some (s.env.getD t .any)
 | .cell a agg size => bif Nat.blt 0 size then gload s.own agg size (s.env.getD a .any) else none
def gresults (s : St) (rs : List VResult) : Option SV :=
 match rs with
 | [r] => gres1 s r
 | rs => (rs.mapM (gres1 s)).map .tup
def radd (mp : List (Nat × Option Nat)) (j : Nat) (a : Option Nat) : Option (List (Nat × Option Nat)) :=
 if (alook mp j).isSome then none else match a with
 | some x => if mp.any fun p => p.2 == some x then none else some (mp ++ [(j, a)])
 | none => some (mp ++ [(j, a)])
mutual
def rmap : SV → SV → List (Nat × Option Nat) → Option (List (Nat × Option Nat))
 | .lst j, v, mp => match v with | .lst a => radd mp j (some a) | .nilS => radd mp j none | _ => none
 | .map j, v, mp => match v with | .map a => radd mp j (some a) | _ => none
 | .dd j w, v, mp => match w with
  | .out => (match v with
   | .dd a w' => (match w' with | .out => radd mp j (some a) | _ => none)
   | .nilS => radd mp j none
   | _ => none)
  | _ => none
 | .box j _, v, mp => match v with | .box a _ => radd mp j (some a) | _ => none
 | .agg l, v, mp => match v with | .agg l' => rmaps l l' mp | _ => none
 | .tup l, v, mp => match v with | .tup l' => rmaps l l' mp | _ => none
 | .any, _, mp => some mp
 | .val _ _, _, mp => some mp
 | .nilS, _, mp => some mp
 | .nilP, _, mp => some mp
 | .nilM, _, mp => some mp
 | .nilF, _, mp => some mp
 | .sub _ _ _ _, _, _ | .elp _ _ _ _, _, _ | .grd _ _, _, _ | .cp _ _, _, _ | .fn _ _ _, _, _ | .rop _ _ _ _, _, _ | .pf _ _ _ _, _, _ | .bid _ _, _, _ => none
def rmaps : List SV → List SV → List (Nat × Option Nat) → Option (List (Nat × Option Nat))
 | [], _, mp => some mp
 | s :: ss, l, mp => match l with
  | v :: vs => match rmap s v mp with | some mp => rmaps ss vs mp | none => none
  | [] => none
end
def gobsR (s : St) (mp : List (Nat × Option Nat)) : Nat → List OB → Prop
 | _, [] => True
 | j, b :: r => obEq s mp j b ∧ gobsR s mp (j + 1) r
def gend (rs : List VResult) (v : SV) (bs : List OB) : Exit → St → Prop := fun e s =>
 let fin := match gresults s rs with
  | some r => (match rmap v r [] with
   | some mp => svEq mp v r ∧ gobsR s mp 0 bs
   | none => False)
  | none => False
 match e with
 | .normal => fin
 | .ret => fin
 | _ => False
section
variable {P : Program} {B F : Heap} {pl : Nat → Value} {tb : Nat → Option Bool} {s : St} {env : Env} {σ : Heap}
theorem gres1_sound (hG : Gam P B F pl tb s env σ) {r : VResult} {v : SV} (h : gres1 s r = some v) : ∃ u, vresult env σ r = some u ∧ SR P B pl tb v u := by
 cases r with
 | tmp t => obtain rfl := Option.some.inj h; exact ⟨_, rfl, hG.env.getD t undef⟩
 | cell a agg size =>
  simp only [gres1] at h
  cases hb : Nat.blt 0 size with
  | false => rw [hb] at h; cases h
  | true =>
   rw [hb] at h
   obtain ⟨i, o, c, e, wr, t, u, h1, h2, h3, h4⟩ := gload_sound hG.leB hG.obj (by simpa [Nat.blt_eq] using hb) h (hG.env.getD a undef)
   refine ⟨u, ?_, h4⟩
   simp only [vresult, vact, evalO, h1, h2, h3]; rfl
theorem gresults_sound (hG : Gam P B F pl tb s env σ) {rs : List VResult} {v : SV} (h : gresults s rs = some v) : ∃ u, vresults env σ rs = some u ∧ SR P B pl tb v u := by
 have all : ∀ (rs : List VResult) (l : List SV), rs.mapM (gres1 s) = some l → ∃ us, rs.mapM (vresult env σ) = some us ∧ SRs P B pl tb l us := by
  intro rs
  induction rs with
  | nil => intro l h; simp at h; subst h; exact ⟨[], rfl, rfl⟩
  | cons r rs ih =>
   intro l h
   rw [List.mapM_cons] at h
   cases h1 : gres1 s r with
   | none => simp [h1] at h
   | some a =>
    cases h2 : rs.mapM (gres1 s) with
    | none => simp [h1, h2] at h
    | some l' =>
     simp [h1, h2] at h
     subst h
     obtain ⟨u, h3, h4⟩ := gres1_sound hG h1
     obtain ⟨us, h5, h6⟩ := ih l' h2
     exact ⟨u :: us, by rw [List.mapM_cons]; simp [h3, h5], by simp only [SRs]; exact ⟨u, us, rfl, h4, h6⟩⟩
 have tup : (rs.mapM (gres1 s)).map SV.tup = some v → ∃ u, (rs.mapM (vresult env σ)).map (fun vs => Value.tuple vs.toArray) = some u ∧ SR P B pl tb v u := fun h => by
  simp only [Option.map_eq_some_iff] at h
  obtain ⟨l, h1, rfl⟩ := h
  obtain ⟨us, h2, h3⟩ := all rs l h1
  exact ⟨.tuple us.toArray, by rw [h2]; rfl, by simp only [SR]; exact ⟨us, rfl, h3⟩⟩
 match rs, h, tup with
 | [r], h, _ => exact gres1_sound hG h
 | [], h, tup => exact tup h
 | _ :: _ :: _, h, tup => exact tup h
theorem radd_inj {mp mp' : List (Nat × Option Nat)} {j : Nat} {a : Option Nat} (h : radd mp j a = some mp') (hi : Inj mp) : Inj mp' := by
 unfold radd at h
 split at h
 ·cases h
 ·split at h
  ·rename_i x
   split at h
   ·cases h
   ·rename_i hc
    obtain rfl := Option.some.inj h
    have hfr : ∀ d, alook mp d ≠ some (some x) := fun d hd => by
     obtain ⟨p, h1, h2, h3⟩ := alook_mem hd
     exact hc (List.any_eq_true.2 ⟨p, h1, by rw [h3]; simp⟩)
    intro t1 t2 a' h1 h2
    rw [alook_append] at h1 h2
    split at h1
    ·rename_i y1 e1
     split at h2
     ·rename_i y2 e2
      obtain rfl := Option.some.inj h1
      obtain rfl := Option.some.inj h2
      exact hi t1 t2 a' e1 e2
     ·split at h2
      ·obtain rfl := Option.some.inj (Option.some.inj h2)
       obtain rfl := Option.some.inj h1
       exact absurd e1 (hfr t1)
      ·cases h2
    ·split at h1
     ·obtain rfl := Option.some.inj (Option.some.inj h1)
      split at h2
      ·rename_i y2 e2
       obtain rfl := Option.some.inj h2
       exact absurd e2 (hfr t2)
      ·split at h2
       ·omega
       ·cases h2
     ·cases h1
  ·obtain rfl := Option.some.inj h
   intro t1 t2 a' h1 h2
   rw [alook_append] at h1 h2
   split at h1
   ·rename_i y1 e1
    split at h2
    ·rename_i y2 e2
     obtain rfl := Option.some.inj h1
     obtain rfl := Option.some.inj h2
     exact hi t1 t2 a' e1 e2
    ·split at h2 <;> cases h2
   ·split at h1 <;> cases h1
mutual
theorem rmap_inj : ∀ (v r : SV) (mp mp' : List (Nat × Option Nat)), rmap v r mp = some mp' → Inj mp → Inj mp'
 | .lst j, r, mp, mp', h, hi => by
  simp only [rmap] at h
  split at h
  ·exact radd_inj h hi
  ·exact radd_inj h hi
  ·cases h
 | .map j, r, mp, mp', h, hi => by
  simp only [rmap] at h
  split at h
  ·exact radd_inj h hi
  ·cases h
 | .dd j w, r, mp, mp', h, hi => by
  simp only [rmap] at h
  split at h
  ·split at h
   ·split at h
    ·exact radd_inj h hi
    ·cases h
   ·exact radd_inj h hi
   ·cases h
  ·cases h
 | .box j _, r, mp, mp', h, hi => by
  simp only [rmap] at h
  split at h
  ·exact radd_inj h hi
  ·cases h
 | .agg l, r, mp, mp', h, hi => by
  simp only [rmap] at h
  split at h
  ·exact rmaps_inj l _ mp mp' h hi
  ·cases h
 | .tup l, r, mp, mp', h, hi => by
  simp only [rmap] at h
  split at h
  ·exact rmaps_inj l _ mp mp' h hi
  ·cases h
 | .any, r, mp, mp', h, hi | .val _ _, r, mp, mp', h, hi | .nilS, r, mp, mp', h, hi | .nilP, r, mp, mp', h, hi | .nilM, r, mp, mp', h, hi | .nilF, r, mp, mp', h, hi => by
  simp only [rmap] at h; obtain rfl := Option.some.inj h; exact hi
 | .sub _ _ _ _, r, mp, mp', h, hi | .elp _ _ _ _, r, mp, mp', h, hi | .grd _ _, r, mp, mp', h, hi | .cp _ _, r, mp, mp', h, hi | .fn _ _ _, r, mp, mp', h, hi | .rop _ _ _ _, r, mp, mp', h, hi | .pf _ _ _ _, r, mp, mp', h, hi | .bid _ _, r, mp, mp', h, hi => by cases h
theorem rmaps_inj : ∀ (v r : List SV) (mp mp' : List (Nat × Option Nat)), rmaps v r mp = some mp' → Inj mp → Inj mp'
 | [], r, mp, mp', h, hi => by simp only [rmaps] at h; obtain rfl := Option.some.inj h; exact hi
 | s :: ss, [], mp, mp', h, hi => by cases h
 | s :: ss, r :: rs, mp, mp', h, hi => by
  simp only [rmaps] at h
  split at h
  ·rename_i mp1 h1
   exact rmaps_inj ss rs mp1 mp' h (rmap_inj s r mp mp1 h1 hi)
  ·cases h
end
theorem gobsR_get {mp : List (Nat × Option Nat)} : ∀ (bs : List OB) (n : Nat), gobsR s mp n bs → ∀ j b, bs[j]? = some b → obEq s mp (n + j) b
 | [], n, _, j, b, hj => by simp at hj
 | b0 :: r, n, h, j, b, hj => by
  obtain ⟨h1, h2⟩ := h
  cases j with
  | zero => simp at hj; subst hj; exact h1
  | succ j =>
   have := gobsR_get r (n + 1) h2 j b (by simpa using hj)
   rwa [Nat.add_assoc, Nat.add_comm 1 j] at this
mutual
theorem ren_self {n : Nat} {π : Nat → Nat} : ∀ (v : SV) (u : Value), v.ret 0 = true → SR P B pl tb v u → Ren n π u u
 | .val k x, u, h, hs => by
  simp only [SR] at hs
  cases k with
  | i ik => simp only [KC] at hs; obtain rfl := (List.cons.inj hs).1; exact .plain _ rfl
  | bo => simp only [KC] at hs; obtain rfl := (List.cons.inj hs).1; exact .plain _ rfl
  | st => simp only [KC] at hs; obtain rfl := (List.cons.inj hs).1; exact .plain _ rfl
  | list k => cases h
  | pair a b =>
   have h1 := KC.length hs
   have h2 := a.size_pos
   have h3 := b.size_pos
   simp only [Kind.size, List.length_singleton] at h1
   omega
 | .nilS, u, _, hs | .nilP, u, _, hs | .nilM, u, _, hs | .nilF, u, _, hs => by simp only [SR] at hs; subst hs; exact .plain _ rfl
 | .lst j, u, h, _ | .box j _, u, h, _ | .map j, u, h, _ => by simp [SV.ret, Nat.blt_eq] at h
 | .dd j w, u, h, _ => by cases w <;> simp [SV.ret, Nat.blt_eq] at h
 | .agg l, u, h, hs => by
  simp only [SR] at hs
  obtain ⟨cs, rfl, h2⟩ := hs
  have := rens_self (n := n) (π := π) l cs h h2
  exact .agg _ _ rfl fun i h3 _ => this _ (by simp)
 | .tup l, u, h, hs => by
  simp only [SR] at hs
  obtain ⟨cs, rfl, h2⟩ := hs
  have := rens_self (n := n) (π := π) l cs h h2
  exact .tuple _ _ rfl fun i h3 _ => this _ (by simp)
 | .any, _, h, _ | .bid _ _, _, h, _ | .grd _ _, _, h, _ | .sub _ _ _ _, _, h, _ | .elp _ _ _ _, _, h, _ | .rop _ _ _ _, _, h, _ | .cp _ _, _, h, _ | .fn _ _ _, _, h, _ | .pf _ _ _ _, _, h, _ => by cases h
theorem rens_self {n : Nat} {π : Nat → Nat} : ∀ (v : List SV) (u : List Value), SVs.ret 0 v = true → SRs P B pl tb v u → ∀ x ∈ u, Ren n π x x
 | [], u, _, hs => by simp only [SRs] at hs; subst hs; intro x hx; cases hx
 | s :: ss, u, h, hs => by
  simp only [SVs.ret, Bool.and_eq_true] at h
  simp only [SRs] at hs
  obtain ⟨x, y, rfl, h1, h2⟩ := hs
  intro z hz
  rcases List.mem_cons.1 hz with rfl | hz
  ·exact ren_self s z h.1 h1
  ·exact rens_self ss y h.2 h2 z hz
end
theorem gend_sound (exact : Bool) {σ0 : Heap} {sf : St} {envf : Env} {σf : Heap} (hR : GRel P σ0 σ0 σ0 sf envf σf) {rs : List VResult} {v : SV} {bs : List OB} {e : Exit} (hv : v.ret bs.length = true) (hb : bs.all OB.ret = true) (h : gend rs v bs e sf) (hx : exact = true → bs.all OB.isL = true ∧ noBox v = true) :
  EndK σ0 rs (fun u σ' => if exact then u = cval (canP σ0 bs) v ∧ σ' = canH σ0 bs else Ret P σ0 v bs u σ') e envf σf := by
 have main : (match gresults sf rs with
  | some r => (match rmap v r [] with
   | some mp => svEq mp v r ∧ gobsR sf mp 0 bs
   | none => False)
  | none => False) → obind (vresults envf σf rs) fun u => ∃ v' σ', DropTo σ0 u σf v' σ' ∧ (if exact then v' = cval (canP σ0 bs) v ∧ σ' = canH σ0 bs else Ret P σ0 v bs v' σ') := fun h => by
  split at h
  ·rename_i r hr
   split at h
   ·rename_i mp hmp
    obtain ⟨h1, h2⟩ := h
    obtain ⟨B, F, pl, tb, ⟨hB, hF, _, hd⟩, hG⟩ := hR
    obtain ⟨u, h3, h4⟩ := gresults_sound hG hr
    have hsr := svEq_sound v r u h1 h4
    have hinj := rmap_inj v r [] mp hmp (fun t t' a h => by cases h)
    have hob : ∀ j b, bs[j]? = some b → obEq sf mp j b := fun j b hj => by have := gobsR_get bs 0 h2 j b hj; rwa [Nat.zero_add] at this
    rw [h3]
    have hle : σ0.Le σf := hF.trans hG.le
    have hA : Agree σ0 σf := fun i hi => by
     cases hg : σ0.get i with
     | none => exact hd.2 i hi hg
     | some b => exact hle.2 i b hg
    have hpl : ∀ j b, bs[j]? = some b → OR P hNil (mapP pl mp) noTb σf (mapP pl mp j) b ∧ ∀ i, Oid (mapP pl mp j) i → σ0.get i = none ∧ σ0.n ≤ i := fun j b hj => by
     obtain ⟨k1, k2⟩ := obEq_sound hG (hob j b hj)
     have hret := List.all_eq_true.1 hb b (List.mem_of_getElem? hj)
     have hlive : b.live = true := by cases b <;> first | rfl | cases hret
     refine ⟨k1.retd hret fun _ _ => rfl, fun i hi => ?_⟩
     obtain ⟨a, e1, e2, e3⟩ := k2 hlive i hi
     have hBn := hG.fresh a i e2 e3
     have hn : σ0.get i = none := by
      cases hg : σ0.get i with
      | none => rfl
      | some b => rw [hF.2 i b hg] at hBn; cases hBn
     refine ⟨hn, Nat.le_of_not_lt fun hlt => ?_⟩
     have hdead := hd.2 i hlt hn
     have hob := hG.obj a
     cases ho : oget sf.own a with
     | dead => rw [ho] at e2; cases e2
     | lst ty k xs nl =>
      rw [ho] at hob
      rcases hob with ⟨_, _, h2⟩ | ⟨_, i', cap, c, t, h2, _, h3, _⟩
      ·rw [h2] at e3; cases e3
      ·rw [h2] at e3; obtain rfl := Option.some.inj e3; rw [h3] at hdead; cases hdead
     | cells l u => rw [ho] at hob; obtain ⟨i', c, e, t, h2, h3, _⟩ := hob; rw [h2] at e3; obtain rfl := Option.some.inj e3; rw [h3] at hdead; cases hdead
     | map kk vk m => rw [ho] at hob; obtain ⟨i', es, cl, h2, h3, _⟩ := hob; rw [h2] at e3; obtain rfl := Option.some.inj e3; rw [h3] at hdead; cases hdead
     | stk l vals => rw [ho] at e2; cases e2
     | deep ty q k xs nl hh =>
      rw [ho] at hob
      obtain ⟨is, _, d2, d3, _⟩ := DP.open hob
      obtain ⟨c, e, t, h⟩ := d2.cells i ((d3 i).1 e3)
      rw [h] at hdead; cases hdead
    have hsep : ∀ j j' i, j < bs.length → j' < bs.length → j ≠ j' → Oid (mapP pl mp j) i → Oid (mapP pl mp j') i → False := fun j j' i hj hj' hne hi hi' => by
     have hb1 := List.getElem?_eq_getElem hj
     have hb2 := List.getElem?_eq_getElem hj'
     have r1 := List.all_eq_true.1 hb _ (List.getElem_mem hj)
     have r2 := List.all_eq_true.1 hb _ (List.getElem_mem hj')
     have l1 : (bs[j]).live = true := by cases hbb : bs[j] <;> first | rfl | (rw [hbb] at r1; cases r1)
     have l2 : (bs[j']).live = true := by cases hbb : bs[j'] <;> first | rfl | (rw [hbb] at r2; cases r2)
     obtain ⟨a, e1, e2, e3⟩ := (obEq_sound hG (hob j _ hb1)).2 l1 i hi
     obtain ⟨a', e1', e2', e3'⟩ := (obEq_sound hG (hob j' _ hb2)).2 l2 i hi'
     by_cases e : a = a'
     ·subst e; exact hne (hinj j j' a e1 e1')
     ·exact hG.sep a a' i e e2 e2' e3 e3'
    cases hex : exact with
    | true =>
     obtain ⟨hl, hnb⟩ := hx hex
     have hdrop := canon_drop (P := P) hA hle.1 hv hnb hb hl (pl := mapP pl mp) (u := u) (fun j b hj => ⟨(hpl j b hj).1, fun i hi => ((hpl j b hj).2 i (oid_Oid hi)).2⟩) (fun j j' i a b c d e => hsep j j' i a b c (oid_Oid d) (oid_Oid e)) (hsr.retd (fun j hj => rfl) _ _ hv)
     exact ⟨_, _, hdrop, by simp⟩
    | false =>
     simp only [Bool.false_eq_true, if_false]
     by_cases hbs : bs = []
     ·subst hbs
      refine ⟨u, σ0, .rename (fun i => i) (Nat.le_refl _) (fun i hi => ⟨rfl, (hA i hi).symm, .inl (hA i hi)⟩) (fun i k1 k2 => by omega) (fun _ _ _ _ _ _ h => h) (ren_self v u hv hsr), ?_⟩
      exact ⟨⟨Heap.Le.refl _, Dead.refl _⟩, fun _ => rfl, noPl, (fun j b hj => by simp at hj), (fun j j' i hj => by simp at hj), hsr.retd (fun j hj => by simp at hj) _ _ hv⟩
     ·exact ⟨u, σf, .refl _ _ _, ⟨hle, hd⟩, fun e => absurd e hbs, mapP pl mp, hpl, hsep, hsr.retd (fun j hj => rfl) _ _ hv⟩
   ·exact h.elim
  ·exact h.elim
 cases e with
 | normal => exact main h
 | ret => exact main h
 | _ => exact h.elim
def gstart (nt : Nat) (args : List SV) : St := ⟨args ++ List.replicate (nt - args.length) .any, [], 0⟩
theorem gstart_rel {args : List SV} {vs : List Value} (h : SRs P σ noPl noTb args vs) (nt : Nat) : GRel P σ σ σ (gstart nt args) (vs ++ List.replicate (nt - vs.length) undef) σ := by
 have und : ∀ n, SRs P σ noPl noTb (List.replicate n .any) (List.replicate n undef) := by
  intro n
  induction n with
  | zero => simp [SRs]
  | succ n ih => simp only [List.replicate_succ, SRs]; exact ⟨_, _, rfl, by simp [SR], ih⟩
 refine ⟨σ, σ, noPl, noTb, ⟨Heap.Le.refl _, Heap.Le.refl _, (fun i b h1 h2 => by rw [h2] at h1; cases h1), Dead.refl _⟩, Heap.Le.refl _, Heap.Le.refl _, ?_, fun d => trivial, (fun d i hl => by cases hl), (fun d d' i _ hl => by cases hl), fun _ _ => rfl⟩
 have := h.length
 simp only [gstart, this]
 exact h.append (und _)
theorem Fun.okC {f : Nat} {vc : VCode} {rs : List VResult} {nt : Nat} (h : Fun P f vc rs nt) (hm : P.follows .mixedOrders = true) {sp : CSp}
  (hb : ∀ ap, ApOk P ap → ∀ args c v bs, sp ap args = some (c, v, bs) → c → ∃ (C : Cx) (L : List (Nat × LoopAnn)) (args' : List SV), (∀ σ vs, SRs P σ noPl noTb args vs → SRs P σ noPl noTb args' vs) ∧ COk P C ∧ gwp C L vc 0 (gend rs v bs) (gstart nt args')) : OkC P f sp := by
 intro ap hap σ args vs c v bs hargs hsp hv hbs hc
 obtain ⟨C, L, args', h1, h2, h3⟩ := hb ap hap args c v bs hsp hc
 have main : ∀ exact : Bool, (exact = true → bs.all OB.isL = true ∧ noBox v = true) → VCalled P f vs σ fun u σ' => if exact then u = cval (canP σ bs) v ∧ σ' = canH σ bs else Ret P σ v bs u σ' := fun exact hx => by
  refine h.calls hm okSem ?_
  exact gwp_sound h2 vc 0 _ _ _ σ none _ trivial (gstart_rel (h1 σ vs hargs) nt) h3 fun e s' env' σ' k1 k2 => gend_sound exact k2 hv hbs k1 hx
 refine ⟨(main false fun e => by cases e).mono fun u σ' hr => by simpa using hr, fun hl hnb => (main true fun _ => ⟨hl, hnb⟩).mono fun u σ' hr => by simpa using hr⟩
theorem OkC.true {f : Nat} {sp : CSp} (h : OkC P f sp) (he : Enterable P f) {σ : Heap} {args : List SV} {vs : List Value} (ha : SRs P σ noPl noTb args vs) {c : Prop} (hs : sp (fun _ _ => none) args = some (c, .val .bo true, [])) (hc : c) :
  VCallsTo P f vs σ fun v _ => v = .bool true := by
 have := (h (fun _ _ => none) (fun _ _ _ _ _ _ _ _ _ h => by cases h) σ args vs c _ [] ha hs rfl rfl hc).1
 intro ρ w cargs hH hL
 rcases this ρ w cargs hH hL with ⟨_, h2⟩ | ⟨c', _, h2⟩
 ·refine h2.mono fun e w' ⟨c', h3, h4⟩ => ⟨c', h3, h4.mono fun u σ' hr => ?_⟩
  have := (hr.flat rfl).2
  simpa only [SR, KC, List.cons.injEq, and_true] using this
 ·have := h2 w (Like.refl ρ w)
  rw [run_callFunc he cargs w] at this
  cases this
end
end Go.V
namespace Go.V
open Go
mutual
inductive AP : Type → Type 1 where
 | k (k : Kind) : AP k.T
 | agg {D : Type} (l : AL D) : AP D
 | ptr {D : Type} (l : AL D) : AP D
 | fn (ks : List Kind) (r : Kind) : AP ((AT ks → Prop) × (AT ks → r.T))
inductive AL : Type → Type 1 where
 | nil : AL Unit
 | one {D : Type} (a : AP D) : AL D
 | cons {D E : Type} (a : AP D) (r : AL E) : AL (D × E)
end
def atSVs : (ks : List Kind) → AT ks → List SV
 | [], _ => []
 | [k], x => [kval k x]
 | k :: k' :: ks, x => kval k x.1 :: atSVs (k' :: ks) x.2
abbrev Ap := SV → List SV → Option (Prop × SV)
def fnDom (ap : Ap) (f : SV) (ks : List Kind) (r : Kind) (x : AT ks) : Prop := match ap f (atSVs ks x) with
 | some (c, v) => (match gap.asV r v with | some _ => c | none => False)
 | none => False
def fnP (ap : Ap) (f : SV) (ks : List Kind) (r : Kind) (x : AT ks) : r.T := match ap f (atSVs ks x) with
 | some (_, v) => (match gap.asV r v with | some y => y | none => r.dflt)
 | none => r.dflt
mutual
def AP.dec (ap : Ap) : {D : Type} → (p : AP D) → SV → Option D
 | _, .k k, v => match k with
  | .list k => view [] k v
  | .i ik => deck (.i ik) [v]
  | .bo => deck .bo [v]
  | .st => deck .st [v]
  | .pair _ _ => none
 | _, .agg l, v => match v with | .agg vs => AL.dec ap l vs | _ => none
 | _, .ptr l, v => match v with | .cp vs 0 => AL.dec ap l vs | _ => none
 | _, .fn ks r, v => match v with
  | .fn g a b => some (fnDom ap (.fn g a b) ks r, fnP ap (.fn g a b) ks r)
  | .pf ks' r' dom p => some (fnDom ap (.pf ks' r' dom p) ks r, fnP ap (.pf ks' r' dom p) ks r)
  | _ => none
def AL.dec (ap : Ap) : {D : Type} → (l : AL D) → List SV → Option D
 | _, .nil, vs => match vs with | [] => some () | _ => none
 | _, .one a, vs => match vs with | [v] => AP.dec ap a v | _ => none
 | _, .cons a r, vs => match vs with
  | v :: vs => (match AP.dec ap a v, AL.dec ap r vs with | some x, some y => some (x, y) | _, _ => none)
  | [] => none
end
mutual
def AP.can : {D : Type} → (p : AP D) → D → SV
 | _, .k k, x => .val k x
 | _, .agg l, x => .agg (AL.can l x)
 | _, .ptr l, x => .cp (AL.can l x) 0
 | _, .fn ks r, x => .pf ks r x.1 x.2
def AL.can : {D : Type} → (l : AL D) → D → List SV
 | _, .nil, _ => []
 | _, .one a, x => [AP.can a x]
 | _, .cons a r, x => AP.can a x.1 :: AL.can r x.2
end
def mkSp {D : Type} (l : AL D) (pre : D → Prop) (res : D → SV) (obs : D → List OB) : CSp := fun ap args => match AL.dec ap l args with
 | some d => some (pre d, res d, obs d)
 | none => none
section
variable {P : Program} {σ : Heap}
theorem atSVs_sound : ∀ {ks : List Kind} {x : AT ks} {vs : List Value}, atVals σ ks x vs → SRs P σ noPl noTb (atSVs ks x) vs
 | [], x, vs, h => by simp only [atVals] at h; subst h; simp [atSVs, SRs]
 | [k], x, vs, h => by
  obtain ⟨v, rfl, h1⟩ := h
  simp only [atSVs, SRs]; exact ⟨v, [], rfl, kval_sound h1, rfl⟩
 | k :: k' :: ks, x, vs, h => by
  obtain ⟨v, vs', rfl, h1, h2⟩ := h
  simp only [atSVs, SRs]; exact ⟨v, vs', rfl, kval_sound h1, atSVs_sound h2⟩
theorem fn_sound {ap : Ap} (hap : ApOk P ap) {f : SV} {v : Value} (hf : SR P σ noPl noTb f v) (hv : ∃ g a b, v = .func (.func g) a b) (ks : List Kind) (r : Kind) : SR P σ noPl noTb (.pf ks r (fnDom ap f ks r) (fnP ap f ks r)) v := by
 obtain ⟨g, a, b, rfl⟩ := hv
 simp only [SR]
 refine ⟨g, a, b, rfl, fun x hd τ vs hle hvs => ?_⟩
 unfold fnDom at hd
 split at hd
 ·rename_i c u hap1
  split at hd
  ·rename_i y hy
   obtain ⟨h1, g', a', b', h2, h3⟩ := hap τ f (atSVs ks x) c u (.func (.func g) a b) vs (SR.mono hle (fun _ _ h => h) _ _ hf) (atSVs_sound hvs) hap1 hd
   obtain ⟨rfl, rfl, rfl⟩ := (by simpa using h2 : g = g' ∧ a = a' ∧ b = b')
   have hp : fnP ap f ks r x = y := by simp [fnP, hap1, hy]
   rw [hp]
   exact h3.mono fun u' σ' hu => ⟨hu.1, (asV_sound hy hu.2).vcall (empty_le _)⟩
  ·exact hd.elim
 ·exact hd.elim
mutual
theorem AP.dec_sound {ap : Ap} (hap : ApOk P ap) : ∀ {D : Type} (p : AP D) {v : SV} {x : D} {u : Value}, AP.dec ap p v = some x → SR P σ noPl noTb v u → SR P σ noPl noTb (AP.can p x) u
 | _, .k k, v, x, u, h, hs => by
  have one : SRs P σ noPl noTb [v] [u] := by simp only [SRs]; exact ⟨u, [], rfl, hs, rfl⟩
  simp only [AP.can, SR]
  cases k with
  | list k =>
   have := view_sound (own := []) (Heap.Le.refl σ) (fun d => (trivial : OR P σ noPl noTb σ (noPl d) .dead)) (show view [] k v = some x from h) hs
   exact ⟨u, rfl, this⟩
  | i ik => exact deck_sound (k := .i ik) h one
  | bo => exact deck_sound (k := .bo) h one
  | st => exact deck_sound (k := .st) h one
  | pair a b => cases h
 | _, .agg l, v, x, u, h, hs => by
  simp only [AP.dec] at h
  split at h
  ·simp only [SR] at hs
   obtain ⟨cs, rfl, hs⟩ := hs
   simp only [AP.can, SR]
   exact ⟨cs, rfl, AL.dec_sound hap l h hs⟩
  ·cases h
 | _, .ptr l, v, x, u, h, hs => by
  simp only [AP.dec] at h
  split at h
  ·simp only [SR] at hs
   obtain ⟨b, c, e, wr, t, h1, rfl, h3⟩ := hs
   simp only [AP.can, SR]
   exact ⟨b, c, e, wr, t, h1, rfl, AL.dec_sound hap l h h3⟩
  ·cases h
 | _, .fn ks r, v, x, u, h, hs => by
  simp only [AP.dec] at h
  split at h
  ·obtain rfl := Option.some.inj h
   exact fn_sound hap hs (by simp only [SR] at hs; obtain ⟨x, y, rfl, _⟩ := hs; exact ⟨_, _, _, rfl⟩) ks r
  ·obtain rfl := Option.some.inj h
   exact fn_sound hap hs (by simp only [SR] at hs; obtain ⟨g, x, y, rfl, _⟩ := hs; exact ⟨_, _, _, rfl⟩) ks r
  ·cases h
theorem AL.dec_sound {ap : Ap} (hap : ApOk P ap) : ∀ {D : Type} (l : AL D) {vs : List SV} {x : D} {us : List Value}, AL.dec ap l vs = some x → SRs P σ noPl noTb vs us → SRs P σ noPl noTb (AL.can l x) us
 | _, .nil, vs, x, us, h, hs => by
  simp only [AL.dec] at h
  split at h
  ·exact hs
  ·cases h
 | _, .one a, vs, x, us, h, hs => by
  simp only [AL.dec] at h
  split at h
  ·obtain ⟨u, rfl, h1⟩ := hs.one
   simp only [AL.can, SRs]; exact ⟨u, [], rfl, AP.dec_sound hap a h h1, rfl⟩
  ·cases h
 | _, .cons a r, vs, x, us, h, hs => by
  simp only [AL.dec] at h
  split at h
  ·rename_i v vs'
   split at h
   ·rename_i y z h1 h2
    obtain rfl := Option.some.inj h
    simp only [SRs] at hs
    obtain ⟨u, us', rfl, h3, h4⟩ := hs
    simp only [AL.can, SRs]
    exact ⟨u, us', rfl, AP.dec_sound hap a h1 h3, AL.dec_sound hap r h2 h4⟩
   ·cases h
  ·cases h
end
theorem CsOk.nil : CsOk P [] := fun f sp h => by cases h
theorem CsOk.cons {f : Nat} {sp : CSp} {cs : List (Nat × CSp)} (h : OkC P f sp) (t : CsOk P cs) : CsOk P ((f, sp) :: cs) := fun g sp' hg => by
 simp only [alook] at hg
 cases hb : Nat.beq f g with
 | true => rw [hb] at hg; obtain rfl := Nat.eq_of_beq_eq_true hb; obtain rfl := Option.some.inj hg; exact h
 | false => rw [hb] at hg; exact t g sp' hg
theorem COk.cons {C : Cx} {f : Nat} {sp : CSp} (h : OkC P f sp) (t : COk P C) : COk P { C with cs := (f, sp) :: C.cs } := ⟨CsOk.cons h t.cs, t.xs, t.it⟩
theorem COk.nil {kt : List (Nat × Kind)} {nt : Nat} {raw : List Nat} {off : Nat} {el : List (Nat × Nat)} {jn : List Nat} {nm : Bool} : COk P ⟨kt, [], nt, raw, off, [], [], el, jn, nm⟩ := ⟨CsOk.nil, fun f x h => (by cases h), fun f x h => (by cases h)⟩
theorem okC_mk {f : Nat} {vc : VCode} {rs : List VResult} {nt : Nat} (h : Fun P f vc rs nt) (hm : P.follows .mixedOrders = true) {D : Type} {l : AL D} {pre : D → Prop} {res : D → SV} {obs : D → List OB}
  {C : Cx} (hcs : COk P C) (L : D → List (Nat × LoopAnn)) (hb : ∀ d, pre d → gwp C (L d) vc 0 (gend rs (res d) (obs d)) (gstart nt (AL.can l d))) : OkC P f (mkSp l pre res obs) := by
 refine h.okC hm fun ap hap args c v bs hs hc => ?_
 unfold mkSp at hs
 split at hs
 ·rename_i d hd
  obtain ⟨rfl, rfl, rfl⟩ := (by simpa using hs : pre d = c ∧ res d = v ∧ obs d = bs)
  exact ⟨C, L d, AL.can l d, fun σ vs hv => AL.dec_sound hap l hd hv, hcs, hb d hc⟩
 ·cases hs
theorem okC_vc {f : Nat} {vc : VCode} {rs : List VResult} {nt : Nat} (h : Fun P f vc rs nt) (hm : P.follows .mixedOrders = true) {D : Type} {l : AL D} {pre : D → Prop} {res : D → SV} {obs : D → List OB}
  {C : Cx} (hcs : COk P C) {L : D → List (Nat × LoopAnn)} {V : D → Prop} (hq : ∀ d, gwp C (L d) vc 0 (gend rs (res d) (obs d)) (gstart nt (AL.can l d)) = V d) (hb : ∀ d, pre d → V d) : OkC P f (mkSp l pre res obs) :=
 okC_mk h hm hcs L fun d hp => (hq d).mpr (hb d hp)
end
end Go.V
namespace Go.V
open Go
abbrev lI {α : Type} (l : List α) : Int := (l.length : Int)
abbrev gD {α : Type} (l : List α) (i : Int) (d : α) : α := l.getD i.toNat d
abbrev sT {α : Type} (l : List α) (i : Int) (x : α) : List α := l.set i.toNat x
abbrev I64 (x : Int) : Prop := InK .i64 x
theorem InK_i64 (x : Int) : InK .i64 x ↔ -9223372036854775808 ≤ x ∧ x ≤ 9223372036854775807 := by
 simp [InK, IntKind.min, IntKind.max, IntKind.bits, IntKind.signed]
theorem InK_u64 (x : Int) : InK .u64 x ↔ 0 ≤ x ∧ x ≤ 18446744073709551615 := by
 simp [InK, IntKind.min, IntKind.max, IntKind.bits, IntKind.signed]
theorem LoopP.count {F : Int → (Int → Prop) → Prop} (n : Nat) (J : Nat → Prop) (h0 : J 0) (hr : ∀ k : Nat, k ≤ n → J k → ∀ q : Int → Prop, (k < n → J (k + 1) → q ((k : Int) + 1)) → F k q) : LoopP F 0 := by
 refine ⟨fun d => ∃ k : Nat, d = k ∧ k ≤ n ∧ J k, fun d => n - d.toNat, ⟨0, rfl, Nat.zero_le _, h0⟩, fun d ⟨k, hd, hk, hJ⟩ => ?_⟩
 subst hd
 refine hr k hk hJ _ fun hlt hJ' => ⟨⟨k + 1, by simp, hlt, hJ'⟩, ?_⟩
 simp; omega
theorem LoopP.count2 {X : Type} {F : X × Int → (X × Int → Prop) → Prop} (n : Nat) (J : Nat → X → Prop) {x0 : X} (h0 : J 0 x0) (hr : ∀ (k : Nat) (x : X), k ≤ n → J k x → ∀ q : X × Int → Prop, (∀ x', k < n → J (k + 1) x' → q (x', (k : Int) + 1)) → F (x, (k : Int)) q) : LoopP F (x0, 0) := by
 refine ⟨fun d => ∃ k : Nat, d.2 = k ∧ k ≤ n ∧ J k d.1, fun d => n - d.2.toNat, ⟨0, rfl, Nat.zero_le _, h0⟩, fun ⟨x, d⟩ ⟨k, hd, hk, hJ⟩ => ?_⟩
 simp only at hd hJ
 subst hd
 refine hr k x hk hJ _ fun x' hlt hJ' => ⟨⟨k + 1, by simp, hlt, hJ'⟩, ?_⟩
 simp; omega
theorem getD_nat {α : Type} {l : List α} {k : Nat} {d : α} (h : k < l.length) : l.getD k d = l[k] := by
 simp [List.getD_eq_getElem?_getD, List.getElem?_eq_getElem h]
theorem take_succ_eq {α : Type} {l : List α} {k : Nat} (h : k < l.length) : l.take (k + 1) = l.take k ++ [l[k]] := by
 rw [List.take_succ_eq_append_getElem h]
end Go.V
namespace Go.V
open Go
section
variable {P : Program}
theorem st1 {S : VSpecs} {d : Nat} {op : VOp} {rest : List VOper} {env : Env} {σ : Heap} {K : Env → Heap → Prop} {v : Value} (hv : ∀ K', vop S op env σ K' = obind (vact op (evalO env) σ) fun p => K' p.1 p.2) (h : vact op (evalO env) σ = some (v, σ)) (hr : vops S rest (env.set d v) σ K) : vops S (⟨some d, op, none⟩ :: rest) env σ K := by
 show obind (some true) _
 refine ⟨fun _ => ?_, fun e => by cases e⟩
 rw [hv, h]
 exact hr
theorem XsOk.nil : ∀ f x, alook ([] : List (Nat × XSp)) f = some x → XOk P f x := fun f x h => by cases h
theorem XsOk.cons {f : Nat} {x : XSp} {l : List (Nat × XSp)} (h : XOk P f x) (t : ∀ g y, alook l g = some y → XOk P g y) : ∀ g y, alook ((f, x) :: l) g = some y → XOk P g y := fun g y hg => by
 simp only [alook] at hg
 cases hb : Nat.beq f g with
 | true => rw [hb] at hg; obtain rfl := Nat.eq_of_beq_eq_true hb; obtain rfl := Option.some.inj hg; exact h
 | false => rw [hb] at hg; exact t g y hg
theorem ItsOk.nil : ∀ f x, alook ([] : List (Nat × ISp)) f = some x → ItOk P f x := fun f x h => by cases h
theorem ItsOk.cons {f : Nat} {x : ISp} {l : List (Nat × ISp)} (h : ItOk P f x) (t : ∀ g y, alook l g = some y → ItOk P g y) : ∀ g y, alook ((f, x) :: l) g = some y → ItOk P g y := fun g y hg => by
 simp only [alook] at hg
 cases hb : Nat.beq f g with
 | true => rw [hb] at hg; obtain rfl := Nat.eq_of_beq_eq_true hb; obtain rfl := Option.some.inj hg; exact h
 | false => rw [hb] at hg; exact t g y hg
end
end Go.V
namespace Go.V
open Go
inductive EB where
 | cells (c : List Value) (esz : El) (wr tight : Bool)
 | map (es : List MEnt) (clock : Nat) (wr : Bool)
 | iter (m since : Nat) (seen : List Nat) (last : Nat)
 | lp (st : LoopState) (pend : Option Code)
inductive GT (α : Type) where
 | nil
 | node (v : α) (l r : GT α)
noncomputable def GT.get {α : Type} (d : α) (t : GT α) : Nat → α :=
 GT.rec (motive := fun _ => Nat → α) (fun _ => d)
  (fun v _ _ gl gr i => Bool.rec (motive := fun _ => α) (Bool.rec (motive := fun _ => α) (gr (i / 2 - 1)) (gl (i / 2)) (Nat.beq (i % 2) 1)) v (Nat.beq i 0)) t
noncomputable def GT.set {α : Type} (d : α) (f : Nat) : GT α → Nat → α → GT α :=
 Nat.rec (motive := fun _ => GT α → Nat → α → GT α) (fun t _ _ => t)
  (fun _ ih t i b => GT.rec (motive := fun _ => GT α)
   (Bool.rec (motive := fun _ => GT α) (Bool.rec (motive := fun _ => GT α) (.node d .nil (ih .nil (i / 2 - 1) b)) (.node d (ih .nil (i / 2) b) .nil) (Nat.beq (i % 2) 1)) (.node b .nil .nil) (Nat.beq i 0))
   (fun v l r _ _ => Bool.rec (motive := fun _ => GT α) (Bool.rec (motive := fun _ => GT α) (.node v l (ih r (i / 2 - 1) b)) (.node v (ih l (i / 2) b) r) (Nat.beq (i % 2) 1)) (.node b l r) (Nat.beq i 0)) t) f
theorem GT.get_node {α : Type} (d v : α) (l r : GT α) (k : Nat) : (GT.node v l r).get d k = if k = 0 then v else if k % 2 = 1 then l.get d (k / 2) else r.get d (k / 2 - 1) := by
 show (Bool.rec (motive := fun _ => α) (Bool.rec (motive := fun _ => α) (r.get d (k / 2 - 1)) (l.get d (k / 2)) (Nat.beq (k % 2) 1)) v (Nat.beq k 0)) = _
 by_cases h0 : k = 0
 ·subst h0; rfl
 ·have : Nat.beq k 0 = false := by
   cases h : Nat.beq k 0 with
   | false => rfl
   | true => exact absurd (Nat.eq_of_beq_eq_true h) h0
  rw [this, if_neg h0]
  by_cases h1 : k % 2 = 1
  ·rw [if_pos h1, h1]; rfl
  ·have : Nat.beq (k % 2) 1 = false := by
    cases h : Nat.beq (k % 2) 1 with
    | false => rfl
    | true => exact absurd (Nat.eq_of_beq_eq_true h) h1
   rw [this, if_neg h1]
theorem GT.set_node {α : Type} (d v : α) (f : Nat) (l r : GT α) (i : Nat) (b : α) : (GT.node v l r).set d (f + 1) i b = if i = 0 then .node b l r else if i % 2 = 1 then .node v (l.set d f (i / 2) b) r else .node v l (r.set d f (i / 2 - 1) b) := by
 show (Bool.rec (motive := fun _ => GT α) (Bool.rec (motive := fun _ => GT α) (.node v l (r.set d f (i / 2 - 1) b)) (.node v (l.set d f (i / 2) b) r) (Nat.beq (i % 2) 1)) (.node b l r) (Nat.beq i 0)) = _
 by_cases h0 : i = 0
 ·subst h0; rfl
 ·have : Nat.beq i 0 = false := by
   cases h : Nat.beq i 0 with
   | false => rfl
   | true => exact absurd (Nat.eq_of_beq_eq_true h) h0
  rw [this, if_neg h0]
  by_cases h1 : i % 2 = 1
  ·rw [if_pos h1, h1]; rfl
  ·have : Nat.beq (i % 2) 1 = false := by
    cases h : Nat.beq (i % 2) 1 with
    | false => rfl
    | true => exact absurd (Nat.eq_of_beq_eq_true h) h1
   rw [this, if_neg h1]
theorem GT.set_nil {α : Type} (d : α) (f i : Nat) (b : α) : (GT.nil : GT α).set d (f + 1) i b = (GT.node d .nil .nil).set d (f + 1) i b := rfl
theorem GT.get_set {α : Type} (d : α) : ∀ (f : Nat) (t : GT α) (i : Nat) (b : α) (j : Nat), i + 1 < 2 ^ f → (t.set d f i b).get d j = if j = i then b else t.get d j := by
 intro f
 induction f with
 | zero => intro t i b j h; simp at h
 | succ f ih =>
  intro t i b j h
  have hp : 2 ^ (f + 1) = 2 * 2 ^ f := by rw [Nat.pow_succ]; omega
  have nodeset : ∀ v l r, ((GT.node v l r).set d (f + 1) i b).get d j = if j = i then b else (GT.node v l r).get d j := by
   intro v l r
   rw [GT.set_node]
   by_cases hi : i = 0
   ·subst hi
    rw [if_pos rfl, GT.get_node, GT.get_node]
    split <;> rfl
   ·rw [if_neg hi]
    by_cases ho : i % 2 = 1
    ·rw [if_pos ho, GT.get_node, GT.get_node, ih _ _ _ _ (by omega)]
     by_cases hj0 : j = 0
     ·subst hj0; rw [if_pos rfl, if_neg (Ne.symm hi), if_pos rfl]
     ·rw [if_neg hj0, if_neg hj0]
      by_cases hjo : j % 2 = 1
      ·rw [if_pos hjo, if_pos hjo]
       by_cases hji : j = i
       ·subst hji; simp
       ·rw [if_neg hji, if_neg (by omega)]
      ·rw [if_neg hjo, if_neg hjo, if_neg (by rintro rfl; exact hjo ho)]
    ·rw [if_neg ho, GT.get_node, GT.get_node, ih _ _ _ _ (by omega)]
     by_cases hj0 : j = 0
     ·subst hj0; rw [if_pos rfl, if_neg (Ne.symm hi), if_pos rfl]
     ·rw [if_neg hj0, if_neg hj0]
      by_cases hjo : j % 2 = 1
      ·rw [if_pos hjo, if_pos hjo, if_neg (by rintro rfl; exact ho hjo)]
      ·rw [if_neg hjo, if_neg hjo]
       by_cases hji : j = i
       ·subst hji; simp
       ·rw [if_neg hji, if_neg (by omega)]
  cases t with
  | node v l r => exact nodeset v l r
  | nil =>
   rw [GT.set_nil, nodeset d .nil .nil, GT.get_node]
   split
   ·rfl
   ·split
    ·rfl
    ·split <;> rfl
structure CH where
 t : GT (Option EB)
 n : Nat
noncomputable def CH.get (h : CH) (i : Nat) : Option EB := Bool.rec (motive := fun _ => Option EB) none (h.t.get none i) (Nat.blt i h.n)
noncomputable def CH.upd (h : CH) (i : Nat) (b : EB) : CH := ⟨h.t.set none 32 i (some b), h.n⟩
noncomputable def CH.kill (h : CH) (i : Nat) : CH := ⟨h.t.set none 32 i none, h.n⟩
noncomputable def CH.push (h : CH) (b : EB) : CH := ⟨h.t.set none 32 h.n (some b), h.n + 1⟩
def CH.room (h : CH) : Bool := Nat.ble h.n 1000000000
def CH.empty : CH := ⟨.nil, 0⟩
theorem CH.get_lt {h : CH} {i : Nat} (hi : i < h.n) : h.get i = h.t.get none i := by
 unfold CH.get
 rw [show Nat.blt i h.n = true from Nat.ble_eq_true_of_le hi]
theorem CH.get_ge {h : CH} {i : Nat} (hi : h.n ≤ i) : h.get i = none := by
 unfold CH.get
 cases hb : Nat.blt i h.n with
 | false => rfl
 | true => have := Nat.le_of_ble_eq_true hb; omega
theorem CH.get_upd {h : CH} {i : Nat} {b : EB} (hi : i < h.n) (hs : h.n ≤ 1000000001) (j : Nat) : (h.upd i b).get j = if j = i then some b else h.get j := by
 rcases Nat.lt_or_ge j h.n with hj | hj
 ·rw [CH.get_lt (h := h.upd i b) hj, CH.get_lt hj]; exact GT.get_set none 32 _ _ _ _ (by omega)
 ·rw [CH.get_ge (h := h.upd i b) hj, CH.get_ge hj, if_neg (by omega)]
theorem CH.get_kill {h : CH} {i : Nat} (hi : i < h.n) (hs : h.n ≤ 1000000001) (j : Nat) : (h.kill i).get j = if j = i then none else h.get j := by
 rcases Nat.lt_or_ge j h.n with hj | hj
 ·rw [CH.get_lt (h := h.kill i) hj, CH.get_lt hj]; exact GT.get_set none 32 _ _ _ _ (by omega)
 ·rw [CH.get_ge (h := h.kill i) hj, CH.get_ge hj]; simp
theorem CH.get_push {h : CH} {b : EB} (hs : h.n ≤ 1000000001) (j : Nat) : (h.push b).get j = if j = h.n then some b else h.get j := by
 rcases Nat.lt_or_ge j (h.n + 1) with hj | hj
 ·rw [CH.get_lt (h := h.push b) hj]
  show (h.t.set none 32 h.n (some b)).get none j = _
  rw [GT.get_set none 32 _ _ _ _ (by omega)]
  split
  ·rfl
  ·rw [CH.get_lt (by omega)]
 ·rw [CH.get_ge (h := h.push b) hj, CH.get_ge (by omega), if_neg (by omega)]
def EB.to (q : Env × Loop) : EB → Blk
 | .cells c e w t => .cells c e w t
 | .map es cl w => .obj (.map es cl) w
 | .iter m s sn l => .obj (.iter m s sn l) true
 | .lp st pend => .obj (.lp q.1 q.2 st pend) true
structure CSim (rs : Nat → Env × Loop) (h : CH) (σ : Heap) : Prop where
 n : h.n = σ.n
 sm : h.n ≤ 1000000001
 get : ∀ i, σ.get i = (h.get i).map (EB.to (rs i))
theorem CSim.cells {rs : Nat → Env × Loop} {h : CH} {σ : Heap} (hs : CSim rs h σ) {i : Nat} {c : List Value} {e : El} {w t : Bool} (hg : h.get i = some (.cells c e w t)) : σ.get i = some (.cells c e w t) := by rw [hs.get, hg]; rfl
theorem CSim.map {rs : Nat → Env × Loop} {h : CH} {σ : Heap} (hs : CSim rs h σ) {i : Nat} {es : List MEnt} {cl : Nat} {w : Bool} (hg : h.get i = some (.map es cl w)) : σ.get i = some (.obj (.map es cl) w) := by rw [hs.get, hg]; rfl
theorem CSim.iter {rs : Nat → Env × Loop} {h : CH} {σ : Heap} (hs : CSim rs h σ) {i m s : Nat} {sn : List Nat} {l : Nat} (hg : h.get i = some (.iter m s sn l)) : σ.get i = some (.obj (.iter m s sn l) true) := by rw [hs.get, hg]; rfl
theorem CSim.lp {rs : Nat → Env × Loop} {h : CH} {σ : Heap} (hs : CSim rs h σ) {i : Nat} {st : LoopState} {pend : Option Code} (hg : h.get i = some (.lp st pend)) : σ.get i = some (.obj (.lp (rs i).1 (rs i).2 st pend) true) := by rw [hs.get, hg]; rfl
theorem CSim.lt {rs : Nat → Env × Loop} {h : CH} {σ : Heap} (hs : CSim rs h σ) {i : Nat} {b : EB} (hg : h.get i = some b) : i < h.n := by
 have : σ.get i = some (b.to (rs i)) := by rw [hs.get, hg]; rfl
 rw [hs.n]; exact σ.lt this
theorem CSim.upd {rs : Nat → Env × Loop} {h : CH} {σ : Heap} (hs : CSim rs h σ) {i : Nat} (hi : i < h.n) {b : EB} {b' : Blk} (hb : b.to (rs i) = b') : CSim rs (h.upd i b) (σ.upd i b') := by
 refine ⟨hs.n, hs.sm, fun j => ?_⟩
 rw [CH.get_upd hi hs.sm]
 show (if j = i ∧ i < σ.n then some b' else σ.get j) = _
 by_cases hj : j = i
 ·subst hj; rw [if_pos ⟨rfl, by rw [← hs.n]; exact hi⟩, if_pos rfl, ← hb]; rfl
 ·rw [if_neg (fun e => hj e.1), if_neg hj]; exact hs.get j
theorem CSim.kill {rs : Nat → Env × Loop} {h : CH} {σ : Heap} (hs : CSim rs h σ) {i : Nat} (hi : i < h.n) : CSim rs (h.kill i) (σ.kill i) := by
 refine ⟨hs.n, hs.sm, fun j => ?_⟩
 rw [CH.get_kill hi hs.sm]
 show (if j = i then none else σ.get j) = _
 by_cases hj : j = i
 ·rw [if_pos hj, if_pos hj]; rfl
 ·rw [if_neg hj, if_neg hj]; exact hs.get j
theorem CSim.push {rs : Nat → Env × Loop} {h : CH} {σ : Heap} (hs : CSim rs h σ) (hr : h.room = true) {b : EB} {b' : Blk} (hb : b.to (rs h.n) = b') : CSim rs (h.push b) (σ.push b') := by
 have hr : h.n ≤ 1000000000 := Nat.le_of_ble_eq_true hr
 refine ⟨by show h.n + 1 = σ.n + 1; rw [hs.n], by show h.n + 1 ≤ _; omega, fun j => ?_⟩
 rw [CH.get_push hs.sm]
 show (if j = σ.n then some b' else σ.get j) = _
 rw [← hs.n]
 by_cases hj : j = h.n
 ·subst hj; rw [if_pos rfl, if_pos rfl, ← hb]; rfl
 ·rw [if_neg hj, if_neg hj]; exact hs.get j
theorem CSim.rs {rs rs' : Nat → Env × Loop} {h : CH} {σ : Heap} (hs : CSim rs h σ) (hr : ∀ i, i < h.n → rs' i = rs i) : CSim rs' h σ :=
 ⟨hs.n, hs.sm, fun i => by
  rw [hs.get]
  cases hg : h.get i with
  | none => rfl
  | some b => rw [hr i (hs.lt hg)]⟩
noncomputable def CH.sl (σ : CH) (esz : Nat) : Value → Option (List Value)
 | .slice none 0 0 => some []
 | .slice (some ⟨i, o, none⟩) n _ =>
  match σ.get i with
  | some (.cells c e _ _) => if e.sz = esz ∧ o + n * esz ≤ c.length then some ((c.drop o).take (n * esz)) else none
  | _ => none
 | _ => none
noncomputable def CH.mapAt (σ : CH) (m : Nat) : Option (List MEnt × Nat × Bool) := match σ.get m with
 | some (.map es clock wr) => some (es, clock, wr)
 | _ => none
noncomputable def epush (σ : CH) (b : EB) (v : Value) : Option (Value × CH) := if σ.room = true then some (v, σ.push b) else none
noncomputable def eappend (esz : El) (bytes : Nat) (σ : CH) (s : Value) (m : Nat) (xs : List Value) : Option (Value × CH) :=
 match s with
 | .slice none 0 0 =>
  if m = 0 then some (s, σ) else
  if m * bytes ≤ 2 ^ 46 then epush σ (.cells xs esz true false) (.slice (some ⟨σ.n, 0, none⟩) m m) else none
 | .slice (some ⟨i, o, none⟩) n cap =>
  match σ.get i with
  | some (.cells c e wr tight) =>
   if e = esz ∧ n ≤ cap ∧ o + n * esz.sz ≤ c.length then
    if m = 0 then some (s, σ) else
    if n + m ≤ cap then
     (if wr = true ∧ o + (n + m) * esz.sz ≤ c.length then some (.slice (some ⟨i, o, none⟩) (n + m) cap, σ.upd i (.cells (setL c (o + n * esz.sz) xs) e wr tight)) else none)
    else if (n + m) * bytes ≤ 2 ^ 46 then
     (if tight then epush σ (.cells ((c.drop o).take (n * esz.sz) ++ xs) esz true false) (.slice (some ⟨σ.n, 0, none⟩) (n + m) (n + m))
     else if wr then epush (σ.kill i) (.cells ((c.drop o).take (n * esz.sz) ++ xs) esz true false) (.slice (some ⟨σ.n, 0, none⟩) (n + m) (n + m))
     else none)
    else none
   else none
  | _ => none
 | _ => none
noncomputable def eslice (size : Nat) (σ : CH) (s : Value) (l h : Nat) (m : Option Nat) : Option (Value × CH) :=
 match s with
 | .slice none 0 0 => if l = 0 ∧ h = 0 ∧ (m.getD 0) = 0 then some (.slice none 0 0, σ) else none
 | .slice (some ⟨i, o, none⟩) _ cap =>
  match σ.get i with
  | some (.cells _ e _ _) =>
   match m with
   | none => if e.sz = size ∧ l ≤ h ∧ h ≤ cap then some (.slice (some ⟨i, o + l * size, none⟩) (h - l) (cap - l), σ) else none
   | some m =>
    if e.sz = size ∧ l ≤ h ∧ h ≤ m ∧ m ≤ cap then
     if m = l then epush σ (.cells [] e false true) (.slice (some ⟨σ.n, 0, none⟩) 0 0)
     else some (.slice (some ⟨i, o + l * size, none⟩) (h - l) (m - l), σ)
    else none
  | _ => none
 | _ => none
noncomputable def esame : Nat → Value → Value → CH → Option Bool
 | 0, .pointer none, .pointer none, _ => some true
 | 0, .pointer none, .pointer (some _), _ => some false
 | 0, .pointer (some _), .pointer none, _ => some false
 | 0, .pointer (some ⟨i, o, none⟩), .pointer (some ⟨j, q, none⟩), σ => if i = j ∧ o = q ∧ (σ.get i).isSome = true then some true else none
 | 1, .slice none _ _, .slice none _ _, _ => some true
 | 1, .slice none _ _, .slice (some _) _ _, _ => some false
 | 1, .slice (some _) _ _, .slice none _ _, _ => some false
 | 2, .map none, .map none, _ => some true
 | 2, .map none, .map (some _), _ => some false
 | 2, .map (some _), .map none, _ => some false
 | 3, .nilFunc, .nilFunc, _ => some true
 | 3, .nilFunc, .func _ _ _, _ => some false
 | 3, .func _ _ _, .nilFunc, _ => some false
 | _, _, _, _ => none
noncomputable def exact' (o : XOp) (ev : Operand → Value) (σ : CH) : Option (Value × CH) :=
 match o with
 | .eqAgg neg s x y => match ev x, ev y with
  | .agg a, .agg b => if fits s a.toList = true ∧ fits s b.toList = true then some (.bool (if neg then !(cellsEqV a.toList b.toList) else cellsEqV a.toList b.toList), σ) else none
  | _, _ => none
 | .eqNil kd neg x y => match esame kd (ev x) (ev y) σ with | some b => some (.bool (if neg then !b else b), σ) | none => none
 | .makeMap => epush σ (.map [] 0 true) (.map (some σ.n))
 | .lookup mk z ok x i =>
  let k := ev i
  if keyOk mk k then
   match ev x with
   | .map none => some (if ok then .tuple #[z, .bool false] else z, σ)
   | .map (some m) => match σ.mapAt m with
    | some (es, _, _) => if es.all (fun e => keyOk mk e.1) then
      (match mapFind k es with
      | some e => some (if ok then .tuple #[e.2.1, .bool true] else e.2.1, σ)
      | none => some (if ok then .tuple #[z, .bool false] else z, σ)) else none
    | none => none
   | _ => none
  else none
 | .mapUpdate mk m k v => match ev m with
  | .map (some i) => match σ.mapAt i with
   | some (es, clock, true) => if keyOk mk (ev k) && es.all (fun e => keyOk mk e.1) then some (undef, σ.upd i (.map (mapPut (ev k) (ev v) clock es).1 (mapPut (ev k) (ev v) clock es).2 true)) else none
   | _ => none
  | _ => none
 | .lenMap x => match ev x with
  | .map none => some (.int .i64 0, σ)
  | .map (some m) => match σ.mapAt m with
   | some (es, _, _) => some (.int .i64 es.length, σ)
   | none => none
  | _ => none
 | .rangeMap x => match ev x with
  | .map (some m) => match σ.mapAt m with
   | some (_, clock, _) => epush σ (.iter m clock [] clock) (.pointer (some ⟨σ.n, 0, none⟩))
   | none => none
  | _ => none
 | .entry x => match ev x with
  | .pointer (some ⟨i, 0, none⟩) => match σ.get i with
   | some (.iter m _ seen last) => match σ.mapAt m, seen.getLast? with
    | some (es, clock, _), some b => if clock = last then (match es.find? (fun e => e.2.2 == b) with | some e => if plainV e.1 then some (.tuple #[e.1, e.2.1], σ) else none | none => none) else none
    | _, _ => none
   | _ => none
  | _ => none
 | .copy size d s => match ev d, ev s with
  | .slice db dn _, .slice sb sn sc =>
   if min sn dn = 0 then some (.int .i64 0, σ) else
   match db, σ.sl size (.slice sb (min sn dn) sc) with
   | some ⟨i, o, none⟩, some xs => match σ.get i with
    | some (.cells c e wr tight) => if wr = true ∧ e.sz = size ∧ o + xs.length ≤ c.length ∧ xs.all cellOk = true then some (.int .i64 (min sn dn : Nat), σ.upd i (.cells (setL c o xs) e wr tight)) else none
    | _ => none
   | _, _ => none
  | _, _ => none
 | .toUnsafe x => match ev x with
  | .pointer none => some (.pointer none, σ)
  | .pointer (some ⟨i, o, none⟩) => match σ.get i with
   | some (.cells c _ _ _) => if o < c.length then some (.pointer (some ⟨i, o, none⟩), σ) else none
   | _ => none
  | _ => none
 | .fromUnsafe u size x => match ev x with
  | .pointer none => some (.pointer none, σ)
  | .pointer (some ⟨i, o, none⟩) => match σ.get i with
   | some (.cells c e true true) => if o = 0 ∧ e.ty = u ∧ size ≤ c.length then some (.pointer (some ⟨i, o, none⟩), σ) else none
   | _ => none
  | _ => none
 | .sliceData x => match ev x with
  | .slice none _ _ => some (.pointer none, σ)
  | .slice (some ⟨i, o, none⟩) _ cap => if cap ≠ 0 ∧ (σ.get i).isSome = true then some (.pointer (some ⟨i, o, none⟩), σ) else none
  | _ => none
 | .unsafeStr e x n => match ev x, ev n with
  | .pointer p, .int .i64 k =>
   if k = 0 then some (.string ⟨#[]⟩, σ) else
   match p with
   | some ⟨i, o, none⟩ => match σ.get i with
    | some (.cells c el true tight) =>
     if 0 < k ∧ k ≤ 2 ^ 62 ∧ el.ty = e ∧ o + k.toNat ≤ c.length then
      (match vbytes ((c.drop o).take k.toNat) with
      | some s => some (.string s, σ.upd i (.cells c el false tight))
      | none => none) else none
    | _ => none
   | _ => none
  | _, _ => none
 | .bytesStr x => match ev x with
  | .slice a n c => match σ.sl 1 (.slice a n c) with
   | some xs => match vbytes xs with | some s => some (.string s, σ) | none => none
   | none => none
  | _ => none
 | _ => none
def Heap.empty : Heap := ⟨fun _ => none, 0, fun _ _ => rfl⟩
noncomputable def eact (o : VOp) (ev : Operand → Value) (σ : CH) : Option (Value × CH) :=
 match o with
 | .alloc t z => epush σ (.cells z ⟨z.length, t⟩ true true) (.pointer (some ⟨σ.n, 0, none⟩))
 | .box t x => match vcells (ev x) with
  | some vs => epush σ (.cells vs ⟨vs.length, t⟩ true true) (.pointer (some ⟨σ.n, 0, none⟩))
  | none => none
 | .buildSlice esz z len parts => match fillL (repl len z) (parts.map fun p => (p.1 * esz.sz, esz.sz, ev p.2)) with
  | some cs => epush σ (.cells cs esz true true) (.slice (some ⟨σ.n, 0, none⟩) len len)
  | none => none
 | .load agg size a => match ev a with
  | .pointer (some ⟨i, o, none⟩) => match σ.get i with
   | some (.cells c _ _ _) => match vpart agg size c o with | some v => some (v, σ) | none => none
   | _ => none
  | _ => none
 | .store size a v => match ev a, vcells (ev v) with
  | .pointer (some ⟨i, o, none⟩), some vs => match σ.get i with
   | some (.cells c e wr tight) => if wr = true ∧ vs.length = size ∧ o + size ≤ c.length ∧ vs.all cellOk = true then some (undef, σ.upd i (.cells (setL c o vs) e wr tight)) else none
   | _ => none
  | _, _ => none
 | .slice size x lo hi mx =>
  match ev x with
  | .slice a n cap =>
   match vbound ev lo 0, vbound ev hi n, mx with
   | some l, some h, none => eslice size σ (.slice a n cap) l h none
   | some l, some h, some _ => match vbound ev mx 0, hi with
    | some m, some _ => eslice size σ (.slice a n cap) l h (some m)
    | _, _ => none
   | _, _, _ => none
  | _ => none
 | .makeSlice esz bytes z l c =>
  match ev l, ev c with
  | .int _ a, .int _ b => if 0 ≤ a ∧ a ≤ b ∧ b * bytes ≤ 2 ^ 46 ∧ b ≤ 2 ^ 46 then epush σ (.cells (repl b.toNat z) esz true true) (.slice (some ⟨σ.n, 0, none⟩) a.toNat b.toNat) else none
  | _, _ => none
 | .append esz bytes s x =>
  match σ.sl esz.sz (ev x), ev x with
  | some xs, .slice _ m _ => if xs.all cellOk then eappend esz bytes σ (ev s) m xs else none
  | _, _ => none
 | .ext o => exact' o ev σ
 | o => if o.kind = 0 then (match vact o ev Heap.empty with | some p => some (p.1, σ) | none => none) else none
def ESnd (rs : Nat → Env × Loop) (h : CH) (_σ : Heap) (r : Option (Value × Heap)) (p : Value × CH) : Prop := h.n ≤ p.2.n ∧ ∃ σ', r = some (p.1, σ') ∧ CSim rs p.2 σ'
theorem ESnd.same {rs : Nat → Env × Loop} {h : CH} {σ : Heap} (hs : CSim rs h σ) {r : Option (Value × Heap)} {v : Value} (hr : r = some (v, σ)) : ESnd rs h σ r (v, h) := ⟨Nat.le_refl _, σ, hr, hs⟩
theorem ESnd.upd {rs : Nat → Env × Loop} {h : CH} {σ : Heap} (hs : CSim rs h σ) {r : Option (Value × Heap)} {v : Value} {i : Nat} {b : EB} {b0 : EB} (hg : h.get i = some b0) {b' : Blk} (hb : b.to (rs i) = b') (hr : r = some (v, σ.upd i b')) : ESnd rs h σ r (v, h.upd i b) := by
 have hi := hs.lt hg
 have hsm := hs.sm
 exact ⟨Nat.le_refl _, _, hr, hs.upd hi hb⟩
theorem ESnd.push {rs : Nat → Env × Loop} {h : CH} {σ : Heap} (hs : CSim rs h σ) {r : Option (Value × Heap)} {v : Value} {p : Value × CH} {b : EB} (hp : epush h b v = some p) {b' : Blk} (hb : b.to (rs h.n) = b') (hr : r = some (v, σ.push b')) : ESnd rs h σ r p := by
 unfold epush at hp
 split at hp
 ·rename_i hroom
  obtain rfl := Option.some.inj hp
  have hsm := hs.sm
  exact ⟨Nat.le_succ _, _, hr, hs.push hroom hb⟩
 ·cases hp
theorem CSim.sl {rs : Nat → Env × Loop} {h : CH} {σ : Heap} (hs : CSim rs h σ) {esz : Nat} {v : Value} {xs : List Value} (hx : h.sl esz v = some xs) : σ.sl esz v = some xs := by
 unfold CH.sl at hx
 unfold Heap.sl
 split at hx
 ·exact hx
 ·rename_i i o n c
  split at hx
  ·rename_i cs e wr t hb
   simp only [hs.cells hb]
   exact hx
  ·cases hx
 ·cases hx
theorem CSim.mapAt {rs : Nat → Env × Loop} {h : CH} {σ : Heap} (hs : CSim rs h σ) {m : Nat} {x : List MEnt × Nat × Bool} (hx : h.mapAt m = some x) : σ.mapAt m = some x ∧ h.get m = some (.map x.1 x.2.1 x.2.2) := by
 unfold CH.mapAt at hx
 unfold Heap.mapAt
 split at hx
 ·rename_i es clock wr hb
  obtain rfl := Option.some.inj hx
  exact ⟨by simp only [hs.map hb], hb⟩
 ·cases hx
theorem esame_sound {rs : Nat → Env × Loop} {h : CH} {σ : Heap} (hs : CSim rs h σ) {kd : Nat} {a b : Value} {r : Bool} (hx : esame kd a b h = some r) : sameNil kd a b σ = some r := by
 unfold esame at hx
 unfold sameNil
 split at hx <;> first
  | exact hx
  | (cases hx; done)
  | skip
 rename_i i o j q
 split at hx
 ·rename_i hc
  obtain ⟨h1, h2, h3⟩ := hc
  have hc' : i = j ∧ o = q ∧ (σ.get i).isSome = true := ⟨h1, h2, by rw [hs.get]; simpa using h3⟩
  simp only [if_pos hc']; exact hx
 ·cases hx
theorem eappend_sound {rs : Nat → Env × Loop} {h : CH} {σ : Heap} (hs : CSim rs h σ) {esz : El} {bytes : Nat} {s : Value} {m : Nat} {xs : List Value} {p : Value × CH} (hx : eappend esz bytes h s m xs = some p) : ESnd rs h σ (vappend esz bytes σ s m xs) p := by
 unfold eappend at hx
 unfold vappend
 split at hx
 ·split at hx
  ·rename_i hm; simp only [if_pos hm]; obtain rfl := Option.some.inj hx; exact .same hs rfl
  ·rename_i hm; simp only [if_neg hm]
   split at hx
   ·rename_i hb; simp only [if_pos hb]; rw [hs.n] at hx; exact .push hs hx rfl rfl
   ·cases hx
 ·rename_i i o n cap
  split at hx
  ·rename_i c e wr tight hg
   have hsm := hs.sm
   have hi := hs.lt hg
   simp only [hs.cells hg]
   split at hx
   ·rename_i h1; simp only [if_pos h1]
    split at hx
    ·rename_i h2; simp only [if_pos h2]; obtain rfl := Option.some.inj hx; exact .same hs rfl
    ·rename_i h2; simp only [if_neg h2]
     split at hx
     ·rename_i h3; simp only [if_pos h3]
      split at hx
      ·rename_i h4; simp only [if_pos h4]; obtain rfl := Option.some.inj hx; exact .upd hs hg rfl rfl
      ·cases hx
     ·rename_i h3; simp only [if_neg h3]
      split at hx
      ·rename_i h4; simp only [if_pos h4]
       split at hx
       ·rename_i h5; simp only [if_pos h5]; rw [hs.n] at hx; exact .push hs hx rfl rfl
       ·rename_i h5; simp only [if_neg h5]
        split at hx
        ·rename_i h6; simp only [if_pos h6]
         rw [hs.n] at hx
         have hk := hs.kill hi
         obtain ⟨k1, σ', k2, k3⟩ := ESnd.push (r := some (.slice (some ⟨σ.n, 0, none⟩) (n + m) (n + m), (σ.kill i).push (.cells ((c.drop o).take (n * esz.sz) ++ xs) esz true false))) hk hx rfl rfl
         exact ⟨k1, σ', k2, k3⟩
        ·cases hx
      ·cases hx
   ·cases hx
  ·cases hx
 ·cases hx
theorem eslice_sound {rs : Nat → Env × Loop} {h : CH} {σ : Heap} (hs : CSim rs h σ) {size : Nat} {s : Value} {l k : Nat} {m : Option Nat} {p : Value × CH} (hx : eslice size h s l k m = some p) : ESnd rs h σ (vslice size σ s l k m) p := by
 unfold eslice at hx
 unfold vslice
 split at hx
 ·split at hx
  ·rename_i hm; simp only [if_pos hm]; obtain rfl := Option.some.inj hx; exact .same hs rfl
  ·cases hx
 ·rename_i i o n cap
  split at hx
  ·rename_i c e wr tight hg
   simp only [hs.cells hg]
   split at hx
   ·split at hx
    ·rename_i h1; simp only [if_pos h1]; obtain rfl := Option.some.inj hx; exact .same hs rfl
    ·cases hx
   ·split at hx
    ·rename_i h1; simp only [if_pos h1]
     split at hx
     ·rename_i h2; simp only [if_pos h2]; rw [hs.n] at hx; exact .push hs hx rfl rfl
     ·rename_i h2; simp only [if_neg h2]; obtain rfl := Option.some.inj hx; exact .same hs rfl
    ·cases hx
  ·cases hx
 ·cases hx
theorem exact_sound {rs : Nat → Env × Loop} {h : CH} {σ : Heap} (hs : CSim rs h σ) {o : XOp} {ev : Operand → Value} {p : Value × CH} (hx : exact' o ev h = some p) : ESnd rs h σ (xact o ev σ) p := by
 cases o
 case eqAgg neg s x y =>
  simp only [exact'] at hx
  simp only [xact]
  split at hx
  ·rename_i a b ha hb
   split at hx
   ·rename_i hc; rw [ha, hb]; simp only; rw [if_pos hc]; obtain rfl := Option.some.inj hx; exact .same hs rfl
   ·cases hx
  ·cases hx
 case eqNil kd neg x y =>
  simp only [exact'] at hx
  simp only [xact]
  split at hx
  ·rename_i b hb; rw [esame_sound hs hb]; obtain rfl := Option.some.inj hx; exact .same hs rfl
  ·cases hx
 case makeMap =>
  simp only [exact'] at hx
  simp only [xact]
  rw [hs.n] at hx; exact .push hs hx rfl rfl
 case lookup mk z ok x i =>
  simp only [exact'] at hx
  simp only [xact]
  generalize ev x = q0 at hx ⊢
  generalize ev i = q1 at hx ⊢
  split at hx
  ·rename_i hk; simp only [if_pos hk]
   split at hx
   ·obtain rfl := Option.some.inj hx; exact .same hs rfl
   ·rename_i m hm
    split at hx
    ·rename_i es cl wr hma
     obtain ⟨k1, k2⟩ := hs.mapAt hma
     simp only [k1]
     split at hx
     ·rename_i hall; simp only [if_pos hall]
      split at hx
      ·rename_i e hf; simp only [hf]; obtain rfl := Option.some.inj hx; exact .same hs rfl
      ·rename_i hf; simp only [hf]; obtain rfl := Option.some.inj hx; exact .same hs rfl
     ·cases hx
    ·cases hx
   ·cases hx
  ·cases hx
 case mapUpdate mk m k v =>
  simp only [exact'] at hx
  simp only [xact]
  generalize ev m = q0 at hx ⊢
  split at hx
  ·rename_i i hi
   split at hx
   ·rename_i es cl hma
    obtain ⟨k1, k2⟩ := hs.mapAt hma
    simp only [k1]
    split at hx
    ·rename_i hc; simp only [if_pos hc]; obtain rfl := Option.some.inj hx; exact .upd hs k2 rfl rfl
    ·cases hx
   ·cases hx
  ·cases hx
 case delete => cases hx
 case lenMap x =>
  simp only [exact'] at hx
  simp only [xact]
  generalize ev x = q0 at hx ⊢
  split at hx
  ·obtain rfl := Option.some.inj hx; exact .same hs rfl
  ·split at hx
   ·rename_i es cl wr hma
    obtain ⟨k1, k2⟩ := hs.mapAt hma
    simp only [k1]
    obtain rfl := Option.some.inj hx; exact .same hs rfl
   ·cases hx
  ·cases hx
 case rangeMap x =>
  simp only [exact'] at hx
  simp only [xact]
  generalize ev x = q0 at hx ⊢
  split at hx
  ·split at hx
   ·rename_i es cl wr hma
    obtain ⟨k1, k2⟩ := hs.mapAt hma
    simp only [k1]
    rw [hs.n] at hx; exact .push hs hx rfl rfl
   ·cases hx
  ·cases hx
 case nextMap => cases hx
 case entry x =>
  simp only [exact'] at hx
  simp only [xact]
  generalize ev x = q0 at hx ⊢
  split at hx
  ·split at hx
   ·rename_i m since seen last hg
    simp only [hs.iter hg]
    split at hx
    ·rename_i es clock wr b hma hlast
     obtain ⟨k1, _⟩ := hs.mapAt hma
     simp only [k1, hlast]
     split at hx
     ·rename_i hc; rw [if_pos hc]
      split at hx
      ·rename_i e hf
       split at hx
       ·rename_i hp; rw [hf]; simp only [hp, if_true]; obtain rfl := Option.some.inj hx; exact .same hs rfl
       ·cases hx
      ·cases hx
     ·cases hx
    ·cases hx
   ·cases hx
  ·cases hx
 case copy size d s =>
  simp only [exact'] at hx
  simp only [xact]
  generalize ev d = q0 at hx ⊢
  generalize ev s = q1 at hx ⊢
  split at hx
  ·rename_i db dn dc sb sn sc h1 h2
   split at hx
   ·rename_i hm; simp only [if_pos hm]; obtain rfl := Option.some.inj hx; exact .same hs rfl
   ·rename_i hm; simp only [if_neg hm]
    split at hx
    ·rename_i i o xs hxs
     simp only [hs.sl hxs]
     split at hx
     ·rename_i c e wr tight hg
      simp only [hs.cells hg]
      split at hx
      ·rename_i hc; simp only [if_pos hc]; obtain rfl := Option.some.inj hx; exact .upd hs hg rfl rfl
      ·cases hx
     ·cases hx
    ·cases hx
  ·cases hx
 case toUnsafe x =>
  simp only [exact'] at hx
  simp only [xact]
  generalize ev x = q0 at hx ⊢
  split at hx
  ·obtain rfl := Option.some.inj hx; exact .same hs rfl
  ·split at hx
   ·rename_i c e wr tight hg
    simp only [hs.cells hg]
    split at hx
    ·rename_i hc; simp only [if_pos hc]; obtain rfl := Option.some.inj hx; exact .same hs rfl
    ·cases hx
   ·cases hx
  ·cases hx
 case fromUnsafe u size x =>
  simp only [exact'] at hx
  simp only [xact]
  generalize ev x = q0 at hx ⊢
  split at hx
  ·obtain rfl := Option.some.inj hx; exact .same hs rfl
  ·split at hx
   ·rename_i c e hg
    simp only [hs.cells hg]
    split at hx
    ·rename_i hc; simp only [if_pos hc]; obtain rfl := Option.some.inj hx; exact .same hs rfl
    ·cases hx
   ·cases hx
  ·cases hx
 case sliceData x =>
  simp only [exact'] at hx
  simp only [xact]
  generalize ev x = q0 at hx ⊢
  split at hx
  ·obtain rfl := Option.some.inj hx; exact .same hs rfl
  ·rename_i i o n cap
   split at hx
   ·rename_i hc
    simp only [if_pos (show cap ≠ 0 ∧ (σ.get i).isSome = true from ⟨hc.1, by rw [hs.get]; simpa using hc.2⟩)]
    obtain rfl := Option.some.inj hx; exact .same hs rfl
   ·cases hx
  ·cases hx
 case unsafeStr e x n =>
  simp only [exact'] at hx
  simp only [xact]
  generalize ev x = q0 at hx ⊢
  generalize ev n = q1 at hx ⊢
  split at hx
  ·rename_i q k h1 h2
   split at hx
   ·rename_i hk; simp only [if_pos hk]; obtain rfl := Option.some.inj hx; exact .same hs rfl
   ·rename_i hk; simp only [if_neg hk]
    split at hx
    ·rename_i i o
     split at hx
     ·rename_i c el tight hg
      simp only [hs.cells hg]
      split at hx
      ·rename_i hc; simp only [if_pos hc]
       split at hx
       ·rename_i u hu; simp only [hu]; obtain rfl := Option.some.inj hx; exact .upd hs hg rfl rfl
       ·cases hx
      ·cases hx
     ·cases hx
    ·cases hx
  ·cases hx
 case bytesStr x =>
  simp only [exact'] at hx
  simp only [xact]
  generalize ev x = q0 at hx ⊢
  split at hx
  ·split at hx
   ·rename_i xs hxs
    simp only [hs.sl hxs]
    split at hx
    ·rename_i u hu; simp only [hu]; obtain rfl := Option.some.inj hx; exact .same hs rfl
    ·cases hx
   ·cases hx
  ·cases hx
theorem eact_pure {rs : Nat → Env × Loop} {h : CH} {σ : Heap} (hs : CSim rs h σ) {o : VOp} {ev : Operand → Value} {p : Value × CH}
  (hx : (if o.kind = 0 then (match vact o ev Heap.empty with | some p => some (p.1, h) | none => none) else none) = some p) : ESnd rs h σ (vact o ev σ) p := by
 split at hx
 ·rename_i hk
  split at hx
  ·rename_i q hq
   obtain rfl := Option.some.inj hx
   exact .same hs (vact_pure hk (v := q.1) (σ1 := q.2) hq)
  ·cases hx
 ·cases hx
theorem eact_sound {rs : Nat → Env × Loop} {h : CH} {σ : Heap} (hs : CSim rs h σ) {o : VOp} {ev : Operand → Value} {p : Value × CH} (hx : eact o ev h = some p) : ESnd rs h σ (vact o ev σ) p := by
 cases o
 case alloc t z =>
  simp only [eact] at hx
  simp only [vact]
  rw [hs.n] at hx; exact .push hs hx rfl rfl
 case box t x =>
  simp only [eact] at hx
  simp only [vact]
  generalize vcells (ev x) = q0 at hx ⊢
  split at hx
  ·rw [hs.n] at hx; exact .push hs hx rfl rfl
  ·cases hx
 case buildSlice esz z len parts =>
  simp only [eact] at hx
  simp only [vact]
  generalize fillL (repl len z) (parts.map fun p => (p.1 * esz.sz, esz.sz, ev p.2)) = q0 at hx ⊢
  split at hx
  ·rw [hs.n] at hx; exact .push hs hx rfl rfl
  ·cases hx
 case load agg size a =>
  simp only [eact] at hx
  simp only [vact]
  generalize ev a = q0 at hx ⊢
  split at hx
  ·split at hx
   ·rename_i c e wr tight hg
    simp only [hs.cells hg]
    split at hx
    ·rename_i u hu; simp only [hu]; obtain rfl := Option.some.inj hx; exact .same hs rfl
    ·cases hx
   ·cases hx
  ·cases hx
 case store size a v =>
  simp only [eact] at hx
  simp only [vact]
  generalize vcells (ev v) = q0 at hx ⊢
  generalize ev a = q1 at hx ⊢
  split at hx
  ·rename_i i o vs h1 h2
   split at hx
   ·rename_i c e wr tight hg
    simp only [hs.cells hg]
    split at hx
    ·rename_i hc; simp only [if_pos hc]; obtain rfl := Option.some.inj hx; exact .upd hs hg rfl rfl
    ·cases hx
   ·cases hx
  ·cases hx
 case slice size x lo hi mx =>
  simp only [eact] at hx
  simp only [vact]
  generalize ev x = q0 at hx ⊢
  split at hx
  ·rename_i a n cap
   dsimp only
   generalize vbound ev lo 0 = q1 at hx ⊢
   generalize vbound ev hi n = q2 at hx ⊢
   split at hx
   ·exact eslice_sound hs hx
   ·rename_i l k m
    dsimp only
    generalize vbound ev (some m) 0 = q3 at hx ⊢
    split at hx
    ·exact eslice_sound hs hx
    ·cases hx
   ·cases hx
  ·cases hx
 case makeSlice esz bytes z l c =>
  simp only [eact] at hx
  simp only [vact]
  generalize ev l = q0 at hx ⊢
  generalize ev c = q1 at hx ⊢
  split at hx
  ·split at hx
   ·rename_i hc; simp only [if_pos hc]; rw [hs.n] at hx; exact .push hs hx rfl rfl
   ·cases hx
  ·cases hx
 case append esz bytes s x =>
  simp only [eact] at hx
  simp only [vact]
  generalize ev x = q0 at hx ⊢
  split at hx
  ·rename_i hxs
   simp only [hs.sl hxs]
   split at hx
   ·rename_i hc; simp only [if_pos hc]; exact eappend_sound hs hx
   ·cases hx
  ·cases hx
 case ext o => exact exact_sound hs hx
 all_goals exact eact_pure hs hx
def wrapF (k : IntKind) (n : Int) : Int := match n with
 | .ofNat x => match Nat.ble x 127 with
  | true => .ofNat x
  | false => k.wrap (.ofNat x)
 | .negSucc x => k.wrap (.negSucc x)
theorem wrapF_eq (k : IntKind) (n : Int) : wrapF k n = k.wrap n := by
 cases n with
 | negSucc x => rfl
 | ofNat x =>
  simp only [wrapF]
  split
  ·rename_i h
   have hx : x ≤ 127 := Nat.le_of_ble_eq_true h
   show (x : Int) = k.wrap (x : Int)
   cases k <;> simp [IntKind.wrap, IntKind.bits, IntKind.signed] <;> omega
  ·rfl
def pPick (c a b : Value) : Option Value := match c with | .bool t => some (if t then a else b) | _ => none
def pArith (op : BinOp) (x y : Value) : Option Value := match x, y with | .int k a, .int k' b => if k = k' then some (.int k (match op with | .add => wrapF k (a + b) | .sub => wrapF k (a - b) | _ => wrapF k (a * b))) else none | _, _ => none
def pDiv (op : BinOp) (x y : Value) : Option Value := match x, y with | .int k a, .int k' b => if k = k' ∧ b ≠ 0 then some (.int k (vdiv op k a b)) else none | _, _ => none
def pBits (op : BinOp) (x y : Value) : Option Value := match x, y with | .int k a, .int k' b => if k = k' then some (.int k (vbits op k a b)) else none | _, _ => none
def pShift (op : BinOp) (x y : Value) : Option Value := match x, y with | .int k a, .int _ b => if 0 ≤ b then some (.int k (vshift op k a b)) else none | _, _ => none
def pCmp (op : BinOp) (x y : Value) : Option Value := match x, y with | .int k a, .int k' b => if k = k' then some (.bool (vcmp op a b)) else none | _, _ => none
def pStr (op : BinOp) (x y : Value) : Option Value := match x, y with
  | .string a, .string b => match op with
   | .add => if a.size + b.size ≤ 2 ^ 62 then some (.string (a ++ b)) else none
   | .eql => some (.bool (a.data.toList == b.data.toList))
   | .neq => some (.bool (!(a.data.toList == b.data.toList)))
   | .lss => some (.bool (Op.bytesLess a.data.toList b.data.toList))
   | _ => none
  | _, _ => none
def pEqB (neg : Bool) (x y : Value) : Option Value := match x, y with | .bool a, .bool b => some (.bool (if neg then !(a == b) else (a == b))) | _, _ => none
def pUn (op : UnOp) (x : Value) : Option Value := match op, x with
  | .not, .bool b => some (.bool (!b))
  | .neg, .int k n => some (.int k (k.wrap (0 - n)))
  | .xor, .int k n => some (.int k (vbits .xor k (if k.signed then -1 else k.max) n))
  | _, _ => none
def pConvI (k : IntKind) (x : Value) : Option Value := match x with | .int _ n => some (.int k (wrapF k n)) | _ => none
def pConvS (x : Value) : Option Value := match x with | .string s => some (.string s) | _ => none
def pBuild (z : List Value) (l : List (Nat × Nat × Value)) : Option Value := match fillL z l with | some cs => some (.agg cs.toArray) | none => none
def pFieldAddr (off : Nat) (a : Value) : Option Value := match a with
  | .pointer (some ⟨i, o, none⟩) => some (.pointer (some ⟨i, o + off, none⟩))
  | _ => none
def pField (agg : Bool) (off size : Nat) (x : Value) : Option Value := match x with
  | .agg cs => vpart agg size cs.toList off
  | _ => none
def pIndexAddr (size : Nat) (x i : Value) : Option Value := match x, i with
  | .slice (some ⟨b, o, none⟩) n _, .int _ k => if 0 ≤ k ∧ k < n then some (.pointer (some ⟨b, o + k.toNat * size, none⟩)) else none
  | _, _ => none
def pIndexAddrArr (len size : Nat) (x i : Value) : Option Value := match x, i with
  | .pointer (some ⟨b, o, none⟩), .int _ k => if 0 ≤ k ∧ k < len then some (.pointer (some ⟨b, o + k.toNat * size, none⟩)) else none
  | _, _ => none
def pIndexStr (x i : Value) : Option Value := match x, i with
  | .string s, .int _ k => if 0 ≤ k then (match s.data.toList[k.toNat]? with | some b => some (.int .u8 b.toNat) | none => none) else none
  | _, _ => none
def pIndexArr (len : Nat) (agg : Bool) (size : Nat) (x i : Value) : Option Value := match x, i with
  | .agg cs, .int _ k => if 0 ≤ k ∧ k < len then vpart agg size cs.toList (k.toNat * size) else none
  | _, _ => none
def pSliceStr (ev : Operand → Value) (x : Value) (lo hi : Option Operand) : Option Value := match x with
  | .string s =>
   match vbound ev lo 0, vbound ev hi s.size with
   | some l, some h => if l ≤ h ∧ h ≤ s.size then some (.string (s.extract l h)) else none
   | _, _ => none
  | _ => none
def pLen (x : Value) : Option Value := match x with | .slice _ n _ => some (.int .i64 n) | _ => none
def pLenStr (x : Value) : Option Value := match x with | .string s => some (.int .i64 s.size) | _ => none
def pMax (x y : Value) : Option Value := match x, y with | .int k a, .int k' b => if k = k' then some (.int k (if b > a then b else a)) else none | _, _ => none
def pMin (x y : Value) : Option Value := match x, y with | .int k a, .int k' b => if k = k' then some (.int k (if b < a then b else a)) else none | _, _ => none
def pIface (t : TypeId) (x : Value) : Option Value := match x with | .chan _ => none | v => some (.iface t v)
def pExtract (i : Nat) (x : Value) : Option Value := match x with
  | .tuple vs => vs.toList[i]?
  | _ => none
def pNilCheck (x : Value) : Option Value := match x with
  | .pointer (some a) => some (.pointer (some a))
  | .func (.func f) first cap => some (.func (.func f) first cap)
  | _ => none
def ppp (r : Option Value) (σ : CH) : Option (Value × CH) := match r with | some v => some (v, σ) | none => none
noncomputable def eBox (t : Nat) (x : Value) (σ : CH) : Option (Value × CH) := match vcells x with
  | some vs => epush σ (.cells vs ⟨vs.length, t⟩ true true) (.pointer (some ⟨σ.n, 0, none⟩))
  | none => none
noncomputable def eBuildSlice (esz : El) (z : List Value) (len : Nat) (l : List (Nat × Nat × Value)) (σ : CH) : Option (Value × CH) := match fillL (repl len z) l with
  | some cs => epush σ (.cells cs esz true true) (.slice (some ⟨σ.n, 0, none⟩) len len)
  | none => none
noncomputable def eLoad (agg : Bool) (size : Nat) (a : Value) (σ : CH) : Option (Value × CH) := match a with
  | .pointer (some ⟨i, o, none⟩) => match σ.get i with
   | some (.cells c _ _ _) => match vpart agg size c o with | some v => some (v, σ) | none => none
   | _ => none
  | _ => none
def stL (c : List Value) (o : Nat) (vs : List Value) : List Value := match vs with
 | [v] => c.set o v
 | vs => c.take o ++ (vs ++ c.drop (o + vs.length))
theorem setL_app : ∀ (vs a b c : List Value), vs.length = b.length → setL (a ++ (b ++ c)) a.length vs = a ++ (vs ++ c)
 | [], a, b, c, h => by
  have : b = [] := List.eq_nil_of_length_eq_zero (by simpa using h.symm)
  subst this; rfl
 | v :: vs, a, [], c, h => by simp at h
 | v :: vs, a, x :: b, c, h => by
  simp only [setL]
  have e : (a ++ (x :: b ++ c)).set a.length v = (a ++ [v]) ++ (b ++ c) := by simp
  rw [e]
  have := setL_app vs (a ++ [v]) b c (by simpa using h)
  rw [List.length_append, List.length_singleton] at this
  rw [this]; simp
theorem stL_eq {c : List Value} {o : Nat} {vs : List Value} (h : o + vs.length ≤ c.length) : stL c o vs = setL c o vs := by
 unfold stL
 split
 ·rfl
 ·have h1 : c = c.take o ++ ((c.drop o).take vs.length ++ c.drop (o + vs.length)) := by
   rw [← List.drop_drop, List.take_append_drop, List.take_append_drop]
  have h2 : (c.take o).length = o := by simp; omega
  have := setL_app vs (c.take o) ((c.drop o).take vs.length) (c.drop (o + vs.length)) (by simp; omega)
  rw [h2, ← h1] at this
  exact this.symm
noncomputable def eStore (size : Nat) (a v : Value) (σ : CH) : Option (Value × CH) := match a, vcells v with
  | .pointer (some ⟨i, o, none⟩), some vs => match σ.get i with
   | some (.cells c e wr tight) => if wr = true ∧ vs.length = size ∧ o + size ≤ c.length ∧ vs.all cellOk = true then some (undef, σ.upd i (.cells (stL c o vs) e wr tight)) else none
   | _ => none
  | _, _ => none
noncomputable def eMakeSlice (esz : El) (bytes : Nat) (z : List Value) (l c : Value) (σ : CH) : Option (Value × CH) :=
  match l, c with
  | .int _ a, .int _ b => if 0 ≤ a ∧ a ≤ b ∧ b * bytes ≤ 2 ^ 46 ∧ b ≤ 2 ^ 46 then epush σ (.cells (repl b.toNat z) esz true true) (.slice (some ⟨σ.n, 0, none⟩) a.toNat b.toNat) else none
  | _, _ => none
noncomputable def eApp (esz : El) (bytes : Nat) (s x : Value) (σ : CH) : Option (Value × CH) :=
  match σ.sl esz.sz x, x with
  | some xs, .slice _ m _ => if xs.all cellOk then eappend esz bytes σ s m xs else none
  | _, _ => none
noncomputable def eactF (o : VOp) (ev : Operand → Value) (σ : CH) : Option (Value × CH) :=
 match o with
 | .move x => some (ev x, σ)
 | .pick c a b => ppp (pPick (ev c) (ev a) (ev b)) σ
 | .arith op x y => ppp (pArith op (ev x) (ev y)) σ
 | .div op x y => ppp (pDiv op (ev x) (ev y)) σ
 | .bits op x y => ppp (pBits op (ev x) (ev y)) σ
 | .shift op x y => ppp (pShift op (ev x) (ev y)) σ
 | .cmp op x y => ppp (pCmp op (ev x) (ev y)) σ
 | .str op x y => ppp (pStr op (ev x) (ev y)) σ
 | .eqB n x y => ppp (pEqB n (ev x) (ev y)) σ
 | .un op x => ppp (pUn op (ev x)) σ
 | .convI k x => ppp (pConvI k (ev x)) σ
 | .convS x => ppp (pConvS (ev x)) σ
 | .build z parts => ppp (pBuild z (parts.map fun p => (p.1, p.2.1, ev p.2.2))) σ
 | .fieldAddr off a => ppp (pFieldAddr off (ev a)) σ
 | .field agg off size x => ppp (pField agg off size (ev x)) σ
 | .indexAddr size x i => ppp (pIndexAddr size (ev x) (ev i)) σ
 | .indexAddrArr len size x i => ppp (pIndexAddrArr len size (ev x) (ev i)) σ
 | .indexStr x i => ppp (pIndexStr (ev x) (ev i)) σ
 | .indexArr len agg size x i => ppp (pIndexArr len agg size (ev x) (ev i)) σ
 | .sliceStr x lo hi => ppp (pSliceStr ev (ev x) lo hi) σ
 | .len x => ppp (pLen (ev x)) σ
 | .lenStr x => ppp (pLenStr (ev x)) σ
 | .max x y => ppp (pMax (ev x) (ev y)) σ
 | .min x y => ppp (pMin (ev x) (ev y)) σ
 | .makeFunc fn first cap => some (.func fn (first.map ev).toArray (cap.map ev).toArray, σ)
 | .iface t x => ppp (pIface t (ev x)) σ
 | .extract x i => ppp (pExtract i (ev x)) σ
 | .nilCheck x => ppp (pNilCheck (ev x)) σ
 | .alloc t z => epush σ (.cells z ⟨z.length, t⟩ true true) (.pointer (some ⟨σ.n, 0, none⟩))
 | .box t x => eBox t (ev x) σ
 | .buildSlice esz z len parts => eBuildSlice esz z len (parts.map fun p => (p.1 * esz.sz, esz.sz, ev p.2)) σ
 | .load agg size a => eLoad agg size (ev a) σ
 | .store size a v => eStore size (ev a) (ev v) σ
 | .slice size x lo hi mx => eact (.slice size x lo hi mx) ev σ
 | .makeSlice esz bytes z l c => eMakeSlice esz bytes z (ev l) (ev c) σ
 | .append esz bytes s x => eApp esz bytes (ev s) (ev x) σ
 | .ext o => exact' o ev σ
 | _ => none
theorem ppp_sound {rs : Nat → Env × Loop} {h : CH} {σ : Heap} (hs : CSim rs h σ) {r : Option Value} {r' : Option (Value × Heap)} {p : Value × CH} (hr : ∀ v, r = some v → r' = some (v, σ)) (hx : ppp r h = some p) : ESnd rs h σ r' p := by
 unfold ppp at hx
 split at hx
 ·rename_i v
  obtain rfl := Option.some.inj hx
  exact .same hs (hr v rfl)
 ·cases hx
theorem eactF_sound {rs : Nat → Env × Loop} {h : CH} {σ : Heap} (hs : CSim rs h σ) {o : VOp} {ev : Operand → Value} {p : Value × CH} (hx : eactF o ev h = some p) : ESnd rs h σ (vact o ev σ) p := by
 cases o
 case move x => exact .same hs (by obtain rfl := Option.some.inj hx; rfl) |> fun (h : ESnd rs _ σ (vact (.move x) ev σ) (ev x, _)) => by obtain rfl := Option.some.inj hx; exact h
 case makeFunc fn a b => obtain rfl := Option.some.inj hx; exact .same hs rfl
 case alloc t z => exact eact_sound (o := .alloc t z) hs hx
 case box t x => exact eact_sound (o := .box t x) hs hx
 case buildSlice a b c d => exact eact_sound (o := .buildSlice a b c d) hs hx
 case load a b c => exact eact_sound (o := .load a b c) hs hx
 case store size a v =>
  simp only [eactF] at hx
  simp only [vact]
  unfold eStore at hx
  generalize vcells (ev v) = q0 at hx ⊢
  generalize ev a = q1 at hx ⊢
  split at hx
  ·rename_i i o vs
   split at hx
   ·rename_i c e wr tight hg
    simp only [hs.cells hg]
    split at hx
    ·rename_i hc
     simp only [if_pos hc]
     rw [stL_eq (by omega)] at hx
     obtain rfl := Option.some.inj hx; exact .upd hs hg rfl rfl
    ·cases hx
   ·cases hx
  ·cases hx
 case slice a b c d e => exact eact_sound (o := .slice a b c d e) hs hx
 case makeSlice a b c d e => exact eact_sound (o := .makeSlice a b c d e) hs hx
 case append a b c d => exact eact_sound (o := .append a b c d) hs hx
 case ext o => exact exact_sound hs hx
 case callF => cases hx
 case callV => cases hx
 case bad => cases hx
 all_goals refine ppp_sound hs (fun v hv => ?_) hx
 case arith op x y =>
  simp only [vact]
  generalize ev x = a at hv ⊢
  generalize ev y = b at hv ⊢
  unfold pArith at hv
  split at hv
  ·split at hv
   ·rename_i hk
    simp only [if_pos hk]
    obtain rfl := Option.some.inj hv
    cases op <;> simp only [varith, wrapF_eq]
   ·cases hv
  ·cases hv
 case convI k x =>
  simp only [vact]
  generalize ev x = a at hv ⊢
  unfold pConvI at hv
  split at hv
  ·obtain rfl := Option.some.inj hv; simp only [wrapF_eq]
  ·cases hv
 case pick c a b =>
  simp only [vact]
  generalize ev c = q0 at hv ⊢
  generalize ev a = q1 at hv ⊢
  generalize ev b = q2 at hv ⊢
  unfold pPick at hv
  (repeat' split at hv) <;> first | (cases hv; done) | (obtain rfl := Option.some.inj hv; first | rfl | (simp_all; done) | (simp_all; intros; omega))
 case div op x y =>
  simp only [vact]
  generalize ev x = q0 at hv ⊢
  generalize ev y = q1 at hv ⊢
  unfold pDiv at hv
  (repeat' split at hv) <;> first | (cases hv; done) | (obtain rfl := Option.some.inj hv; first | rfl | (simp_all; done) | (simp_all; intros; omega))
 case bits op x y =>
  simp only [vact]
  generalize ev x = q0 at hv ⊢
  generalize ev y = q1 at hv ⊢
  unfold pBits at hv
  (repeat' split at hv) <;> first | (cases hv; done) | (obtain rfl := Option.some.inj hv; first | rfl | (simp_all; done) | (simp_all; intros; omega))
 case shift op x y =>
  simp only [vact]
  generalize ev x = q0 at hv ⊢
  generalize ev y = q1 at hv ⊢
  unfold pShift at hv
  (repeat' split at hv) <;> first | (cases hv; done) | (obtain rfl := Option.some.inj hv; first | rfl | (simp_all; done) | (simp_all; intros; omega))
 case cmp op x y =>
  simp only [vact]
  generalize ev x = q0 at hv ⊢
  generalize ev y = q1 at hv ⊢
  unfold pCmp at hv
  (repeat' split at hv) <;> first | (cases hv; done) | (obtain rfl := Option.some.inj hv; first | rfl | (simp_all; done) | (simp_all; intros; omega))
 case eqB n x y =>
  simp only [vact]
  generalize ev x = q0 at hv ⊢
  generalize ev y = q1 at hv ⊢
  unfold pEqB at hv
  (repeat' split at hv) <;> first | (cases hv; done) | (obtain rfl := Option.some.inj hv; first | rfl | (simp_all; done) | (simp_all; intros; omega))
 case un op x =>
  simp only [vact]
  generalize ev x = q0 at hv ⊢
  unfold pUn at hv
  (repeat' split at hv) <;> first | (cases hv; done) | (obtain rfl := Option.some.inj hv; first | rfl | (simp_all; done) | (simp_all; intros; omega))
 case convS x =>
  simp only [vact]
  generalize ev x = q0 at hv ⊢
  unfold pConvS at hv
  (repeat' split at hv) <;> first | (cases hv; done) | (obtain rfl := Option.some.inj hv; first | rfl | (simp_all; done) | (simp_all; intros; omega))
 case fieldAddr off a =>
  simp only [vact]
  generalize ev a = q0 at hv ⊢
  unfold pFieldAddr at hv
  (repeat' split at hv) <;> first | (cases hv; done) | (obtain rfl := Option.some.inj hv; first | rfl | (simp_all; done) | (simp_all; intros; omega))
 case indexAddr size x i =>
  simp only [vact]
  generalize ev x = q0 at hv ⊢
  generalize ev i = q1 at hv ⊢
  unfold pIndexAddr at hv
  (repeat' split at hv) <;> first | (cases hv; done) | (obtain rfl := Option.some.inj hv; first | rfl | (simp_all; done) | (simp_all; intros; omega))
 case indexAddrArr len size x i =>
  simp only [vact]
  generalize ev x = q0 at hv ⊢
  generalize ev i = q1 at hv ⊢
  unfold pIndexAddrArr at hv
  (repeat' split at hv) <;> first | (cases hv; done) | (obtain rfl := Option.some.inj hv; first | rfl | (simp_all; done) | (simp_all; intros; omega))
 case len x =>
  simp only [vact]
  generalize ev x = q0 at hv ⊢
  unfold pLen at hv
  (repeat' split at hv) <;> first | (cases hv; done) | (obtain rfl := Option.some.inj hv; first | rfl | (simp_all; done) | (simp_all; intros; omega))
 case lenStr x =>
  simp only [vact]
  generalize ev x = q0 at hv ⊢
  unfold pLenStr at hv
  (repeat' split at hv) <;> first | (cases hv; done) | (obtain rfl := Option.some.inj hv; first | rfl | (simp_all; done) | (simp_all; intros; omega))
 case max x y =>
  simp only [vact]
  generalize ev x = q0 at hv ⊢
  generalize ev y = q1 at hv ⊢
  unfold pMax at hv
  (repeat' split at hv) <;> first | (cases hv; done) | (obtain rfl := Option.some.inj hv; first | rfl | (simp_all; done) | (simp_all; intros; omega))
 case min x y =>
  simp only [vact]
  generalize ev x = q0 at hv ⊢
  generalize ev y = q1 at hv ⊢
  unfold pMin at hv
  (repeat' split at hv) <;> first | (cases hv; done) | (obtain rfl := Option.some.inj hv; first | rfl | (simp_all; done) | (simp_all; intros; omega))
 case nilCheck x =>
  simp only [vact]
  generalize ev x = q0 at hv ⊢
  unfold pNilCheck at hv
  (repeat' split at hv) <;> first | (cases hv; done) | (obtain rfl := Option.some.inj hv; first | rfl | (simp_all; done) | (simp_all; intros; omega))
 case str op x y =>
  simp only [vact]
  generalize ev x = q0 at hv ⊢
  generalize ev y = q1 at hv ⊢
  unfold pStr at hv
  (repeat' split at hv) <;> first | (cases hv; done) | (obtain rfl := Option.some.inj hv; first | rfl | (simp_all; done) | (simp_all; intros; omega))
 case build z parts =>
  simp only [vact]
  unfold pBuild at hv
  split at hv
  ·rename_i cs hc
   rw [hc]; obtain rfl := Option.some.inj hv; rfl
  ·cases hv
 case field agg off size x =>
  simp only [vact]
  generalize ev x = q0 at hv ⊢
  unfold pField at hv
  split at hv
  ·dsimp only; rw [hv]
  ·cases hv
 case indexStr x i =>
  simp only [vact]
  generalize ev x = q0 at hv ⊢
  generalize ev i = q1 at hv ⊢
  unfold pIndexStr at hv
  split at hv
  ·split at hv
   ·rename_i hc
    simp only [if_pos hc]
    split at hv
    ·rename_i b hb; simp only [hb]; obtain rfl := Option.some.inj hv; rfl
    ·cases hv
   ·cases hv
  ·cases hv
 case indexArr len agg size x i =>
  simp only [vact]
  generalize ev x = q0 at hv ⊢
  generalize ev i = q1 at hv ⊢
  unfold pIndexArr at hv
  split at hv
  ·split at hv
   ·rename_i hc; simp only [if_pos hc, hv]
   ·cases hv
  ·cases hv
 case sliceStr x lo hi =>
  simp only [vact]
  generalize ev x = q0 at hv ⊢
  unfold pSliceStr at hv
  split at hv
  ·rename_i s
   split at hv
   ·rename_i l h h1 h2
    split at hv
    ·rename_i hc; simp only [h1, h2, if_pos hc]; obtain rfl := Option.some.inj hv; rfl
    ·cases hv
   ·cases hv
  ·cases hv
 case iface t x =>
  simp only [vact]
  generalize ev x = q0 at hv ⊢
  unfold pIface at hv
  split at hv
  ·cases hv
  ·rename_i hne
   obtain rfl := Option.some.inj hv
   split
   ·exact absurd rfl (hne _)
   ·rfl
 case extract x i =>
  simp only [vact]
  generalize ev x = q0 at hv ⊢
  unfold pExtract at hv
  split at hv
  ·dsimp only; rw [hv]
  ·cases hv
end Go.V
namespace Go.V
open Go
def lbeq {α : Type} (p : α → α → Bool) : List α → List α → Bool
 | [], [] => true
 | a :: l, b :: m => p a b && lbeq p l m
 | _, _ => false
theorem lbeq_eq {α : Type} {p : α → α → Bool} (hp : ∀ a b, p a b = true → a = b) : ∀ l m, lbeq p l m = true → l = m
 | [], [], _ => rfl
 | a :: l, b :: m, h => by
  simp only [lbeq, Bool.and_eq_true] at h
  rw [hp a b h.1, lbeq_eq hp l m h.2]
 | [], _ :: _, h => by cases h
 | _ :: _, [], h => by cases h
def vbeq : Nat → Value → Value → Bool
 | 0, _, _ => false
 | f + 1, a, b => match a, b with
  | .bool x, .bool y => x == y
  | .int k x, .int k' y => decide (k = k') && decide (x = y)
  | .string s, .string t => decide (s.data.toList = t.data.toList)
  | .pointer none, .pointer none => true
  | .pointer (some ⟨i, o, none⟩), .pointer (some ⟨j, q, none⟩) => Nat.beq i j && Nat.beq o q
  | .slice none l c, .slice none l' c' => Nat.beq l l' && Nat.beq c c'
  | .slice (some ⟨i, o, none⟩) l c, .slice (some ⟨j, q, none⟩) l' c' => Nat.beq i j && (Nat.beq o q && (Nat.beq l l' && Nat.beq c c'))
  | .map x, .map y => decide (x = y)
  | .chan none, .chan none => true
  | .nilFunc, .nilFunc => true
  | .nilIface, .nilIface => true
  | .func (.func g) fs cs, .func (.func g') fs' cs' => decide (g = g') && (lbeq (vbeq f) fs.toList fs'.toList && lbeq (vbeq f) cs.toList cs'.toList)
  | .iface t v, .iface t' v' => decide (t = t') && vbeq f v v'
  | .agg cs, .agg ds => lbeq (vbeq f) cs.toList ds.toList
  | .tuple cs, .tuple ds => lbeq (vbeq f) cs.toList ds.toList
  | _, _ => false
theorem arr_eq {α : Type} {a b : Array α} (h : a.toList = b.toList) : a = b := by
 cases a; cases b; simp at h; rw [h]
theorem vbeq_eq : ∀ (f : Nat) (a b : Value), vbeq f a b = true → a = b := by
 intro f
 induction f with
 | zero => intro a b h; cases h
 | succ f ih =>
  intro a b h
  unfold vbeq at h
  split at h <;> first
   | (cases h; done)
   | rfl
   | (simp at h; subst h; rfl)
   | (simp at h; obtain ⟨rfl, rfl⟩ := h; rfl)
   | (simp at h; obtain ⟨rfl, rfl, rfl, rfl⟩ := h; rfl)
   | skip
  ·rename_i s t
   have h := of_decide_eq_true h
   have := arr_eq h
   cases s; cases t; simp at this; rw [this]
  ·rename_i g fs cs g' fs' cs'
   simp only [Bool.and_eq_true, decide_eq_true_eq] at h
   obtain ⟨rfl, h1, h2⟩ := h
   rw [arr_eq (lbeq_eq ih _ _ h1), arr_eq (lbeq_eq ih _ _ h2)]
  ·rename_i t v t' v'
   simp only [Bool.and_eq_true, decide_eq_true_eq] at h
   obtain ⟨rfl, h1⟩ := h
   rw [ih _ _ h1]
  ·rw [arr_eq (lbeq_eq ih _ _ h)]
  ·rw [arr_eq (lbeq_eq ih _ _ h)]
def EB.beq : EB → EB → Bool
 | .cells c e w t, .cells c' e' w' t' => decide (e = e') && (w == w' && (t == t' && lbeq (vbeq 20) c c'))
 | .map es cl w, .map es' cl' w' => Nat.beq cl cl' && (w == w' && lbeq (fun a b => vbeq 20 a.1 b.1 && (vbeq 20 a.2.1 b.2.1 && Nat.beq a.2.2 b.2.2)) es es')
 | .iter m s sn l, .iter m' s' sn' l' => Nat.beq m m' && (Nat.beq s s' && (Nat.beq l l' && decide (sn = sn')))
 | .lp .ready none, .lp .ready none => true
 | .lp .busy none, .lp .busy none => true
 | _, _ => false
theorem EB.beq_eq {a b : EB} (h : a.beq b = true) : a = b := by
 unfold EB.beq at h
 split at h <;> first
  | (cases h; done)
  | rfl
  | skip
 ·simp only [Bool.and_eq_true, decide_eq_true_eq, beq_iff_eq] at h
  obtain ⟨rfl, rfl, rfl, h⟩ := h
  rw [lbeq_eq (vbeq_eq 20) _ _ h]
 ·simp only [Bool.and_eq_true, beq_iff_eq, Nat.beq_eq] at h
  obtain ⟨rfl, rfl, h⟩ := h
  rw [lbeq_eq (fun a b h => by
   simp only [Bool.and_eq_true, Nat.beq_eq] at h
   obtain ⟨a1, a2, a3⟩ := a
   obtain ⟨b1, b2, b3⟩ := b
   obtain ⟨h1, h2, h3⟩ := h
   simp at h1 h2 h3
   rw [vbeq_eq _ _ _ h1, vbeq_eq _ _ _ h2, h3]) _ _ h]
 ·simp only [Bool.and_eq_true, decide_eq_true_eq, Nat.beq_eq] at h
  obtain ⟨rfl, rfl, rfl, rfl⟩ := h
  rfl
noncomputable def CH.newOk (h h' : CH) : Bool := Nat.ble h.n h'.n && (h'.room && (List.range' h.n (h'.n - h.n)).all fun i => match h'.get i with
 | some (.lp _ _) => false
 | _ => true)
structure AnsOps (A : Type) where
 fail : A
 both : A → A → A
structure Good {A : Type} (R : AnsOps A) (G : A → Prop) : Prop where
 fail : ¬ G R.fail
 both : ∀ a b, G (R.both a b) → G a ∧ G b
def boolOps : AnsOps Bool := ⟨false, and⟩
theorem boolGood : Good boolOps (· = true) := ⟨by simp [boolOps], fun a b h => by simpa [boolOps] using h⟩
noncomputable def oneOps : AnsOps (Option (Value × CH)) := ⟨none, fun _ _ => none⟩
theorem oneGood (x : Value × CH) : Good oneOps (· = some x) := ⟨by simp [oneOps], fun a b h => by simp [oneOps] at h⟩
noncomputable def CH.same (h h' : CH) : Bool := Nat.beq h.n h'.n && (List.range h.n).all fun i => match h.get i, h'.get i with
 | none, none => true
 | some a, some b => a.beq b
 | _, _ => false
def EB.plainE : EB → Bool
 | .cells c _ _ _ => c.all plainV
 | .map es _ _ => es.all fun kv => plainV kv.2.1
 | _ => false
noncomputable def CH.keepOk (h h' : CH) : Bool := Nat.ble h.n h'.n && (List.range h.n).all fun i => match h.get i, h'.get i with
 | none, none => true
 | some a, some b => b.plainE || a.beq b
 | _, _ => false
def gcI (n0 : Nat) (refs : List Nat) (i : Nat) : Nat × List Nat :=
 if i < n0 then (i, refs) else if refs.contains i = true then (n0 + refs.idxOf i, refs) else (n0 + refs.length, refs ++ [i])
def gcLs (g : List Nat → Value → Option (Value × List Nat)) : List Value → List Nat → Option (List Value × List Nat)
 | [], refs => some ([], refs)
 | v :: vs, refs => match g refs v with
  | none => none
  | some p => match gcLs g vs p.2 with
   | none => none
   | some q => some (p.1 :: q.1, q.2)
def gcX (n0 : Nat) : Nat → List Nat → Value → Option (Value × List Nat)
 | 0, _, _ => none
 | f + 1, refs, v => match v with
  | .pointer (some ⟨i, o, none⟩) => some (.pointer (some ⟨(gcI n0 refs i).1, o, none⟩), (gcI n0 refs i).2)
  | .slice (some ⟨i, o, none⟩) l c => some (.slice (some ⟨(gcI n0 refs i).1, o, none⟩) l c, (gcI n0 refs i).2)
  | .map (some i) => some (.map (some (gcI n0 refs i).1), (gcI n0 refs i).2)
  | .chan none => some (.chan none, refs)
  | .iface t u => match gcX n0 f refs u with
   | some p => some (.iface t p.1, p.2)
   | none => none
  | .agg cs => match gcLs (gcX n0 f) cs.toList refs with
   | some p => some (.agg p.1.toArray, p.2)
   | none => none
  | .tuple cs => match gcLs (gcX n0 f) cs.toList refs with
   | some p => some (.tuple p.1.toArray, p.2)
   | none => none
  | .func (.func g) fs cs => match gcLs (gcX n0 f) fs.toList refs with
   | some p => match gcLs (gcX n0 f) cs.toList p.2 with
    | some q => some (.func (.func g) p.1.toArray q.1.toArray, q.2)
    | none => none
   | none => none
  | v => if plainV v = true then some (v, refs) else none
def gcEs (n0 : Nat) : List MEnt → List Nat → Option (List MEnt × List Nat)
 | [], refs => some ([], refs)
 | e :: es, refs => match gcX n0 8 refs e.2.1 with
  | none => none
  | some p => match gcEs n0 es p.2 with
   | none => none
   | some q => some ((e.1, p.1, e.2.2) :: q.1, q.2)
def gcB (n0 : Nat) (refs : List Nat) : EB → Option (EB × List Nat)
 | .cells c e w t => match gcLs (gcX n0 8) c refs with
  | some p => some (.cells p.1 e w t, p.2)
  | none => none
 | .map es cl w => match gcEs n0 es refs with
  | some p => some (.map p.1 cl w, p.2)
  | none => none
 | _ => none
noncomputable def gcRun (h' : CH) (n0 : Nat) : Nat → Nat → List Nat → CH → Option (CH × List Nat)
 | 0, _, _, _ => none
 | f + 1, k, refs, acc => if refs.length ≤ k then (if k = refs.length then some (acc, refs) else none) else match h'.get (refs.getD k 0) with
  | none => none
  | some b => match gcB n0 refs b with
   | none => none
   | some p => if acc.room = true then gcRun h' n0 f (k + 1) p.2 (acc.push p.1) else none
noncomputable def gcHeap (h h' : CH) (refs : List Nat) : Option (CH × List Nat) :=
 if h.keepOk h' = true then gcRun h' h.n 100000 0 refs ⟨h'.t, h.n⟩ else none
noncomputable def gcDone (h h' : CH) (v : Value) : Option (Value × CH) := match gcX h.n 8 [] v with
 | none => none
 | some p => match gcHeap h h' p.2 with
  | none => none
  | some q => some (p.1, q.1)
noncomputable def joinOps : AnsOps (Option (Value × CH)) := ⟨none, fun a b => match a with
 | some x => match b with
  | some y => if vbeq 20 x.1 y.1 = true ∧ x.2.same y.2 = true then some x else none
  | none => none
 | none => none⟩
structure ET where
 t : GT Value
 m : Nat
noncomputable def ET.get (e : ET) (i : Nat) : Value := Bool.rec (motive := fun _ => Value) undef (e.t.get undef i) (Nat.blt i e.m)
noncomputable def ET.set (e : ET) (i : Nat) (v : Value) : ET := Bool.rec (motive := fun _ => ET) e ⟨e.t.set undef 32 i v, e.m⟩ (Nat.blt i e.m)
noncomputable def ET.put (e : ET) (d : Option Nat) (v : Value) : ET := Option.rec (motive := fun _ => ET) e (fun d => e.set d v) d
noncomputable def etL (l : List Value) : Nat → GT Value → GT Value := List.rec (motive := fun _ => Nat → GT Value → GT Value) (fun _ t => t) (fun v _ ih i t => ih (i + 1) (t.set undef 32 i v)) l
noncomputable def ET.of (args : List Value) (nt : Nat) : ET := ⟨etL args 0 .nil, args.length + (nt - args.length)⟩
noncomputable def evalE (e : ET) (x : Operand) : Value := Operand.rec (motive := fun _ => Value) (fun t => e.get t) (fun v => v) (fun _ => poison) (fun f => .func (.func f) #[] #[]) x
noncomputable def esetPs (e : ET) (ps : List Nat) : List Value → ET := List.rec (motive := fun _ => ET → List Value → ET) (fun e _ => e) (fun p _ ih e vs => List.rec (motive := fun _ => ET) e (fun v vs _ => ih (e.set p v) vs) vs) ps e
noncomputable def ewant (e : ET) (g : Option (Nat × Bool)) : Option Bool := match g with
 | none => some true
 | some (d, want) => match e.get d with
  | .bool b => some (b == want)
  | .tuple _ => some false
  | _ => none
noncomputable def ET.list (e : ET) : List Value := (List.range e.m).map e.get
noncomputable def gcEnv (h h' : CH) (e : ET) : Option (Value × CH) := gcDone h h' (.tuple e.list.toArray)
structure RCtx where
 ps : List Nat
 a : VCode
 b : VCode
 env : ET
abbrev Ys := List (Nat × RCtx)
def Ys.find : Ys → Nat → Option RCtx
 | [], _ => none
 | (j, c) :: l, i => if Nat.beq i j = true then some c else Ys.find l i
inductive FEnt where
 | code (vc : VCode) (rs : List VResult) (nt : Nat)
 | codeJ (vc : VCode) (rs : List VResult) (nt : Nat)
 | same
abbrev Tab := FuncId → Option FEnt
abbrev EvFn := ∀ {A : Type}, AnsOps A → Ys → VCode → Option Nat → ET → CH → (Exit → ET → CH → A) → A
noncomputable def eresult (env : ET) (σ : CH) : VResult → Option Value
 | .tmp t => some (env.get t)
 | .cell a agg size => match eLoad agg size (env.get a) σ with | some p => some p.1 | none => none
noncomputable def eresultL (env : ET) (σ : CH) : List VResult → Option (List Value)
 | [] => some []
 | r :: rs => match eresult env σ r with
  | none => none
  | some v => match eresultL env σ rs with
   | none => none
   | some vs => some (v :: vs)
noncomputable def eresults (env : ET) (σ : CH) (rs : List VResult) : Option Value :=
 match rs with
 | [r] => eresult env σ r
 | rs => match eresultL env σ rs with | some vs => some (.tuple vs.toArray) | none => none
section
variable (T : Tab) (ev : EvFn) {A : Type} (R : AnsOps A) (ys : Ys)
noncomputable def eend (fail : A) (rs : List VResult) (k : Value → CH → A) : Exit → ET → CH → A := fun e env h' => match e with
  | .normal => (match eresults env h' rs with | some v => k v h' | none => fail)
  | .ret => (match eresults env h' rs with | some v => k v h' | none => fail)
  | _ => fail
noncomputable def ecall (f : FuncId) (args : List Value) (h : CH) (k : Value → CH → A) : A :=
 match T f with
 | some (.code vc rs nt) => match Nat.ble (ET.of args nt).m 1000000 with
  | true => ev R ys vc none (ET.of args nt) h (eend R.fail rs k)
  | false => R.fail
 | some (.codeJ vc rs nt) => match Nat.ble (ET.of args nt).m 1000000 with
  | true => (match ev joinOps ys vc none (ET.of args nt) h (eend none rs fun v h' => gcDone h h' v) with
   | some x => if x.2.room = true ∧ Nat.ble h.n x.2.n = true then k x.1 x.2 else R.fail
   | none => R.fail)
  | false => R.fail
 | some .same => match args with
  | [v] => k v h
  | _ => R.fail
 | none => R.fail
noncomputable def eroundK (i : Nat) (k : Value → CH → A) : Exit → ET → CH → A := fun e _ h =>
 match h.get i with
 | some (.lp .busy none) => match e with
  | .normal => k (.bool true) (h.upd i (.lp .ready none))
  | .ret => k (.bool false) (h.upd i (.lp .done (some .ret)))
  | .exit id => k (.bool false) (h.upd i (.lp .done (some (.exit id))))
  | _ => R.fail
 | _ => R.fail
noncomputable def eround (c : RCtx) (i : Nat) (k : Value → CH → A) : Exit → ET → CH → A := fun e env1 h1 => match e with
 | .normal => (match h1.get i with
  | some (.lp .ready none) => ev R ys c.b (some i) env1 (h1.upd i (.lp .busy none)) (eroundK R i k)
  | _ => R.fail)
 | _ => R.fail
noncomputable def eyield (i : Nat) (args : List Value) (h : CH) (k : Value → CH → A) : A :=
 match ys.find i with
 | some c => match h.get i with
  | some (.lp .ready none) => if args.length = c.ps.length then ev R ys c.a (some i) (esetPs c.env c.ps args) h (eround ev R ys c i k) else R.fail
  | _ => R.fail
 | none => R.fail
noncomputable def enextC (i m since clock : Nat) (seen : List Nat) (h : CH) (k : Value → CH → A) : List MEnt → Option A
 | [] => none
 | e :: es => if seen.contains e.2.2 = true then enextC i m since clock seen h k es
  else match enextC i m since clock seen h k es with
   | none => some (k (.tuple #[.bool true, e.1, e.2.1]) (h.upd i (.iter m since (seen ++ [e.2.2]) clock)))
   | some a => some (R.both (k (.tuple #[.bool true, e.1, e.2.1]) (h.upd i (.iter m since (seen ++ [e.2.2]) clock))) a)
noncomputable def enext (x : Value) (h : CH) (k : Value → CH → A) : A :=
 match x with
 | .pointer (some ⟨i, 0, none⟩) => match h.get i with
  | some (.iter m since seen last) => match h.mapAt m with
   | some (es, clock, _) =>
    if (seen.isEmpty || es.isEmpty || es.any (fun e => decide (e.2.2 < last))) = true ∧ es.all (fun e => plainV e.1) = true then
     (match enextC R i m since clock seen h k es with
     | none => if es.all (fun e => seen.contains e.2.2 || decide (since ≤ e.2.2)) = true then k (.tuple #[.bool false]) h else R.fail
     | some a => if es.all (fun e => seen.contains e.2.2 || decide (since ≤ e.2.2)) = true then R.both (k (.tuple #[.bool false]) h) a else a)
    else R.fail
   | none => R.fail
  | _ => R.fail
 | _ => R.fail
noncomputable def ecallV (f : Value) (args : List Value) (h : CH) (k : Value → CH → A) : A := match f with
  | .func (.func g) first cap => ecall T ev R ys g (first.toList ++ args ++ cap.toList) h k
  | .func (.yield i) _ _ => eyield ev R ys i args h k
  | _ => R.fail
noncomputable def eother (r : Option (Value × CH)) (k : Value → CH → A) : A := match r with
  | some p => k p.1 p.2
  | none => R.fail
noncomputable def evop (o : VOp) (env : ET) (h : CH) (k : Value → CH → A) : A :=
 match o with
 | .callF f args => ecall T ev R ys f (args.map (evalE env)) h k
 | .callV f args => ecallV T ev R ys (evalE env f) (args.map (evalE env)) h k
 | .ext (.nextMap x) => enext R (evalE env x) h k
 | o => eother R (eactF o (evalE env) h) k
noncomputable def evops (l : List VOper) : ET → CH → (ET → CH → A) → A :=
 List.rec (motive := fun _ => ET → CH → (ET → CH → A) → A) (fun env h k => k env h)
  (fun o _ ih env h k => match ewant env o.guard with
   | none => R.fail
   | some true => evop T ev R ys o.op env h fun v h' => ih (env.put o.dst v) h' k
   | some false => ih (env.put o.dst undef) h k) l
noncomputable def ereads (op : VOp) (ev : Operand → Value) (v : Value) (h : CH) : Bool := match eactF op ev h with
 | some q => vbeq 20 q.1 v
 | none => false
def epend (r : Nat) (h : CH) : List (Nat × (CH → Bool)) → Bool
 | [] => true
 | c :: l => (!(Nat.ble r c.1) || c.2 h) && epend r h l
noncomputable def evopsD : List DOper → ET → List CH → CH → List (Nat × (CH → Bool)) → (ET → CH → A) → A
 | [], env, _, h, _, k => k env h
 | o :: rest, env, hs, h, pend, k => match ewant env o.guard with
  | none => R.fail
  | some true => if o.kind = 2 then
    (match evop T ev oneOps ys o.op env h (fun v h' => some (v, h')) with
    | some p => if h.newOk p.2 = true ∧ epend hs.length p.2 pend = true then evopsD rest (env.put o.dst p.1) (hs ++ [p.2]) p.2 pend k else R.fail
    | none => R.fail)
   else if o.kind = 1 then
    (match eactF o.op (evalE env) h with
    | some p => if (hs.drop o.kmin).all (ereads o.op (evalE env) p.1) = true then
      evopsD rest (env.put o.dst p.1) hs h (if hs.length ≤ o.kmax then (o.kmax, ereads o.op (evalE env) p.1) :: pend else pend) k else R.fail
    | none => R.fail)
   else match eactF o.op (evalE env) h with
    | some p => evopsD rest (env.put o.dst p.1) hs h pend k
    | none => R.fail
  | some false => if o.kind = 2 then
    (if epend hs.length h pend = true then evopsD rest (env.put o.dst undef) (hs ++ [h]) h pend k else R.fail)
   else evopsD rest (env.put o.dst undef) hs h pend k
noncomputable def evalt (env : ET) (h : CH) (a : List DOper) : Option (Value × CH) := evopsD T ev joinOps ys a env [h] h [] fun env h' => gcEnv h h' env
noncomputable def evalts (env : ET) (h : CH) : List (List DOper) → Option (Value × CH)
 | [] => none
 | [a] => evalt T ev ys env h a
 | a :: b :: r => joinOps.both (evalt T ev ys env h a) (evalts env h (b :: r))
noncomputable def evsegs : List DSeg → ET → CH → (ET → CH → A) → A
 | [], env, h, k => k env h
 | .one o :: rest, env, h, k => evops T ev R ys [o] env h fun env h => evsegs rest env h k
 | .alts [a] :: rest, env, h, k => evopsD T ev R ys a env [h] h [] fun env h => evsegs rest env h k
 | .alts l :: rest, env, h, k => match evalts T ev ys env h l with
  | some x => (match x.1 with
   | .tuple vs => if x.2.room = true ∧ Nat.ble h.n x.2.n = true ∧ vs.toList.length = env.m then evsegs rest (ET.of vs.toList 0) x.2 k else R.fail
   | _ => R.fail)
  | none => R.fail
noncomputable def inLpOk (h : CH) : Option Nat → Bool
 | none => true
 | some i => match h.get i with
  | some (.lp _ _) => true
  | _ => false
def notBusy : LoopState → Bool
 | .busy => false
 | _ => true
noncomputable def eendR (env : ET) (i : Nat) (k : Exit → ET → CH → A) : Value → CH → A := fun _ h =>
 match h.get i with
 | some (.lp st pend) => if notBusy st = true then (match pend with
   | none => k .normal env (h.kill i)
   | some .ret => k .ret env (h.kill i)
   | some (.exit id) => k (.exit id) env (h.kill i)
   | some _ => R.fail) else R.fail
 | _ => R.fail
noncomputable def eseqK (kb k : Exit → ET → CH → A) : Exit → ET → CH → A := fun e env h => match e with
 | .normal => kb .normal env h
 | e => k e env h
noncomputable def eblockK (id : Nat) (k : Exit → ET → CH → A) : Exit → ET → CH → A := fun e env h => match e with
 | .exit id' => if id' = id then k .normal env h else k (.exit id') env h
 | e => k e env h
noncomputable def econd (v : Value) (a b : A) : A := match v with
 | .bool true => a
 | .bool false => b
 | _ => R.fail
noncomputable def erange (g : Value) (ps : List Nat) (a b : VCode) (ro : Option Nat) (env : ET) (h : CH) (k : Exit → ET → CH → A) : A := match g with
 | .func (.func f) first cap => match T f with
  | some (.code _ _ _) => if inLpOk h ro = true ∧ h.room = true then
    ecall T ev R ((h.n, ⟨ps, a, b, env⟩) :: ys) f (first.toList ++ [.func (.yield h.n) #[] #[]] ++ cap.toList) (h.push (.lp .ready none)) (eendR R env h.n k)
   else R.fail
  | _ => R.fail
 | _ => R.fail
noncomputable def evCode (c : VCode) : Option Nat → ET → CH → (Exit → ET → CH → A) → A :=
 VCode.rec (motive := fun _ => Option Nat → ET → CH → (Exit → ET → CH → A) → A)
  (fun _ env h k => k .normal env h)
  (fun ops _ env h k => evops T ev R ys ops env h (k .normal))
  (fun segs _ env h k => evsegs T ev R ys segs env h (k .normal))
  (fun g ps a b _ _ ro env h k => erange T ev R ys (evalE env g) ps a b ro env h k)
  (fun _ _ iha ihb ro env h k => iha ro env h (eseqK (fun _ env' h' => ihb ro env' h' k) k))
  (fun c _ _ iha ihb ro env h k => econd R (evalE env c) (iha ro env h k) (ihb ro env h k))
  (fun id _ ih ro env h k => ih ro env h (eblockK id k))
  (fun b ih ro env h k => ih ro env h (eseqK (fun _ env' h' => ev R ys (.loop b) ro env' h' k) k))
  (fun id _ env h k => k (.exit id) env h)
  (fun _ env h k => k .ret env h)
  (fun _ _ _ _ => R.fail) c
end
noncomputable def veval (T : Tab) (n : Nat) : EvFn :=
 Nat.rec (motive := fun _ => EvFn) (fun R _ _ _ _ _ _ => R.fail) (fun _ ih {_} R ys c ro env h k => evCode T ih R ys c ro env h k) n
end Go.V