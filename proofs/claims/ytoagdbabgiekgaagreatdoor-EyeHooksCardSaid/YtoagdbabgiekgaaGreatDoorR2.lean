/- A framework for walks, contracts of functions, and their proofs: part 2. -/
import Derived.RangeFuncLeaves
import Derived.RangeFuncCalls
import Derived.OrdersIn
import Derived.TacticsIn
import Derived.Sort.LoopGhostIn
import Derived.Deep.LoopGhost
import Derived.Test.YtoagdbabgiekgaaGreatDoorR1
namespace Go.V
open Go
section
variable {P : Program} {S : VSpecs} {B : Nat}
def FF : Option Nat → Fence
 | none => Fence.wide
 | some l => Fence.wide.inRound l
theorem FF_fn (ro : Option Nat) (f : FuncId) : (FF ro).fn f := by cases ro <;> trivial
theorem FF_depth (ro : Option Nat) : (FF ro).depth = none := by cases ro <;> rfl
theorem FF_round (ro : Option Nat) : (FF ro).round = ro := by cases ro <;> rfl
theorem FF_calls {ro : Option Nat} {n : Nat} {f : FuncId} {args : Array Value} {w : World} {R : Ending → World → Prop} (h : Calls P f args w R) : CallsIn (FF ro) n P f args w R := by
 cases ro with
 | none => exact callsIn_wide.2 h
 | some l => exact CallsIn.inRound l (callsIn_wide.2 h)
theorem FF_round_of {ro : Option Nat} {n m : Nat} {l : Nat} {f : FuncId} {tmps : Array Value} {asg body : Code} {w : World} {R : Ending → World → Prop} (h : RoundIn Fence.wide m P l f tmps asg body w R) : RoundIn (FF ro) n P l f tmps asg body w R := by
 refine ⟨FF_fn _ _, fun c cs _ => ?_⟩
 obtain ⟨e, w', r, s⟩ := h.2 c cs (room_wide _)
 refine ⟨e, w', r, ?_⟩
 cases ro <;> exact s
def Got (ρ : Plc) (σ : Heap) (w : World) (R : Value → Heap → Prop) (c : Value) (w' : World) : Prop :=
 ∃ v ρ' σ', R v σ' ∧ VRel ρ' σ'.n v c ∧ HRel ρ' σ' w' ∧ Ext ρ σ w ρ' σ' w'
def VCallsTo (P : Program) (f : FuncId) (args : List Value) (σ : Heap) (R : Value → Heap → Prop) : Prop :=
 ∀ ρ w (cargs : Array Value), HRel ρ σ w → LRel ρ σ.n args cargs.toList → Calls P f cargs w fun e w' => ∃ c, e = .returned c ∧ Got ρ σ w R c w'
def VCalled (P : Program) (f : FuncId) (args : List Value) (σ : Heap) (R : Value → Heap → Prop) : Prop :=
 ∀ ρ w (cargs : Array Value), HRel ρ σ w → LRel ρ σ.n args cargs.toList →
  ((∀ w, (callFunc f cargs).run P w = .ok (.enter f cargs) w) ∧ Calls P f cargs w fun e w' => ∃ c, e = .returned c ∧ Got ρ σ w R c w') ∨
  (∃ c, Got ρ σ w R c w ∧ ∀ w', Like ρ w w' → (callFunc f cargs).run P w' = .ok (.value c) w')
def VYields (P : Program) (i : Nat) (args : List Value) (σ : Heap) (R : Value → Heap → Prop) : Prop :=
 ∀ ρ w (cargs : Array Value), HRel ρ σ w → LRel ρ σ.n args cargs.toList →
  ∃ p, ρ i = some p ∧ ∃ fn tmps asg body, (Instr.yield p.blk cargs).run P w = .ok (.round p.blk fn tmps asg body) w ∧
   RoundIn Fence.wide 0 P p.blk fn tmps asg body w fun e w' => ∃ c, e = .returned c ∧ Got ρ σ w R c w'
def Enterable (P : Program) (f : FuncId) : Prop := ∃ fn, P.funcs[f]? = some fn ∧ fn.body.isSome = true ∧ (fn.name == "runtime.NumGoroutine") = false
def OkSpec (P : Program) (f : FuncId) (s : VSpec) : Prop := ∀ args σ K, s args σ K → VCalled P f args σ K
def OkYield (P : Program) (i : Nat) (s : VSpec) : Prop := ∀ args σ K, s args σ K → VYields P i args σ K
def OkIter (P : Program) (f : FuncId) (T : Nat → VSpec → VSpec) : Prop := Enterable P f ∧ ∀ i Y, OkYield P i Y → ∀ args σ K, T i Y args σ K → VCallsTo P f args σ K
structure OkSpecs (P : Program) (S : VSpecs) : Prop where
 fn : ∀ f s, S.fn f = some s → OkSpec P f s
 yl : ∀ i s, S.yl i = some s → OkYield P i s
 it : ∀ f T, S.it f = some T → OkIter P f T
theorem run_callFunc {f : FuncId} (h : Enterable P f) (args : Array Value) (w : World) : (callFunc f args).run P w = .ok (.enter f args) w := by
 obtain ⟨fn, h1, h2, h3⟩ := h
 have h4 : ¬ fn.body = none := fun e => by rw [e] at h2; cases h2
 have h5 : ¬ fn.name = "runtime.NumGoroutine" := fun e => by rw [e] at h3; simp at h3
 simp [callFunc, h1, h4, h5]
theorem VCallsTo.called {f : FuncId} {args : List Value} {σ : Heap} {R : Value → Heap → Prop} (he : Enterable P f) (h : VCallsTo P f args σ R) : VCalled P f args σ R :=
 fun ρ w cargs hH hL => .inl ⟨fun w => run_callFunc he cargs w, h ρ w cargs hH hL⟩
theorem Got.mono {ρ : Plc} {σ : Heap} {w : World} {R R' : Value → Heap → Prop} {c : Value} {w' : World} (h : Got ρ σ w R c w') (hr : ∀ v σ', R v σ' → R' v σ') : Got ρ σ w R' c w' :=
 let ⟨v, ρ', σ', h1, h2⟩ := h; ⟨v, ρ', σ', hr _ _ h1, h2⟩
theorem VCallsTo.mono {f : FuncId} {args : List Value} {σ : Heap} {R R' : Value → Heap → Prop} (h : VCallsTo P f args σ R) (hr : ∀ v σ', R v σ' → R' v σ') : VCallsTo P f args σ R' :=
 fun ρ w cargs hH hL => (h ρ w cargs hH hL).mono fun _ _ ⟨c, he, hg⟩ => ⟨c, he, hg.mono hr⟩
theorem putE_rel {ρ : Plc} {n : Nat} {env : Env} {a : Act} (h : LRel ρ n env a.tmps.toList) {v c : Value} (hv : VRel ρ n v c) (d : Option Nat) : LRel ρ n (putE env d v) (a.put d c).tmps.toList := by
 cases d with
 | none => exact h
 | some d => simp only [putE, Act.put, Array.toList_setIfInBounds]; exact h.set d hv
theorem putE_length (env : Env) (d : Option Nat) (v : Value) : List.length (putE env d v) = List.length env := by cases d <;> simp [putE]
theorem put_defers (a : Act) (d : Option Nat) (c : Value) : (a.put d c).defers = a.defers := by cases d <;> rfl
theorem vwant_rel {ρ : Plc} {n : Nat} {env : Env} {a : Act} {ops : Array Oper} {o : Oper} {vo : VOper} (hc : compOper P ops o = some vo) (hL : LRel ρ n env a.tmps.toList) {b : Bool} (h : vwant env vo.guard = some b) :
  Region.wanted o (yielded ops a.tmps) = b ∧ vo.dst = o.dst ∧ compAny P o.op = vo.op := by
 unfold compOper at hc
 simp only [Option.bind_eq_bind] at hc
 cases hg : o.guard with
 | none =>
  simp [hg] at hc
  subst hc
  simp [vwant] at h
  subst h
  simp [Region.wanted, hg]
 | some jw =>
  obtain ⟨j, want⟩ := jw
  simp [hg] at hc
  cases hj : ops[j]? with
  | none => simp [hj] at hc
  | some oj =>
   cases hd : oj.dst with
   | none => simp [hj, hd] at hc
   | some d =>
    simp [hj, hd] at hc
    subst hc
    refine ⟨?_, rfl, rfl⟩
    simp only [vwant] at h
    simp only [Region.wanted, hg, yielded, hj, Option.bind_some, hd]
    have hlen : List.length env = a.tmps.size := by have := hL.1; rw [Array.length_toList] at this; exact this
    rcases Nat.lt_or_ge d (List.length env) with hlt | hge
    ·have hlt' : d < a.tmps.size := by rw [← hlen]; exact hlt
     have hr := hL.2 d env[d] a.tmps[d] (List.getElem?_eq_getElem hlt) (by simp [hlt'])
     have he : env.getD d undef = env[d] := by simp [List.getD, hlt]
     rw [he] at h
     simp only [Array.getElem?_eq_getElem hlt']
     split at h
     ·rename_i b' heq
      rw [heq] at hr
      rw [hr.bool_inv]
      simp at h; simp [← h]
     ·rename_i vs heq
      rw [heq] at hr
      obtain ⟨ds, hds, _⟩ := hr.tuple_inv
      rw [hds]
      simp at h; subst h; simp
     ·cases h
    ·have he : env.getD d undef = undef := by simp [List.getD, List.getElem?_eq_none hge]
     rw [he] at h
     have : a.tmps[d]? = none := Array.getElem?_eq_none (by rw [← hlen]; exact hge)
     simp only [this]
     simp [undef] at h; subst h; simp
theorem call_inv {o : Oper} {vo : VOp} (hc : compOp P o.op = some vo) {ρ : Plc} {σ : Heap} {env : Env} {a : Act} (hL : LRel ρ σ.n env a.tmps.toList) {K : Value → Heap → Prop}
  (hcall : (∃ f axs, vo = .callF f axs) ∨ (∃ f axs, vo = .callV f axs)) {σ0 : Heap} (h : vop S vo env σ0 K) :
  (∃ f args cargs, vcall S f args σ0 K ∧ LRel ρ σ.n args cargs.toList ∧ ∀ w, (execOp a.eval o).run P w = (callFunc f cargs).run P w) ∨
  (∃ i r args cargs, vyield S i args σ0 K ∧ VRel ρ σ.n (.func (.yield i) #[] #[]) (.func (.yield r) #[] #[]) ∧ LRel ρ σ.n args cargs.toList ∧ ∀ w, (execOp a.eval o).run P w = (Instr.yield r cargs).run P w) := by
 have hco := hc
 cases hcc : compOp P o.op with
 | none => rw [hcc] at hc; cases hc
 | some vo' =>
  clear hcc hc vo'
  obtain ⟨dst, op, ty, pos, after, guard⟩ := o
  simp only at hco
  unfold compOp at hco
  split at hco
  ·cases hco
  rename_i hok
  simp only [Bool.not_eq_true, Bool.not_eq_false'] at hok
  cases op
  case call c =>
   simp only [Op.operands] at hok hco
   split at hco
   ·rename_i f hcal
    simp at hco; subst hco
    simp only [vop] at h
    have hargs : (c.args.toList).all okOpd = true := by
     simp only [Call.operands, hcal, Array.toList_append, List.all_append, Bool.and_eq_true] at hok; exact hok.2
    refine .inl ⟨f, _, c.args.map a.eval, h, by have := map_rel (fun x hx => evalO_rel hL hx) hargs; simpa using this, fun w => ?_⟩
    simp [execOp, resolve, hcal, Act.eval, Deferred.ofValue, invoke]
   ·rename_i fo hne hcal
    simp at hco; subst hco
    simp only [vop] at h
    simp only [Call.operands, hcal, Array.toList_append, List.all_append, Bool.and_eq_true] at hok
    have hf := evalO_rel hL (x := fo) (by simpa using hok.1)
    have has := map_rel (fun x hx => evalO_rel hL hx) hok.2
    split at h
    ·rename_i g first cap heq
     rw [heq] at hf
     cases hcf : a.eval fo with
     | func fn gs ds =>
      rw [hcf] at hf
      cases hf with
      | func _ _ _ _ _ h1 h2 h3 h4 =>
       refine .inl ⟨g, _, gs ++ c.args.map a.eval ++ ds, h, ?_, fun w => ?_⟩
       ·have hl1 := LRel.of_array h1 h3
        have hl2 := LRel.of_array h2 h4
        have := (hl1.append has).append hl2
        simpa using this
       ·simp [execOp, resolve, hcal, hcf, Deferred.ofValue, invoke]
     | _ => rw [hcf] at hf; cases hf
    ·rename_i i first cap heq
     rw [heq] at hf
     have hinv : ∀ c, VRel ρ σ.n (.func (.yield i) first cap) c → ∃ r, c = .func (.yield r) #[] #[] ∧ VRel ρ σ.n (.func (.yield i) #[] #[]) (.func (.yield r) #[] #[]) := by
      intro c h
      cases h with
      | yield _ r hi hr => exact ⟨r, rfl, .yield i r hi hr⟩
     obtain ⟨r, hcf, hv⟩ := hinv _ hf
     refine .inr ⟨i, r, _, c.args.map a.eval, h, hv, by simpa using has, fun w => ?_⟩
     simp [execOp, resolve, hcal, hcf, Deferred.ofValue, invoke]
    ·cases h
   all_goals
    repeat' first
     | (cases hco; done)
     | (simp at hco; subst hco; rcases hcall with ⟨f, axs, h⟩ | ⟨f, axs, h⟩ <;> cases h; done)
     | split at hco
   all_goals
    simp only [Option.bind_eq_bind, Option.bind_eq_some_iff] at hco
    obtain ⟨_, _, _, _, hco⟩ := hco
    split at hco <;> simp at hco
    subst hco; rcases hcall with ⟨f, axs, h⟩ | ⟨f, axs, h⟩ <;> cases h
  all_goals simp only [Op.operands] at hok hco
  all_goals
   repeat' first
    | (cases hco; done)
    | (simp at hco; subst hco; rcases hcall with ⟨f, axs, h⟩ | ⟨f, axs, h⟩ <;> cases h; done)
    | split at hco
  all_goals simp only [Option.bind_eq_bind, Option.bind_eq_some_iff, reduceCtorEq, and_false, exists_false] at hco
  all_goals first
   | (obtain ⟨_, _, hco⟩ := hco; simp at hco; subst hco; rcases hcall with ⟨f, axs, h⟩ | ⟨f, axs, h⟩ <;> cases h; done)
   | (obtain ⟨_, _, _, _, hco⟩ := hco; simp at hco; subst hco; rcases hcall with ⟨f, axs, h⟩ | ⟨f, axs, h⟩ <;> cases h; done)
   | (obtain ⟨_, _, _, _, _, _, hco⟩ := hco; simp at hco; subst hco; rcases hcall with ⟨f, axs, h⟩ | ⟨f, axs, h⟩ <;> cases h; done)
   | (obtain ⟨d, _, hco⟩ := hco; cases d <;> simp at hco <;> subst hco <;> rcases hcall with ⟨f, axs, h⟩ | ⟨f, axs, h⟩ <;> cases h; done)
   | (obtain ⟨_, _, _, _, hco⟩ := hco; split at hco <;> simp at hco; subst hco; rcases hcall with ⟨f, axs, h⟩ | ⟨f, axs, h⟩ <;> cases h; done)
   | (obtain ⟨_, _, hco⟩ := hco; split at hco <;> simp at hco; subst hco; rcases hcall with ⟨f, axs, h⟩ | ⟨f, axs, h⟩ <;> cases h; done)
theorem compAny_some {o : Op} {vo : VOp} (h : compAny P o = vo) (hv : vo ≠ .bad) : compOp P o = some vo ∨ ∃ x, compX P o = some x ∧ vo = .ext x := by
 unfold compAny at h
 split at h
 ·rename_i v hv'; subst h; exact .inl hv'
 ·split at h
  ·rename_i x hx; exact .inr ⟨x, hx, h.symm⟩
  ·exact absurd h.symm hv
theorem compOp_ext {o : Op} {x : XOp} (h : compOp P o = some (.ext x)) : False := by
 unfold compOp at h
 repeat' first
  | contradiction
  | (cases h; done)
  | (simp at h; done)
  | (rw [Option.bind_eq_bind, Option.bind_eq_some_iff] at h; obtain ⟨_, _, h⟩ := h)
  | split at h
theorem compAny_defer {o : Op} {vo : VOp} (h : compAny P o = vo) (hv : vo ≠ .bad) (c : Call) : o ≠ .defer c := by
 rintro rfl
 rcases compAny_some h hv with h | ⟨x, h, _⟩
 ·unfold compOp at h; split at h <;> simp at h
 ·unfold compX at h; split at h <;> simp at h
theorem next_sound {o : Oper} {x : Operand} (hc : compX P o.op = some (.nextMap x)) {ρ : Plc} {σ : Heap} {w : World} {env : Env} {ev : Operand → Value} (hH : HRel ρ σ w) (hE : ∀ x, okOpd x = true → VRel ρ σ.n (evalO env x) (ev x))
  {K : Value → Heap → Prop} (h : vnext (evalO env x) σ K) : ∃ c w', (execOp ev o).run P w = .ok (.value c) w' ∧ Got ρ σ w K c w' := by
 obtain ⟨dst, op, ty, pos, after, guard⟩ := o
 simp only at hc
 unfold compX at hc
 split at hc
 ·cases hc
 rename_i hok
 simp only [Bool.not_eq_true, Bool.not_eq_false'] at hok
 have hop : op = .next x false := by
  cases op
  case next y b => cases b <;> simp at hc; subst hc; rfl
  all_goals
   simp only at hc
   repeat' first
    | contradiction
    | (obtain ⟨_, h⟩ := aggOf_some hc; cases h; done)
    | (cases hc; done)
    | (simp at hc; done)
    | (rw [Option.bind_eq_bind, Option.bind_eq_some_iff] at hc; obtain ⟨_, _, hc⟩ := hc)
    | split at hc
 subst hop
 clear hc
 simp [Op.operands] at hok
 have hx := hE x hok
 unfold vnext at h
 split at h
 ·rename_i i hxe
  rw [hxe] at hx
  split at h
  ·rename_i m since seen last hb
   split at h
   ·rename_i es clock wr hmap
    obtain ⟨h1, hall, h2, h3⟩ := h
    obtain ⟨p, hp, ⟨_, hsh⟩, O, hO, rm, rfl, hrm⟩ := hH.live i _ hb
    obtain ⟨q, entries, hrm', hq', hblk, hrel⟩ := map_world hH hmap hrm
    simp at hrm'; subst hrm'
    obtain ⟨_, _, hxc⟩ := hx.ptr_inv hp
    rw [hsh, Nat.zero_add] at hxc
    have hg1 : (getObj p.blk).run P w = .ok (.mapIter (some q.blk) since seen.toArray last) w := run_getObj_of hO (fun _ _ _ e => by cases e)
    have hg2 : (getObj q.blk).run P w = .ok (.map entries clock) w := run_getObj_of hblk (fun _ _ _ e => by cases e)
    let left := entries.filter fun e => !seen.toArray.contains e.born
    let old := left.filter (·.born < since)
    let new := left.filter (·.born ≥ since)
    let cands : Array (Option MapEntry) := (if old.isEmpty then #[none] else #[]) ++ (old ++ new).map some
    have hpos : 0 < cands.size := by
     by_cases ho : old.isEmpty = true
     ·simp only [cands, ho, if_true, Array.size_append]
      show 0 < 1 + _
      omega
     ·have : old.size ≠ 0 := fun e => ho (by simp [Array.isEmpty, e])
      simp only [cands, Array.size_append, Array.size_map]
      omega
    obtain ⟨k, w1, hk, hch, hw1⟩ : ∃ k w1, k < cands.size ∧ (choose (.mapNext cands.size)).run P w = .ok k w1 ∧ (w1 = w ∨ w1 = w.drew) := by
     rw [run_choose_drew]
     by_cases hf : (Question.mapNext cands.size).forced = true
     ·exact ⟨0, w, hpos, by rw [if_pos hf], .inl rfl⟩
     ·refine ⟨_, w.drew, ?_, by rw [if_neg hf], .inr rfl⟩
      exact Nat.mod_lt _ hpos
    have hH1 : HRel ρ σ w1 := by rcases hw1 with rfl | rfl; exact hH; exact hH.drew
    have hE1 : Ext ρ σ w ρ σ w1 := by rcases hw1 with rfl | rfl; exact Ext.refl _ _ _; exact Ext.drew _ _ _
    have hO1 : w1.heap[p.blk]? = some (.mapIter (some q.blk) since seen.toArray last) := by rcases hw1 with rfl | rfl <;> exact hO
    have hcond : ¬ ((!seen.toArray.isEmpty && !entries.isEmpty && entries.all (fun e => decide (e.born ≥ last))) = true) := by
     intro hh
     simp only [Bool.and_eq_true] at hh
     obtain ⟨⟨h4, h5⟩, h6⟩ := hh
     simp only [Bool.or_eq_true] at h1
     rcases h1 with (h1 | h1) | h1
     ·rw [List.isEmpty_iff] at h1; subst h1; simp at h4
     ·rw [List.isEmpty_iff] at h1; subst h1
      have : entries = #[] := by have := hrel.1; simpa using this
      subst this; simp at h5
     ·obtain ⟨kv, hkv, hlt⟩ := List.any_eq_true.1 h1
      obtain ⟨j, hj⟩ := List.mem_iff_getElem?.1 hkv
      have hjl : j < entries.toList.length := by rw [hrel.1]; exact (List.getElem?_eq_some_iff.1 hj).1
      have he := hrel.2 j entries.toList[j] kv (List.getElem?_eq_getElem hjl) hj
      have := Array.all_eq_true'.1 h6 entries.toList[j] (by rw [← Array.mem_toList_iff]; exact List.getElem_mem hjl)
      have h7 := he.2.1
      simp at this hlt
      simp at h7
      omega
    have hrun : ∀ r, (match cands[k]? with
      | some (some e) => (do setObj p.blk (.mapIter (some q.blk) since (seen.toArray.push e.born) clock); pure (Value.tuple #[.bool true, e.key, e.val]) : Sem Value)
      | some none => pure (.tuple #[.bool false])
      | none => stuck "Next: no such candidate").run P w1 = r → (Instr.next (ev x) false ty).run P w = r := by
     intro r hr
     rw [← hr]
     simp only [Instr.next, hxc, Sem.run_bind, hg1, hg2, Result.andThen_ok]
     rw [if_neg hcond]
     simp only [Sem.run_bind]
     change ((choose (Question.mapNext cands.size)).run P w).andThen _ = _
     rw [hch]
     rfl
    have hval : ∀ c w', (Instr.next (ev x) false ty).run P w = .ok c w' → (execOp ev ⟨dst, .next x false, ty, pos, after, guard⟩).run P w = .ok (.value c) w' := fun c w' h => by simp [execOp, h]
    have hck : cands[k]? = some cands[k] := Array.getElem?_eq_getElem hk
    cases hx : cands[k] with
    | none =>
     rw [hx] at hck
     have hmem : none ∈ cands := hx ▸ Array.getElem_mem hk
     have hold : old.isEmpty = true := by
      cases ho : old.isEmpty with
      | true => rfl
      | false => simp [cands, ho] at hmem
     refine ⟨_, w1, hval _ _ (hrun _ (by rw [hck]; rfl)), _, ρ, σ, h2 ?_, VRel.tuple_of (LRel.cons (.bool _) (LRel.nil _ _)), hH1, hE1⟩
     refine List.all_eq_true.2 fun kv hkv => ?_
     obtain ⟨j, hj⟩ := List.mem_iff_getElem?.1 hkv
     have hjl : j < entries.toList.length := by rw [hrel.1]; exact (List.getElem?_eq_some_iff.1 hj).1
     have he := hrel.2 j entries.toList[j] kv (List.getElem?_eq_getElem hjl) hj
     cases hsn : seen.contains kv.2.2 with
     | true => rfl
     | false =>
      simp only [Bool.false_or, decide_eq_true_eq]
      rcases Nat.lt_or_ge kv.2.2 since with hlt | hge
      ·exfalso
       have : entries.toList[j] ∈ old := by
        simp only [old, left, Array.mem_filter, decide_eq_true_eq]
        refine ⟨⟨by rw [← Array.mem_toList_iff]; exact List.getElem_mem hjl, ?_⟩, by rw [he.2.1]; exact hlt⟩
        rw [he.2.1]
        simpa using hsn
       rw [Array.isEmpty_iff] at hold
       rw [hold] at this
       simp at this
      ·exact hge
    | some e =>
     rw [hx] at hck
     have hmem : some e ∈ cands := hx ▸ Array.getElem_mem hk
     have hleft : e ∈ left := by
      have h4 : e ∈ old ++ new := by
       simp only [cands, Array.mem_append, Array.mem_map] at hmem
       rcases hmem with hmem | ⟨a, ha, hae⟩
       ·split at hmem <;> simp at hmem
       ·simp at hae; subst hae; simpa using ha
      rcases Array.mem_append.1 h4 with h4 | h4
      ·exact (Array.mem_filter.1 h4).1
      ·exact (Array.mem_filter.1 h4).1
     obtain ⟨hel, hns⟩ := Array.mem_filter.1 hleft
     rw [← Array.mem_toList_iff] at hel
     obtain ⟨j, hj⟩ := List.mem_iff_getElem?.1 hel
     have hjl : j < es.length := by rw [← hrel.1]; exact (List.getElem?_eq_some_iff.1 hj).1
     have he := hrel.2 j e es[j] hj (List.getElem?_eq_getElem hjl)
     have hkn := h3 es[j] (List.getElem_mem hjl) (by rw [← he.2.1]; simpa using hns)
     obtain ⟨k1, k2⟩ := hH1.setObj (o' := .iter m since (seen ++ [es[j].2.2]) clock) (O' := .mapIter (some q.blk) since (seen.toArray.push e.born) clock) hp hb ⟨q.blk, by rw [he.2.1]; simp, hrm⟩
     have hkey : VRel ρ σ.n es[j].1 e.key := by rw [he.1]; exact plain_rel (List.all_eq_true.1 hall _ (List.getElem_mem hjl))
     refine ⟨_, _, hval _ _ (hrun _ (by
      rw [hck]
      simp only [Sem.run_bind, run_setObj_of hO1 (fun _ _ _ e => by cases e), Result.andThen_ok, Sem.run_pure])), _, ρ, _, hkn, VRel.tuple_of (LRel.cons (.bool _) (LRel.cons hkey (LRel.cons he.2.2 (LRel.nil _ _)))), k1, hE1.trans k2⟩
   ·exact h.elim
  ·exact h.elim
 ·exact h.elim
theorem called_of (hS : OkSpecs P S) {f : FuncId} {args : List Value} {σ : Heap} {K : Value → Heap → Prop} (h : vcall S f args σ K) : VCalled P f args σ K := by
 unfold vcall at h
 split at h
 ·rename_i s hs; exact hS.fn f s hs _ _ _ h
 ·exact h.elim
theorem yielded_of (hS : OkSpecs P S) {i : Nat} {args : List Value} {σ : Heap} {K : Value → Heap → Prop} (h : vyield S i args σ K) : VYields P i args σ K := by
 unfold vyield at h
 split at h
 ·rename_i s hs; exact hS.yl i s hs _ _ _ h
 ·exact h.elim
theorem act_sound {o : Oper} {vo : VOp} (hc : compAny P o.op = vo) {ρ : Plc} {σ : Heap} {w : World} {env : Env} {a : Act} (hH : HRel ρ σ w) (hL : LRel ρ σ.n env a.tmps.toList) {v : Value} {σ' : Heap}
  (h : vact vo (evalO env) σ = some (v, σ')) : Makes P ρ σ w v σ' (execOp a.eval o) := by
 cases hq : vo.quiet with
 | false => exact any_loud hc hq hH (fun x hx => evalO_rel hL hx) h
 | true =>
  obtain ⟨rfl, c, hvc, hr⟩ := any_quiet hc hq hH (fun x hx => evalO_rel hL hx) h
  exact ⟨c, w, ρ, .inl (hr w (Like.refl ρ w)), hvc, hH, Ext.refl _ _ _⟩
theorem step_sound (hS : OkSpecs P S) {ro : Option Nat} {n : Nat} {o : Oper} {vo : VOp} (hop : compAny P o.op = vo) {ρ : Plc} {σ : Heap} {w : World} {env : Env} {a : Act} (hH : HRel ρ σ w) (hL : LRel ρ σ.n env a.tmps.toList)
  {K : Value → Heap → Prop} (h : vop S vo env σ K) {next : Act → World → Prop} {Q' : Exit → Act → World → Prop} (hn : ∀ c w', Got ρ σ w K c w' → next (a.put o.dst c) w') : o.wpIn (FF ro) n P a w next Q' := by
 refine ⟨fun f _ => FF_fn _ _, ?_⟩
 have hnb : vo ≠ .bad := by rintro rfl; exact h.elim
 rw [Oper.semAt_eq _ _ _ (compAny_defer hop hnb)]
 by_cases hcall : (∃ f axs, vo = .callF f axs) ∨ (∃ f axs, vo = .callV f axs)
 ·have hc : compOp P o.op = some vo := by
   rcases compAny_some hop hnb with hc | ⟨x, _, hx⟩
   ·exact hc
   ·subst hx; rcases hcall with ⟨f, axs, hh⟩ | ⟨f, axs, hh⟩ <;> cases hh
  rcases call_inv (S := S) hc hL hcall h with ⟨f, args, cargs, hv, hla, hr⟩ | ⟨i, r, args, cargs, hv, hvr, hla, hr⟩
  ·rcases called_of hS hv ρ w cargs hH hla with ⟨h1, h2⟩ | ⟨c, hg, h2⟩
   ·rw [hr, h1]
    exact ⟨(fun hd => by rw [FF_depth] at hd; cases hd), (FF_calls h2).mono fun e w' ⟨c, he, hg⟩ => by subst he; exact hn c w' hg⟩
   ·rw [hr, h2 w (Like.refl ρ w)]
    exact hn c w hg
  ·obtain ⟨p, hp, fn, tmps, asg, body, h1, h2⟩ := yielded_of hS hv ρ w cargs hH hla
   have hrp : r = p.blk := by
    cases hvr with
    | yield _ _ _ hh => exact hh p hp
   rw [hr, hrp, h1]
   exact ⟨(fun hd => by rw [FF_depth] at hd; cases hd), (FF_round_of h2).mono fun e w' ⟨c, he, hg⟩ => by subst he; exact hn c w' hg⟩
 ·by_cases hnext : ∃ x, vo = .ext (.nextMap x)
  ·obtain ⟨x, rfl⟩ := hnext
   have hc : compX P o.op = some (.nextMap x) := by
    rcases compAny_some hop hnb with hc | ⟨y, hy, hx⟩
    ·have := compOp_ext hc; exact this.elim
    ·cases hx; exact hy
   obtain ⟨c, w', hr, hg⟩ := next_sound hc hH (fun x hx => evalO_rel hL hx) h
   rw [hr]
   exact hn c w' hg
  ·have hact : ∃ v σ', vact vo (evalO env) σ = some (v, σ') ∧ K v σ' := by
    unfold vop at h
    split at h
    ·exact absurd (.inl ⟨_, _, rfl⟩) hcall
    ·exact absurd (.inr ⟨_, _, rfl⟩) hcall
    ·exact absurd ⟨_, rfl⟩ hnext
    ·cases hva : vact vo (evalO env) σ with
     | none => rw [hva] at h; exact h.elim
     | some p => rw [hva] at h; exact ⟨p.1, p.2, rfl, h⟩
   obtain ⟨v, σ', hva, hK⟩ := hact
   obtain ⟨c, w', ρ', hrun, hvc, hH', hE⟩ := act_sound hop hH hL hva
   have hg : Got ρ σ w K c w' := ⟨v, ρ', σ', hK, hvc, hH', hE⟩
   rcases hrun with hrun | ⟨hrun, rfl⟩
   ·rw [hrun]; exact hn c w' hg
   ·rw [hrun]; exact hn undef w' hg
def Mks (B : Nat) (ds : List Deferred) (w : World) : Prop := B ≤ w.heap.size ∧ ∃ Ds : List Nat, ds = Ds.map (fun D => ⟨.collected D, #[]⟩) ∧ Ds.Nodup ∧ ∀ D ∈ Ds, B ≤ D ∧ w.heap[D]? = some (.deferred (some []))
theorem Mks.nil {w : World} (h : B ≤ w.heap.size) : Mks B [] w := ⟨h, [], rfl, List.nodup_nil, fun _ h => by cases h⟩
theorem Mks.ext {ds : List Deferred} {ρ ρ' : Plc} {σ σ' : Heap} {w w' : World} (h : Mks B ds w) (hH : HRel ρ σ w) (hE : Ext ρ σ w ρ' σ' w') : Mks B ds w' := by
 obtain ⟨h0, Ds, h1, h2, h3⟩ := h
 refine ⟨Nat.le_trans h0 hE.size, Ds, h1, h2, fun D hD => ⟨(h3 D hD).1, ?_⟩⟩
 have hb := (h3 D hD).2
 have hlt : D < w.heap.size := by
  rcases Nat.lt_or_ge D w.heap.size with h' | h'
  ·exact h'
  ·rw [Array.getElem?_eq_none h'] at hb; cases hb
 rw [hE.keep D hlt (fun ⟨i, p, b, hp, _, _, hpb⟩ => hH.not_deferred hb i p hp hpb)]
 exact hb
def Next' (B m : Nat) (ρ : Plc) (σ : Heap) (w : World) (K : Env → Heap → Prop) (a' : Act) (w' : World) : Prop :=
 ∃ env' ρ' σ', K env' σ' ∧ List.length env' = m ∧ HRel ρ' σ' w' ∧ LRel ρ' σ'.n env' a'.tmps.toList ∧ Mks B a'.defers w' ∧ Ext ρ σ w ρ' σ' w'
theorem vops_sound (hS : OkSpecs P S) {ro : Option Nat} {n : Nat} (ops : Array Oper) (Q : Exit → Act → World → Prop) : ∀ (l : List Oper) (lv : List VOper), l.mapM (compOper P ops) = some lv →
  ∀ (env : Env) (σ : Heap) (K : Env → Heap → Prop) (ρ : Plc) (w : World) (a : Act), vops S lv env σ K → HRel ρ σ w → LRel ρ σ.n env a.tmps.toList → Mks B a.defers w →
  (∀ a' w', Next' B (List.length env) ρ σ w K a' w' → Q .normal a' w') → wpListIn (FF ro) n P ops Q l a w := by
 intro l
 induction l with
 | nil =>
  intro lv hlv env σ K ρ w a h hH hL hd hQ
  simp at hlv; subst hlv
  exact hQ a w ⟨env, ρ, σ, h, rfl, hH, hL, hd, Ext.refl _ _ _⟩
 | cons o l ih =>
  intro lv hlv env σ K ρ w a h hH hL hd hQ
  rw [List.mapM_cons] at hlv
  cases hco : compOper P ops o with
  | none => simp [hco] at hlv
  | some vo =>
   cases hml : l.mapM (compOper P ops) with
   | none => simp [hco, hml] at hlv
   | some lv' =>
    simp [hco, hml] at hlv
    subst hlv
    simp only [vops] at h
    cases hw : vwant env vo.guard with
    | none => rw [hw] at h; exact h.elim
    | some b =>
     rw [hw] at h
     obtain ⟨hwant, hdst, hop⟩ := vwant_rel hco hL hw
     obtain ⟨ht, hf⟩ := h
     simp only [wpListIn]
     rw [hwant]
     cases b with
     | false =>
      rw [if_neg (by simp)]
      exact ⟨fun f _ => FF_fn _ _, ih lv' hml (putE env vo.dst undef) σ K ρ w _ (hf rfl) hH (by rw [hdst]; exact putE_rel hL undef_rel o.dst) (by rw [put_defers]; exact hd) (fun a' w' hn => hQ a' w' (by rw [putE_length] at hn; exact hn))⟩
     | true =>
      rw [if_pos rfl]
      refine step_sound hS hop hH hL (ht rfl) fun c w' ⟨v, ρ', σ', hK, hvc, hH', hE⟩ => ?_
      exact ih lv' hml (putE env vo.dst v) σ' K ρ' w' _ hK hH' (by rw [hdst]; exact putE_rel (hE.lrel hL) hvc o.dst) (by rw [put_defers]; exact hd.ext hH hE)
       (fun a' w'' ⟨env'', ρ'', σ'', k1, k0, k2, k3, k4, k5⟩ => hQ a' w'' ⟨env'', ρ'', σ'', k1, by rw [k0, putE_length], k2, k3, k4, hE.trans k5⟩)
theorem spread_length : ∀ (l : List Nat) (vs : List Value) (env : Env), (spreadE l vs env).length = env.length := by
 intro l
 induction l with
 | nil => intro vs env; cases vs <;> rfl
 | cons i l ih =>
  intro vs env
  cases vs with
  | nil => rfl
  | cons v vs => simp only [spreadE]; rw [ih]; simp
theorem spread_rel {ρ : Plc} {n : Nat} : ∀ (l : List Nat) (env base : Env) (cs : List Value), LRel ρ n env cs → LRel ρ n base cs → LRel ρ n (spreadE l (pickE l env) base) cs := by
 intro l
 induction l with
 | nil => intro env base cs _ hb; exact hb
 | cons i l ih =>
  intro env base cs he hb
  simp only [pickE, List.map_cons, spreadE]
  refine ih env _ cs he ?_
  refine ⟨by simp [hb.1], fun j v c hv hc => ?_⟩
  by_cases hij : i = j
  ·subst hij
   rcases Nat.lt_or_ge i (List.length base) with hlt | hge
   ·rw [List.getElem?_set_self hlt] at hv
    obtain rfl := Option.some.inj hv
    have hlt' : i < List.length env := by rw [he.1, ← hb.1]; exact hlt
    have : env.getD i poison = env[i] := by simp [List.getD, hlt']
    rw [this]
    exact he.2 i _ c (List.getElem?_eq_getElem hlt') hc
   ·rw [List.getElem?_eq_none (by simp; exact hge)] at hv; cases hv
  ·rw [List.getElem?_set_ne hij] at hv
   exact hb.2 j v c hv hc
theorem poison_rel {ρ : Plc} {n : Nat} (cs : List Value) {m : Nat} (h : m = cs.length) : LRel ρ n (List.replicate m poison) cs :=
 ⟨by simp [h], fun i v c hv _ => by
  have := List.mem_of_getElem? hv
  rw [List.mem_replicate] at this
  rw [this.2]; exact .poison c⟩
def RoRel (vro ro : Option Nat) (ρ : Plc) (n : Nat) : Prop := (vro = none ∧ ro = none) ∨ ∃ i l, vro = some i ∧ ro = some l ∧ i < n ∧ ∀ p, ρ i = some p → p.blk = l
theorem RoRel.ext {vro ro : Option Nat} {ρ ρ' : Plc} {σ σ' : Heap} {w w' : World} (h : RoRel vro ro ρ σ.n) (hE : Ext ρ σ w ρ' σ' w') : RoRel vro ro ρ' σ'.n := by
 rcases h with h | ⟨i, l, h1, h2, h3, h4⟩
 ·exact .inl h
 ·exact .inr ⟨i, l, h1, h2, Nat.lt_of_lt_of_le h3 hE.n, fun p hp => h4 p (hE.pl i h3 p hp)⟩
def Sound (P : Program) (S : VSpecs) (c : Code) (vc : VCode) : Prop :=
 ∀ ⦃B : Nat⦄ (vro ro : Option Nat) (n : Nat) (Q : Exit → Env → Heap → Prop) (env : Env) (σ : Heap) (ρ : Plc) (w : World) (a : Act), vwp S vc vro Q env σ → HRel ρ σ w → LRel ρ σ.n env a.tmps.toList → Mks B a.defers w → RoRel vro ro ρ σ.n →
  ∀ (Q' : Exit → Act → World → Prop), (∀ e a' w', Next' B (List.length env) ρ σ w (Q e) a' w' → Q' e a' w') → c.wpIn (FF ro) n P Q' a w
theorem setPs_rel {ρ : Plc} {n : Nat} : ∀ (ps : List Nat) (vs cs : List Value) (env : Env) (tmps : Array Value), LRel ρ n env tmps.toList → LRel ρ n vs cs →
  LRel ρ n (setPs env ps vs) ((ps.zip cs).foldl (fun (tmps : Array Value) (q : Nat × Value) => tmps.setIfInBounds q.1 q.2) tmps).toList := by
 intro ps
 induction ps with
 | nil => intro vs cs env tmps h _; cases vs <;> exact h
 | cons p ps ih =>
  intro vs cs env tmps h hv
  cases vs with
  | nil =>
   cases cs with
   | nil => exact h
   | cons _ _ => have := hv.1; simp at this
  | cons v vs =>
   cases cs with
   | nil => have := hv.1; simp at this
   | cons c cs =>
    simp only [setPs, List.zip_cons_cons, List.foldl_cons]
    refine ih vs cs _ _ ?_ ⟨by have := hv.1; simpa using this, fun i a b ha hb => hv.2 (i + 1) a b (by simpa using ha) (by simpa using hb)⟩
    rw [Array.toList_setIfInBounds]
    exact h.set p (hv.2 0 v c rfl rfl)
theorem run_getLoop {w : World} {l : Nat} {r : Loop} (h : w.heap[l]? = some (.loop r)) : (Instr.getLoop l).run P w = .ok r w := by
 simp [Instr.getLoop, run_getObj_of h (fun _ _ _ e => by cases e)]
theorem lp_world {ρ : Plc} {σ : Heap} {w : World} (hH : HRel ρ σ w) {i : Nat} {env : Env} {r : Loop} {st : LoopState} {pend : Option Code} {wr : Bool} (h : σ.get i = some (.obj (.lp env r st pend) wr)) :
  ∃ p, ρ i = some p ∧ w.heap[p.blk]? = some (.loop { r with state := st, pending := pend }) ∧ LRel ρ σ.n env r.tmps.toList := by
 obtain ⟨p, hp, _, O, h1, rfl, h2⟩ := hH.live i _ h
 exact ⟨p, hp, h1, h2⟩
theorem lp_set {ρ : Plc} {σ : Heap} {w : World} (hH : HRel ρ σ w) {i : Nat} {env : Env} {r : Loop} {st : LoopState} {pend : Option Code} {p : Pl} (hp : ρ i = some p) (h : σ.get i = some (.obj (.lp env r st pend) true)) (st' : LoopState) (pend' : Option Code) :
  HRel ρ (σ.upd i (.obj (.lp env r st' pend') true)) (setO w p.blk (.loop { r with state := st', pending := pend' })) ∧
  Ext ρ σ w ρ (σ.upd i (.obj (.lp env r st' pend') true)) (setO w p.blk (.loop { r with state := st', pending := pend' })) := by
 obtain ⟨p', hp', h1, h2⟩ := lp_world hH h
 exact hH.setObj hp h ⟨rfl, h2⟩
theorem round_sound {asg body : Code} {va vb : VCode} (ha : Sound P S asg va) (hb : Sound P S body vb) (ps : List Nat) (env : Env) (r : Loop) (hr1 : r.assign = asg) (hr2 : r.body = body) (hr3 : r.params.toList = ps) (i : Nat) :
  OkYield P i (roundY (vwp S va (some i)) (vwp S vb (some i)) ps env r i) := by
 intro args σ K h ρ w cargs hH hL
 obtain ⟨h1, h2, h3⟩ := h
 obtain ⟨p, hp, hblk, henv⟩ := lp_world hH h1
 refine ⟨p, hp, r.fn, (r.params.zip cargs).foldl (fun tmps (t, a) => tmps.setIfInBounds t a) r.tmps, r.assign, r.body, ?_, ?_⟩
 ·have hsz : cargs.size = r.params.size := by
   have h4 := hL.1
   have : r.params.size = ps.length := by rw [← hr3]; simp
   simp at h4; omega
  simp [Instr.yield, run_getLoop hblk, hsz]
 ·refine roundIn_of_wpIn (F := Fence.wide) trivial ?_
  rw [hr1, hr2]
  refine ha (some i) (some p.blk) 0 _ _ σ ρ w _ h3 hH ?_ (Mks.nil (Nat.le_refl _)) (.inr ⟨i, p.blk, rfl, rfl, σ.lt h1, fun q hq => by rw [hp] at hq; obtain rfl := Option.some.inj hq; rfl⟩) _ ?_
  ·have := setPs_rel ps args cargs.toList env r.tmps henv hL
   rw [← hr3, ← Array.toList_zip, Array.foldl_toList] at this
   rw [hr3] at this
   exact this
  ·intro e a1 w1 ⟨env1, ρ1, σ1, k1, k0, k2, k3, k4, k5⟩
   cases e with
   | normal =>
    obtain ⟨k6, k7⟩ := k1
    obtain ⟨p1, hp1, hblk1, henv1⟩ := lp_world k2 k6
    have hpp : p1 = p := by
     have := k5.pl i (σ.lt h1) p1 hp1
     rw [hp] at this; exact (Option.some.inj this).symm
    subst hpp
    obtain ⟨j1, j2⟩ := lp_set k2 hp1 k6 .busy none
    refine ⟨_, by simp [Instr.beginRound, run_getLoop hblk1, run_setObj_of hblk1 (fun _ _ _ e => by cases e)]; rfl, ?_⟩
    refine hb (some i) (some p1.blk) 0 _ _ _ ρ1 _ a1 k7 j1 k3 (k4.ext k2 j2) (.inr ⟨i, p1.blk, rfl, rfl, σ1.lt k6, fun q hq => by rw [hp1] at hq; obtain rfl := Option.some.inj hq; rfl⟩) _ ?_
    intro e2 a2 w2 ⟨env2, ρ2, σ2, m1, m0, m2, m3, m4, m5⟩
    obtain ⟨m6, m7⟩ := m1
    obtain ⟨p2, hp2, hblk2, henv2⟩ := lp_world m2 m6
    have hpp : p2 = p1 := by
     have h8 := m5.pl i (by rw [Heap.upd_n]; exact σ1.lt k6) p2 hp2
     rw [hp1] at h8; exact (Option.some.inj h8).symm
    subst hpp
    cases e2 with
    | normal =>
     obtain ⟨q1, q2⟩ := lp_set m2 hp2 m6 .ready none
     refine ⟨.bool true, _, ?_, _, rfl, .bool true, ρ2, _, m7, .bool _, q1, k5.trans (j2.trans (m5.trans q2))⟩
     simp [Instr.endRound, run_getLoop hblk2, run_setObj_of hblk2 (fun _ _ _ e => by cases e)]
    | ret =>
     obtain ⟨q1, q2⟩ := lp_set m2 hp2 m6 .done (some .ret)
     refine ⟨.bool false, _, ?_, _, rfl, .bool false, ρ2, _, m7, .bool _, q1, k5.trans (j2.trans (m5.trans q2))⟩
     simp [Instr.endRound, run_getLoop hblk2, run_setObj_of hblk2 (fun _ _ _ e => by cases e)]
    | exit id =>
     obtain ⟨q1, q2⟩ := lp_set m2 hp2 m6 .done (some (.exit id))
     refine ⟨.bool false, _, ?_, _, rfl, .bool false, ρ2, _, m7, .bool _, q1, k5.trans (j2.trans (m5.trans q2))⟩
     simp [Instr.endRound, run_getLoop hblk2, run_setObj_of hblk2 (fun _ _ _ e => by cases e)]
    | goto l => exact m7.elim
    | panic ch => exact m7.elim
    | outgrown => exact m7.elim
   | exit id => exact k1.elim
   | goto l => exact k1.elim
   | ret => exact k1.elim
   | panic ch => exact k1.elim
   | outgrown => exact k1.elim
theorem Heap.ext' {σ σ' : Heap} (h : ∀ j, σ.get j = σ'.get j) (hn : σ.n = σ'.n) : σ = σ' := by
 obtain ⟨g, n, wf⟩ := σ
 obtain ⟨g', n', wf'⟩ := σ'
 have hg : g = g' := funext h
 have hn' : n = n' := hn
 subst hg; subst hn'
 rfl
theorem Mks.push {ds : List Deferred} {w : World} (h : Mks B ds w) : Mks B ({ target := .collected w.heap.size, args := #[] } :: ds) (w.alloc (.deferred (some []))) := by
 obtain ⟨h0, Ds, h1, h2, h3⟩ := h
 have hlt : ∀ D ∈ Ds, D < w.heap.size := fun D hD => by
  rcases Nat.lt_or_ge D w.heap.size with h' | h'
  ·exact h'
  ·have := (h3 D hD).2; rw [Array.getElem?_eq_none h'] at this; cases this
 refine ⟨by rw [World.size_alloc]; omega, w.heap.size :: Ds, by rw [h1]; rfl, List.nodup_cons.2 ⟨fun hh => Nat.lt_irrefl _ (hlt _ hh), h2⟩, fun D hD => ?_⟩
 rcases List.mem_cons.1 hD with rfl | hD
 ·refine ⟨h0, ?_⟩
  show (w.heap.push _)[w.heap.size]? = _
  simp
 ·refine ⟨(h3 D hD).1, ?_⟩
  show (w.heap.push _)[D]? = _
  rw [Array.getElem?_push, if_neg (by have := hlt D hD; omega)]; exact (h3 D hD).2
theorem Ext.alloc_other {ρ : Plc} {σ : Heap} (w : World) (O : Obj) : Ext ρ σ w ρ σ (w.alloc O) :=
 ⟨rfl, rfl, rfl, by have := World.size_alloc w O; omega, fun B hB _ => by show (w.heap.push _)[B]? = _; rw [Array.getElem?_push, if_neg (by omega)], fun _ _ h => h, Nat.le_refl _, fun _ _ _ h => h⟩
theorem HRel.alloc_other {ρ : Plc} {σ : Heap} {w : World} (h : HRel ρ σ w) (O : Obj) : HRel ρ σ (w.alloc O) :=
 h.world (by have := World.size_alloc w O; omega) fun i p hp => by show (w.heap.push _)[p.blk]? = _; rw [Array.getElem?_push, if_neg (by have := h.lt i p hp; omega)]
theorem enter_sound {vro ro : Option Nat} {ρ : Plc} {σ : Heap} {w : World} {a : Act} {env : Env} (hH : HRel ρ σ w) (hL : LRel ρ σ.n env a.tmps.toList) (hd : Mks B a.defers w) (hR : RoRel vro ro ρ σ.n) (hin : inLp σ vro) (fn : FuncId) (ps : Array Nat) (asg body : Code) :
  ∃ (r : Loop) (mark : List Deferred) (w1 : World) (ρ1 : Plc), (Instr.enterLoop fn a.tmps ps asg body ro).run P w = .ok (w1.heap.size - 1, mark) w1 ∧ r.assign = asg ∧ r.body = body ∧ r.params = ps ∧
   HRel ρ1 (σ.push (.obj (.lp env r .ready none) true)) w1 ∧ Ext ρ σ w ρ1 (σ.push (.obj (.lp env r .ready none) true)) w1 ∧ Mks B (mark ++ a.defers) w1 ∧
   (∀ p, ρ1 σ.n = some p → p.blk = w1.heap.size - 1) := by
 rcases hR with ⟨rfl, rfl⟩ | ⟨i, l, rfl, rfl, hi, hil⟩
 ·let w0 := w.alloc (.deferred (some []))
  have hH0 : HRel ρ σ w0 := hH.alloc_other _
  have hE0 : Ext ρ σ w ρ σ w0 := Ext.alloc_other _ _
  let r : Loop := { state := .ready, pending := none, fn, tmps := a.tmps, params := ps, assign := asg, body := body, defers := w.heap.size }
  obtain ⟨ρ1, h1, h2, h3⟩ := hH0.newObj (.lp env r .ready none) (.loop r) ⟨rfl, hL⟩
  have hsz : (w0.alloc (.loop r)).heap.size - 1 = w0.heap.size := by have := World.size_alloc w0 (.loop r); omega
  refine ⟨r, [{ target := .collected w.heap.size, args := #[] }], w0.alloc (.loop r), ρ1, ?_, rfl, rfl, rfl, h2, hE0.trans h3, ?_, fun p hp => ?_⟩
  ·rw [hsz]
   simp [Instr.enterLoop]
   exact ⟨(World.size_alloc w _).symm, rfl⟩
  ·exact (hd.push).ext hH0 h3
  ·rw [h1] at hp; obtain rfl := Option.some.inj hp; rw [hsz]
 ·obtain ⟨env0, r0, st, pend, hb⟩ := hin
  obtain ⟨p, hp, hblk, _⟩ := lp_world hH hb
  have hpl := hil p hp
  subst hpl
  let r : Loop := { state := .ready, pending := none, fn, tmps := a.tmps, params := ps, assign := asg, body := body, defers := r0.defers }
  obtain ⟨ρ1, h1, h2, h3⟩ := hH.newObj (.lp env r .ready none) (.loop r) ⟨rfl, hL⟩
  have hsz : (w.alloc (.loop r)).heap.size - 1 = w.heap.size := by have := World.size_alloc w (.loop r); omega
  refine ⟨r, [], w.alloc (.loop r), ρ1, ?_, rfl, rfl, rfl, h2, h3, ?_, fun p hp => ?_⟩
  ·rw [hsz]
   simp [Instr.enterLoop, run_getLoop hblk]
   rfl
  ·exact hd.ext hH h3
  ·rw [h1] at hp; obtain rfl := Option.some.inj hp; rw [hsz]
theorem range_sound (hS : OkSpecs P S) {asg body : Code} {va vb : VCode} (ha : Sound P S asg va) (hb : Sound P S body vb) (g : Operand) (hg : okOpd g = true) (ps : Array Nat) : Sound P S (.rangeFunc g ps asg body) (.rangeF g ps.toList va vb) := by
 intro B vro ro n Q env σ ρ w a h hH hL hd hR Q' hQ
 simp only [vwp, vrange] at h
 have hgv := evalO_rel hL hg
 split at h
 ·rename_i f first cap hge
  rw [hge] at hgv
  split at h
  ·rename_i T hT
   obtain ⟨hin, h⟩ := h
   refine wpIn_rangeFunc fun fn _ => ?_
   obtain ⟨r, mark, w1, ρ1, he, hr1, hr2, hr3, hH1, hE1, hd1, hl1⟩ := enter_sound (P := P) hH hL hd hR hin fn ps asg body
   obtain ⟨hent, hit⟩ := hS.it f T hT
   obtain ⟨gs, ds, hgc, hf1, hf2⟩ : ∃ gs ds, a.eval g = .func (.func f) gs ds ∧ LRel ρ σ.n first.toList gs.toList ∧ LRel ρ σ.n cap.toList ds.toList := by
    cases hgc : a.eval g with
    | func fn0 gs ds =>
     rw [hgc] at hgv
     cases hgv with
     | func _ _ _ _ _ k1 k2 k3 k4 => exact ⟨gs, ds, rfl, LRel.of_array k1 k3, LRel.of_array k2 k4⟩
    | _ => rw [hgc] at hgv; cases hgv
   have hY : OkYield P σ.n (roundY (vwp S va (some σ.n)) (vwp S vb (some σ.n)) ps.toList env r σ.n) := round_sound ha hb ps.toList env r hr1 hr2 (by rw [hr3]) σ.n
   have hcalls := hit σ.n _ hY _ _ _ (h r) ρ1 w1 (gs ++ #[.func (.yield (w1.heap.size - 1)) #[] #[]] ++ ds) hH1 (by
    have k1 := hE1.lrel hf1
    have k2 := hE1.lrel hf2
    have k3 : LRel ρ1 (σ.push (.obj (.lp env r .ready none) true)).n [.func (.yield σ.n) #[] #[]] [.func (.yield (w1.heap.size - 1)) #[] #[]] :=
     LRel.cons (.yield _ _ (by simp) (fun p hp => (hl1 p hp).symm)) (LRel.nil _ _)
    have := (k1.append k3).append k2
    simpa using this)
   refine ⟨w1.heap.size - 1, mark, w1, { target := .fn (.func f) ds, args := gs ++ #[.func (.yield (w1.heap.size - 1)) #[] #[]] }, w1, f, gs ++ #[.func (.yield (w1.heap.size - 1)) #[] #[]] ++ ds, w1, ?_, ?_, fun _ _ => FF_fn _ _, ?_, (fun hh => by rw [FF_depth] at hh; cases hh), ?_⟩
   ·rw [FF_round]; exact he
   ·simp [resolve, hgc, Deferred.ofValue]; rfl
   ·simp only [invoke]; exact run_callFunc hent _ _
   ·refine (FF_calls hcalls).mono fun e w3 ⟨c, hec, v, ρ3, σ3, k1, k2, k3, k4⟩ => ?_
    subst hec
    unfold endR at k1
    split at k1
    ·rename_i env' r' st pend hb3
     obtain ⟨hst, k1⟩ := k1
     obtain ⟨p3, hp3, hblk3, henv3⟩ := lp_world k3 hb3
     have hpl : p3.blk = w1.heap.size - 1 := hl1 p3 (k4.pl σ.n (by simp) p3 hp3)
     obtain ⟨q1, q2⟩ := lp_set k3 hp3 hb3 .exhausted pend
     rw [hpl] at hblk3 q1 q2
     obtain ⟨q3, q4⟩ := q1.kill σ.n
     have hkk : (σ3.upd σ.n (.obj (.lp env' r' .exhausted pend) true)).kill σ.n = σ3.kill σ.n := by
      apply Heap.ext'
      ·intro j
       by_cases hj : j = σ.n
       ·subst hj; rw [Heap.get_kill_self, Heap.get_kill_self]
       ·rw [Heap.get_kill_ne _ hj, Heap.get_kill_ne _ hj, Heap.get_upd_ne _ _ hj]
      ·rfl
     rw [hkk] at q3 q4
     have hEall := hE1.trans (k4.trans (q2.trans q4))
     have hmk := hd1.ext hH1 (k4.trans (q2.trans q4))
     refine ⟨pend, _, by simp [Instr.endLoop, run_getLoop hblk3, run_setObj_of hblk3 (fun _ _ _ e => by cases e), hst]; rfl, ?_⟩
     have hnext : ∀ K : Env → Heap → Prop, K env (σ3.kill σ.n) → Next' B (List.length env) ρ σ w K { a with defers := mark ++ a.defers } (setO w3 (w1.heap.size - 1) (.loop { r' with state := .exhausted, pending := pend })) := fun K hK =>
      ⟨env, _, _, hK, rfl, q3, hEall.lrel hL, hmk, hEall⟩
     cases pend with
     | none => exact hQ _ _ _ (hnext _ k1)
     | some c =>
      cases c with
      | ret => exact wpIn_ret (hQ _ _ _ (hnext _ k1))
      | exit id => exact wpIn_exit (hQ _ _ _ (hnext _ k1))
      | _ => exact k1.elim
    ·exact k1.elim
  ·exact h.elim
 ·exact h.elim
end
end Go.V
namespace Go.V
open Go
theorem vbound_congr {ev ev' : Operand → Value} (x : Option Operand) (d : Nat) (h : ∀ y ∈ x.toList, ev y = ev' y) : vbound ev x d = vbound ev' x d := by
 cases x with
 | none => rfl
 | some y => simp only [vbound]; rw [h y (by simp)]
theorem xact_congr {o : XOp} {ev ev' : Operand → Value} {σ : Heap} (h : ∀ x ∈ o.opds, ev x = ev' x) : xact o ev σ = xact o ev' σ := by
 cases o <;> simp only [XOp.opds, List.mem_cons, List.not_mem_nil, or_false, forall_eq_or_imp, forall_eq] at h <;> simp only [xact] <;> (try simp only [h])
theorem vact_congr {o : VOp} {ev ev' : Operand → Value} {σ : Heap} (h : ∀ x ∈ o.opds, ev x = ev' x) : vact o ev σ = vact o ev' σ := by
 cases o
 case build z ps =>
  have : (ps.map fun p => (p.1, p.2.1, ev p.2.2)) = ps.map fun p => (p.1, p.2.1, ev' p.2.2) := List.map_congr_left fun p hp => by rw [h p.2.2 (List.mem_map.2 ⟨p, hp, rfl⟩)]
  simp only [vact, this]
 case buildSlice e z n ps =>
  have : (ps.map fun p => (p.1 * e.sz, e.sz, ev p.2)) = ps.map fun p => (p.1 * e.sz, e.sz, ev' p.2) := List.map_congr_left fun p hp => by rw [h p.2 (List.mem_map.2 ⟨p, hp, rfl⟩)]
  simp only [vact, this]
 case makeFunc fn a b =>
  have h1 : a.map ev = a.map ev' := List.map_congr_left fun x hx => h x (List.mem_append_left _ hx)
  have h2 : b.map ev = b.map ev' := List.map_congr_left fun x hx => h x (List.mem_append_right _ hx)
  simp only [vact, h1, h2]
 case slice size x lo hi mx =>
  have h1 := vbound_congr lo 0 (fun y hy => h y (by simp [VOp.opds] at *; exact .inr (.inl hy)))
  have h2 : ∀ n, vbound ev hi n = vbound ev' hi n := fun n => vbound_congr hi n (fun y hy => h y (by simp [VOp.opds] at *; exact .inr (.inr (.inl hy))))
  have h3 := vbound_congr mx 0 (fun y hy => h y (by simp [VOp.opds] at *; exact .inr (.inr (.inr hy))))
  have h4 := h x (by simp [VOp.opds])
  simp only [vact, h4]
  cases ev' x <;> simp only [h1, h2, h3]
 case sliceStr x lo hi =>
  have h1 := vbound_congr lo 0 (fun y hy => h y (by simp [VOp.opds] at *; exact .inr (.inl hy)))
  have h2 : ∀ n, vbound ev hi n = vbound ev' hi n := fun n => vbound_congr hi n (fun y hy => h y (by simp [VOp.opds] at *; exact .inr (.inr hy)))
  have h4 := h x (by simp [VOp.opds])
  simp only [vact, h4]
  cases ev' x <;> simp only [h1, h2]
 case ext o => exact xact_congr h
 all_goals
  simp only [VOp.opds, List.mem_cons, List.not_mem_nil, or_false, forall_eq_or_imp, forall_eq] at h
  simp only [vact]
  try simp only [h]
theorem vop_congr {S : VSpecs} {o : VOp} {env env' : Env} {σ : Heap} {K : Value → Heap → Prop} (h : ∀ x ∈ o.opds, evalO env x = evalO env' x) : vop S o env σ K = vop S o env' σ K := by
 cases o
 case callF f axs =>
  have : axs.map (evalO env) = axs.map (evalO env') := List.map_congr_left h
  simp only [vop, this]
 case callV f axs =>
  have h1 : evalO env f = evalO env' f := h f (by simp [VOp.opds])
  have h2 : axs.map (evalO env) = axs.map (evalO env') := List.map_congr_left fun x hx => h x (by simp [VOp.opds, hx])
  simp only [vop, h1, h2]
 case ext o =>
  by_cases hx : ∃ x, o = .nextMap x
  ·obtain ⟨x, rfl⟩ := hx
   have h1 : evalO env x = evalO env' x := h x (by simp [VOp.opds, XOp.opds])
   simp only [vop, h1]
  ·have e1 := vact_congr (σ := σ) h
   cases o <;> first | exact absurd ⟨_, rfl⟩ hx | (simp only [vop]; rw [e1])
 all_goals
  have e1 := vact_congr (σ := σ) h
  simp only [vop]
  rw [e1]
theorem Heap.Le.refl (σ : Heap) : σ.Le σ := ⟨Nat.le_refl _, fun _ _ h => h⟩
theorem Heap.Le.trans {σ σ' σ'' : Heap} (h : σ.Le σ') (k : σ'.Le σ'') : σ.Le σ'' := ⟨Nat.le_trans h.1 k.1, fun i b hb => k.2 i b (h.2 i b hb)⟩
theorem sl_le {σ σ' : Heap} (h : σ.Le σ') {esz : Nat} {v : Value} {xs : List Value} (hx : σ.sl esz v = some xs) : σ'.sl esz v = some xs := by
 unfold Heap.sl at hx ⊢
 split at hx
 ·exact hx
 ·rename_i i o n c
  split at hx
  ·rename_i cs e wr t hb
   simp only [h.2 i _ hb]
   exact hx
  ·cases hx
 ·cases hx
theorem mapAt_le {σ σ' : Heap} (h : σ.Le σ') {m : Nat} {x : List MEnt × Nat × Bool} (hx : σ.mapAt m = some x) : σ'.mapAt m = some x := by
 unfold Heap.mapAt at hx ⊢
 split at hx
 ·rename_i es clock wr hb
  simp only [h.2 m _ hb]; exact hx
 ·cases hx
theorem sameNil_le {σ σ' : Heap} (h : σ.Le σ') {kd : Nat} {a b : Value} {r : Bool} (hx : sameNil kd a b σ = some r) : sameNil kd a b σ' = some r := by
 unfold sameNil at hx ⊢
 split at hx <;> first
  | exact hx
  | (cases hx; done)
  | skip
 rename_i i o j q
 split at hx
 ·rename_i hc
  obtain ⟨h1, h2, h3⟩ := hc
  obtain ⟨b, hb⟩ := Option.isSome_iff_exists.1 h3
  rw [if_pos ⟨h1, h2, by rw [h.2 _ _ hb]; rfl⟩]; exact hx
 ·cases hx
theorem eqAgg_any {neg : Bool} {s : List MK} {x y : Operand} {ev : Operand → Value} {σ σ' σ1 : Heap} {v : Value} (h : xact (.eqAgg neg s x y) ev σ = some (v, σ1)) : xact (.eqAgg neg s x y) ev σ' = some (v, σ') := by
 simp only [xact] at h ⊢
 split at h
 ·split at h
  ·rename_i hc; rw [if_pos hc]; simp at h; obtain ⟨rfl, _⟩ := h; rfl
  ·cases h
 ·cases h
theorem xact_mono {o : XOp} {ev : Operand → Value} {σ σ' σ1 : Heap} {v : Value} (hk : (VOp.ext o).kind ≠ 2) (h : xact o ev σ = some (v, σ1)) (hl : σ.Le σ') : xact o ev σ' = some (v, σ') := by
 cases o <;> simp only [VOp.kind, VOp.quiet, XOp.quiet] at hk <;> try (exact absurd rfl hk)
 case eqAgg neg s x y => exact eqAgg_any h
 case eqNil kd neg x y =>
  simp only [xact] at h ⊢
  split at h
  ·rename_i r hr; rw [sameNil_le hl hr]; simp at h; obtain ⟨rfl, _⟩ := h; rfl
  ·cases h
 case lookup mk z ok x i =>
  simp only [xact] at h ⊢
  split at h
  ·rename_i hko
   rw [if_pos hko]
   split at h
   ·simp at h; obtain ⟨rfl, _⟩ := h; rfl
   ·rename_i m hxm
    split at h
    ·rename_i es clock wr hm
     simp only [mapAt_le hl hm]
     split at h
     ·rename_i hall
      rw [if_pos hall]
      split at h <;> (rename_i hf; simp at h; obtain ⟨rfl, _⟩ := h; rfl)
     ·cases h
    ·cases h
   ·cases h
  ·cases h
 case lenMap x =>
  simp only [xact] at h ⊢
  split at h
  ·simp at h; obtain ⟨rfl, _⟩ := h; rfl
  ·split at h
   ·rename_i es clock wr hm
    simp only [mapAt_le hl hm]
    simp at h; obtain ⟨rfl, _⟩ := h; rfl
   ·cases h
  ·cases h
 case entry x =>
  simp only [xact] at h ⊢
  split at h
  ·rename_i i hx
   split at h
   ·rename_i m since seen last wr hb
    simp only [hl.2 i _ hb]
    split at h
    ·rename_i es clock wr' b hm hlast
     simp only [mapAt_le hl hm, hlast]
     split at h
     ·rename_i hcl
      rw [if_pos hcl]
      split at h
      ·rename_i e hf
       split at h
       ·rename_i hp
        rw [if_pos hp]
        simp at h; obtain ⟨rfl, _⟩ := h; rfl
       ·cases h
      ·cases h
     ·cases h
    ·cases h
   ·cases h
  ·cases h
 case toUnsafe x =>
  simp only [xact] at h ⊢
  split at h
  ·simp at h; obtain ⟨rfl, _⟩ := h; rfl
  ·rename_i i o hx
   split at h
   ·rename_i c e wr t hb
    simp only [hl.2 i _ hb]
    split at h
    ·rename_i hc; rw [if_pos hc]; simp at h; obtain ⟨rfl, _⟩ := h; rfl
    ·cases h
   ·cases h
  ·cases h
 case fromUnsafe u sz x =>
  simp only [xact] at h ⊢
  split at h
  ·simp at h; obtain ⟨rfl, _⟩ := h; rfl
  ·rename_i i o hx
   split at h
   ·rename_i c e hb
    simp only [hl.2 i _ hb]
    split at h
    ·rename_i hc; rw [if_pos hc]; simp at h; obtain ⟨rfl, _⟩ := h; rfl
    ·cases h
   ·cases h
  ·cases h
 case sliceData x =>
  simp only [xact] at h ⊢
  split at h
  ·simp at h; obtain ⟨rfl, _⟩ := h; rfl
  ·rename_i i o n cap hx
   split at h
   ·rename_i hc
    obtain ⟨h1, h2⟩ := hc
    obtain ⟨b, hb⟩ := Option.isSome_iff_exists.1 h2
    rw [if_pos ⟨h1, by rw [hl.2 _ _ hb]; rfl⟩]
    simp at h; obtain ⟨rfl, _⟩ := h; rfl
   ·cases h
  ·cases h
 case bytesStr x =>
  simp only [xact] at h ⊢
  split at h
  ·rename_i a n c hx
   split at h
   ·rename_i xs hxs
    simp only [sl_le hl hxs]
    split at h
    ·rename_i s hs; simp at h; obtain ⟨rfl, _⟩ := h; rfl
    ·cases h
   ·cases h
  ·cases h
theorem vact_pure {o : VOp} {ev : Operand → Value} {σ σ' σ1 : Heap} {v : Value} (hk : o.kind = 0) (h : vact o ev σ = some (v, σ1)) : vact o ev σ' = some (v, σ') := by
  cases o
  case ext o =>
    cases o <;> first | (simp [VOp.kind, VOp.quiet, XOp.quiet] at hk; done) | skip
    case eqAgg neg s x y => exact eqAgg_any h
  case slice size x lo hi mx => cases mx <;> simp [VOp.kind, VOp.quiet] at hk
  case build z ps =>
    simp only [vact] at h ⊢
    split at h
    · simp at h; obtain ⟨rfl, _⟩ := h; rfl
    · cases h
  all_goals first
    | (simp [VOp.kind, VOp.quiet] at hk; done)
    | skip
  all_goals
    simp only [vact] at h ⊢
    (repeat' split at h) <;> first
      | (cases h; done)
      | (simp_all; done)
      | (simp_all
         obtain ⟨rfl, _⟩ := h
         first
          | rw [if_neg (by omega)]
          | rw [if_pos (by omega)])
theorem vact_mono {o : VOp} {ev : Operand → Value} {σ σ' σ1 : Heap} {v : Value} (hk : o.kind ≠ 2) (h : vact o ev σ = some (v, σ1)) (hl : σ.Le σ') : vact o ev σ' = some (v, σ') := by
 cases o
 case ext o => exact xact_mono hk h hl
 case load agg size a =>
  simp only [vact] at h ⊢
  split at h
  ·rename_i i o hx
   split at h
   ·rename_i c e wr t hb
    simp only [hl.2 i _ hb]
    split at h
    ·rename_i u hu; simp at h; obtain ⟨rfl, _⟩ := h; rfl
    ·cases h
   ·cases h
  ·cases h
 case slice size x lo hi mx =>
  cases mx with
  | some m => simp [VOp.kind, VOp.quiet] at hk
  | none =>
   simp only [vact] at h ⊢
   split at h
   ·rename_i a n cap hx
    split at h
    ·rename_i l k hl1 hl2
     unfold vslice at h ⊢
     split at h
     ·rename_i heq
      split at h
      ·rename_i hc; rw [if_pos hc]; simp at h; obtain ⟨rfl, _⟩ := h; rfl
      ·cases h
     ·rename_i i o n' cap' heq
      split at h
      ·rename_i c e wr t hb
       simp only [hl.2 i _ hb]
       simp only at h
       split at h
       ·rename_i hc; rw [if_pos hc]; simp at h; obtain ⟨rfl, _⟩ := h; rfl
       ·cases h
      ·cases h
     ·cases h
    ·rename_i hm; cases hm
    ·cases h
   ·cases h
 all_goals first
  | (exact absurd rfl hk)
  | (exact vact_pure rfl h)
end Go.V
namespace Go.V
open Go
section
variable {P : Program} {S : VSpecs} {B : Nat}
def EL (lv : List VOper) (env : Env) (tr : Nat → Value) (A : Nat → Bool) : Nat → Env
 | 0 => env
 | i + 1 => if A i then putE (EL lv env tr A i) ((lv[i]?).bind (·.dst)) (tr i) else EL lv env tr A i
theorem EL_length (lv : List VOper) (env : Env) (tr : Nat → Value) (A : Nat → Bool) : ∀ i, List.length (EL lv env tr A i) = List.length env
 | 0 => rfl
 | i + 1 => by
  simp only [EL]
  split
  ·rw [putE_length]; exact EL_length lv env tr A i
  ·exact EL_length lv env tr A i
theorem EL_congr (lv : List VOper) (env : Env) {tr tr' : Nat → Value} {A B : Nat → Bool} : ∀ i, (∀ l, l < i → tr l = tr' l) → (∀ l, l < i → A l = B l) → EL lv env tr A i = EL lv env tr' B i
 | 0, _, _ => rfl
 | i + 1, h, h' => by
  simp only [EL]
  rw [EL_congr lv env i (fun l hl => h l (by omega)) (fun l hl => h' l (by omega)), h i (by omega), h' i (by omega)]
theorem putE_get_ne (env : Env) (d : Option Nat) (v : Value) {x : Nat} (h : d ≠ some x) : (putE env d v)[x]? = env[x]? := by
 cases d with
 | none => rfl
 | some d => simp only [putE]; rw [List.getElem?_set_ne (by rintro rfl; exact h rfl)]
theorem EL_slot (lv : List VOper) (env : Env) (tr : Nat → Value) {A B : Nat → Bool} (x : Nat) : ∀ i, (∀ l, l < i → (lv[l]?).bind (·.dst) = some x → A l = B l) → (EL lv env tr A i)[x]? = (EL lv env tr B i)[x]?
 | 0, _ => rfl
 | i + 1, h => by
  have ih := EL_slot lv env tr x i (fun l hl hd => h l (by omega) hd)
  by_cases hd : (lv[i]?).bind (·.dst) = some x
  ·have hAB := h i (by omega) hd
   simp only [EL]
   rw [hAB]
   split
   ·rw [hd]; simp only [putE, List.getElem?_set]
    rw [EL_length, EL_length]
    rfl
   ·exact ih
  ·simp only [EL]
   split <;> split <;> first
    | exact ih
    | (rw [putE_get_ne _ _ _ hd]; exact ih)
    | (rw [putE_get_ne _ _ _ hd, putE_get_ne _ _ _ hd]; exact ih)
theorem EL_below (lv : List VOper) (env : Env) (tr : Nat → Value) (j : Nat) : ∀ i, j ≤ i → EL lv env tr (fun l => decide (l < j)) i = EL lv env tr (fun _ => true) j
  | 0, h => by obtain rfl : j = 0 := by omega
               rfl
  | i + 1, h => by
    by_cases hj : j = i + 1
    · subst hj; exact EL_congr lv env _ (fun _ _ => rfl) (fun l hl => by simp [hl])
    · simp only [EL]
      rw [if_neg (by simp; omega)]
      exact EL_below lv env tr j i (by omega)
def DFact (S : VSpecs) (d : DInfo) (lv : List VOper) (env : Env) (tr : Nat → Value) (hp : Nat → Heap) (i : Nat) : Prop :=
 ∀ v, lv[i]? = some v → ∃ b, vwant (EL lv env tr (fun _ => true) i) v.guard = some b ∧
  (b = true → v.op.kind = 2 → vop S v.op (EL lv env tr (fun _ => true) i) (hp (d.rank i)) (fun v' σ' => v' = tr i ∧ σ' = hp (d.rank i + 1))) ∧
  (b = true → v.op.kind = 1 → ∀ r, d.kmin i ≤ r → r ≤ d.kmax i → r ≤ d.rank lv.length → ∃ σ', vact v.op (evalO (EL lv env tr (fun _ => true) i)) (hp r) = some (tr i, σ')) ∧
  (b = true → v.op.kind ≠ 1 → v.op.kind ≠ 2 → ∃ σ', vact v.op (evalO (EL lv env tr (fun _ => true) i)) (hp (d.rank i)) = some (tr i, σ')) ∧
  (b = false → tr i = undef ∧ (v.op.kind = 2 → hp (d.rank i + 1) = hp (d.rank i)))
theorem vpend_mem {r : Nat} {σ : Heap} : ∀ {l : List (Nat × (Heap → Prop))}, vpend r σ l → ∀ c ∈ l, r ≤ c.1 → c.2 σ
 | [], _, _, h => by cases h
 | x :: l, h, c, hc => by
  rcases List.mem_cons.1 hc with rfl | hc
  ·exact h.1
  ·exact vpend_mem h.2 c hc
theorem vreads_some {op : VOp} {ev : Operand → Value} {v : Value} {τ : Heap} (h : vreads op ev v τ) : ∃ σ', vact op ev τ = some (v, σ') := by
 unfold vreads at h
 cases hv : vact op ev τ with
 | none => rw [hv] at h; exact h.elim
 | some q =>
  rw [hv] at h
  have h : q.1 = v := h
  exact ⟨q.2, by rw [← h]⟩
theorem dtrace (d : DInfo) (lv : List VOper) (hks : ∀ i v, lv[i]? = some v → d.k i = v.op.kind) (env : Env) (K : Env → Heap → Prop) : ∀ (rest : List VOper) (i : Nat), i ≤ lv.length → lv.drop i = rest → ∀ (tp : Nat → Value) (hq : Nat → Heap) (pend : List (Nat × (Heap → Prop))),
  vopsD S (d.opers rest i) (EL lv env tp (fun _ => true) i) ((List.range (d.rank i + 1)).map hq) (hq (d.rank i)) pend K →
  ∃ tr hp, (∀ l, l < i → tr l = tp l) ∧ (∀ r, r ≤ d.rank i → hp r = hq r) ∧ (∀ l, i ≤ l → l < lv.length → DFact S d lv env tr hp l) ∧ K (EL lv env tr (fun _ => true) lv.length) (hp (d.rank lv.length)) ∧
   (∀ c ∈ pend, ∀ r, d.rank i < r → r ≤ d.rank lv.length → r ≤ c.1 → c.2 (hp r)) := by
 intro rest
 induction rest with
 | nil =>
  intro i hil hi tp hq pend h
  have hl : lv.length ≤ i := by simpa using hi
  obtain rfl : i = lv.length := by omega
  simp only [DInfo.opers, vopsD] at h
  exact ⟨tp, hq, fun _ _ => rfl, fun _ _ => rfl, fun l h1 h2 => by omega, h, fun c _ r h1 h2 => by omega⟩
 | cons v rest ih =>
  intro i hil hi tp hq pend h
  have hlt : i < lv.length := by
   rcases Nat.lt_or_ge i lv.length with h' | h'
   ·exact h'
   ·rw [List.drop_eq_nil_of_le h'] at hi; cases hi
  have hv : lv[i]? = some v := by
   have := congrArg List.head? hi
   rw [List.head?_drop] at this
   simpa using this
  have hrest : lv.drop (i + 1) = rest := by
   have := congrArg List.tail hi
   simpa using this
  have hk := hks i v hv
  have hr1 : v.op.kind = 2 → d.rank (i + 1) = d.rank i + 1 := fun e => by simp only [DInfo.rank, hk, e, if_true]
  have hr0 : v.op.kind ≠ 2 → d.rank (i + 1) = d.rank i := fun e => by simp only [DInfo.rank, hk, e, if_false]
  simp only [DInfo.opers, vopsD] at h
  cases hw : vwant (EL lv env tp (fun _ => true) i) v.guard with
  | none => rw [hw] at h; exact h.elim
  | some b =>
   rw [hw] at h
   obtain ⟨ht, hf⟩ := h
   have go : ∀ (u : Value) (σ' : Heap) (pend' : List (Nat × (Heap → Prop))),
     vopsD S (d.opers rest (i + 1)) (putE (EL lv env tp (fun _ => true) i) v.dst u) (if v.op.kind = 2 then (List.range (d.rank i + 1)).map hq ++ [σ'] else (List.range (d.rank i + 1)).map hq) (if v.op.kind = 2 then σ' else hq (d.rank i)) pend' K →
     ∃ tr hp, (∀ l, l < i → tr l = tp l) ∧ (∀ r, r ≤ d.rank i → hp r = hq r) ∧ tr i = u ∧ (v.op.kind = 2 → hp (d.rank i + 1) = σ') ∧ (∀ l, i + 1 ≤ l → l < lv.length → DFact S d lv env tr hp l) ∧ K (EL lv env tr (fun _ => true) lv.length) (hp (d.rank lv.length)) ∧
      (∀ c ∈ pend', ∀ r, d.rank (i + 1) < r → r ≤ d.rank lv.length → r ≤ c.1 → c.2 (hp r)) := by
    intro u σ' pend' h
    let tp' : Nat → Value := fun l => if l = i then u else tp l
    let hq' : Nat → Heap := fun r => if v.op.kind = 2 ∧ r = d.rank i + 1 then σ' else hq r
    have e1 : EL lv env tp' (fun _ => true) (i + 1) = putE (EL lv env tp (fun _ => true) i) v.dst u := by
     simp only [EL, if_true]
     rw [EL_congr lv env (tr := tp') (tr' := tp) i (fun l hl => by simp [tp']; intro e; omega) (fun _ _ => rfl), hv]
     simp [tp']
    have e2 : (List.range (d.rank (i + 1) + 1)).map hq' = if v.op.kind = 2 then (List.range (d.rank i + 1)).map hq ++ [σ'] else (List.range (d.rank i + 1)).map hq := by
     simp only [DInfo.rank, hk]
     split
     ·rename_i hk2
      rw [List.range_succ, List.map_append]
      congr 1
      ·exact List.map_congr_left fun r hr => by have := List.mem_range.1 hr; simp only [hq']; rw [if_neg (by omega)]
      ·simp [hq', hk2]
     ·rename_i hk2
      exact List.map_congr_left fun r hr => by simp [hq', hk2]
    have e3 : hq' (d.rank (i + 1)) = if v.op.kind = 2 then σ' else hq (d.rank i) := by
     simp only [DInfo.rank, hk]
     split <;> rename_i hk2 <;> simp [hq', hk2]
    obtain ⟨tr, hp, k1, k2, k3, k4, k5⟩ := ih (i + 1) (by omega) hrest tp' hq' pend' (by rw [e1, e2, e3]; exact h)
    refine ⟨tr, hp, fun l hl => by rw [k1 l (by omega)]; simp [tp']; intro e; omega, fun r hr => ?_, by rw [k1 i (by omega)]; simp [tp'], fun hk2 => ?_, k3, k4, k5⟩
    ·rw [k2 r (by simp only [DInfo.rank]; split <;> omega)]
     simp only [hq']; rw [if_neg (by omega)]
    ·rw [k2 _ (by simp only [DInfo.rank, hk, hk2, if_true]; omega)]
     simp [hq', hk2]
   have fin : ∀ (u : Value) (σ' : Heap) (pend' : List (Nat × (Heap → Prop))), (∃ tr hp, (∀ l, l < i → tr l = tp l) ∧ (∀ r, r ≤ d.rank i → hp r = hq r) ∧ tr i = u ∧ (v.op.kind = 2 → hp (d.rank i + 1) = σ') ∧ (∀ l, i + 1 ≤ l → l < lv.length → DFact S d lv env tr hp l) ∧ K (EL lv env tr (fun _ => true) lv.length) (hp (d.rank lv.length)) ∧
      (∀ c ∈ pend', ∀ r, d.rank (i + 1) < r → r ≤ d.rank lv.length → r ≤ c.1 → c.2 (hp r))) →
     (b = true → v.op.kind = 2 → vop S v.op (EL lv env tp (fun _ => true) i) (hq (d.rank i)) (fun v' σ'' => v' = u ∧ σ'' = σ')) →
     (b = true → v.op.kind = 1 → (∀ r, d.kmin i ≤ r → r ≤ d.rank i → vreads v.op (evalO (EL lv env tp (fun _ => true) i)) u (hq r)) ∧ (d.rank i + 1 ≤ d.kmax i → (d.kmax i, vreads v.op (evalO (EL lv env tp (fun _ => true) i)) u) ∈ pend')) →
     (b = true → v.op.kind ≠ 1 → v.op.kind ≠ 2 → ∃ σ', vact v.op (evalO (EL lv env tp (fun _ => true) i)) (hq (d.rank i)) = some (u, σ')) →
     (b = false → u = undef ∧ (v.op.kind = 2 → σ' = hq (d.rank i))) →
     (∀ c ∈ pend, c ∈ pend' ∧ (v.op.kind = 2 → d.rank i + 1 ≤ c.1 → c.2 σ')) →
     ∃ tr hp, (∀ l, l < i → tr l = tp l) ∧ (∀ r, r ≤ d.rank i → hp r = hq r) ∧ (∀ l, i ≤ l → l < lv.length → DFact S d lv env tr hp l) ∧ K (EL lv env tr (fun _ => true) lv.length) (hp (d.rank lv.length)) ∧
      (∀ c ∈ pend, ∀ r, d.rank i < r → r ≤ d.rank lv.length → r ≤ c.1 → c.2 (hp r)) := by
    rintro u σ' pend' ⟨tr, hp, k1, k2, k3, k4, k5, k6, k7⟩ f1 f2 f2' f3 f4
    refine ⟨tr, hp, k1, k2, fun l hl hll => ?_, k6, fun c hc r hr1' hr2' hrc => ?_⟩
    ·by_cases hli : l = i
     ·subst hli
      intro v' hv'
      rw [hv] at hv'; obtain rfl := Option.some.inj hv'
      have e1 := EL_congr lv env (tr := tr) (tr' := tp) (A := fun _ => true) (B := fun _ => true) l k1 (fun _ _ => rfl)
      rw [e1]
      refine ⟨b, hw, fun hb hk2 => ?_, fun hb hk1 r hrm hrx hrn => ?_, fun hb hk1 hk2 => ?_, fun hb => ⟨by rw [k3]; exact (f3 hb).1, fun hk2 => ?_⟩⟩
      ·rw [k3, k4 hk2, k2 _ (Nat.le_refl _)]; exact f1 hb hk2
      ·obtain ⟨g1, g2⟩ := f2 hb hk1
       rw [k3]
       rcases Nat.lt_or_ge (d.rank l) r with h' | h'
       ·exact vreads_some (k7 _ (g2 (by omega)) r (by rw [hr0 (by omega)]; exact h') hrn hrx)
       ·rw [k2 r h']; exact vreads_some (g1 r hrm h')
      ·rw [k3, k2 _ (Nat.le_refl _)]; exact f2' hb hk1 hk2
      ·rw [k4 hk2, k2 _ (Nat.le_refl _)]; exact (f3 hb).2 hk2
     ·exact k5 l (by omega) hll
    ·obtain ⟨g1, g2⟩ := f4 c hc
     by_cases hk2 : v.op.kind = 2
     ·by_cases hre : r = d.rank i + 1
      ·subst hre; rw [k4 hk2]; exact g2 hk2 hrc
      ·exact k7 c g1 r (by rw [hr1 hk2]; omega) hr2' hrc
     ·exact k7 c g1 r (by rw [hr0 hk2]; exact hr1') hr2' hrc
   have hlen : ((List.range (d.rank i + 1)).map hq).length = d.rank i + 1 := by simp
   cases b with
   | false =>
    have hf := hf rfl
    by_cases hk2 : v.op.kind = 2
    ·rw [if_pos hk2] at hf
     obtain ⟨hp1, hf⟩ := hf
     refine fin undef (hq (d.rank i)) pend (go undef (hq (d.rank i)) pend ?_) (fun h => by cases h) (fun h => by cases h) (fun h => by cases h) (fun _ => ⟨rfl, fun _ => rfl⟩) (fun c hc => ⟨hc, fun _ hr => vpend_mem hp1 c hc (by rw [hlen]; exact hr)⟩)
     rw [if_pos hk2, ite_self]; exact hf
    ·rw [if_neg hk2] at hf
     refine fin undef (hq (d.rank i)) pend (go undef (hq (d.rank i)) pend ?_) (fun h => by cases h) (fun h => by cases h) (fun h => by cases h) (fun _ => ⟨rfl, fun _ => rfl⟩) (fun c hc => ⟨hc, fun hk => absurd hk hk2⟩)
     rw [if_neg hk2, ite_self]; exact hf
   | true =>
    have ht := ht rfl
    by_cases hk2 : v.op.kind = 2
    ·rw [if_pos hk2] at ht
     obtain ⟨u, σ', h1, h2, h3⟩ := ht
     refine fin u σ' pend (go u σ' pend ?_) (fun _ _ => h1) (fun _ hk => by omega) (fun _ _ hk => absurd hk2 hk) (fun h => by cases h) (fun c hc => ⟨hc, fun _ hr => vpend_mem h2 c hc (by rw [hlen]; exact hr)⟩)
     rw [if_pos hk2, if_pos hk2]
     exact h3
    ·rw [if_neg hk2] at ht
     by_cases hk1 : v.op.kind = 1
     ·rw [if_pos hk1] at ht
      cases hva : vact v.op (evalO (EL lv env tp (fun _ => true) i)) (hq (d.rank i)) with
      | none => rw [hva] at ht; exact ht.elim
      | some p =>
       rw [hva] at ht
       obtain ⟨g1, g2⟩ := ht
       refine fin p.1 (hq (d.rank i)) _ (go p.1 (hq (d.rank i)) _ (by rw [if_neg hk2, ite_self]; exact g2)) (fun _ hk => absurd hk hk2) (fun _ _ => ⟨fun r hr1' hr2' => ?_, fun hr => ?_⟩) (fun _ hk => absurd hk1 hk) (fun h => by cases h) (fun c hc => ⟨?_, fun hk => absurd hk hk2⟩)
       ·refine g1 _ ?_
        rw [List.mem_iff_getElem?]
        refine ⟨r - d.kmin i, ?_⟩
        rw [List.getElem?_drop, List.getElem?_map, List.getElem?_range (by omega)]
        simp; congr 1; omega
       ·rw [if_pos (by rw [hlen]; exact hr)]; simp
       ·split
        ·exact List.mem_cons_of_mem _ hc
        ·exact hc
     ·rw [if_neg hk1] at ht
      cases hva : vact v.op (evalO (EL lv env tp (fun _ => true) i)) (hq (d.rank i)) with
      | none => rw [hva] at ht; exact ht.elim
      | some p =>
       rw [hva] at ht
       refine fin p.1 (hq (d.rank i)) pend (go p.1 (hq (d.rank i)) pend (by rw [if_neg hk2, ite_self]; exact ht)) (fun _ hk => absurd hk hk2) (fun _ hk => absurd hk hk1) (fun _ _ _ => ⟨p.2, hva⟩) (fun h => by cases h) (fun c hc => ⟨hc, fun hk => absurd hk hk2⟩)
structure DOk (d : DInfo) (n : Nat) : Prop where
 edge : ∀ j, j < n → ∀ e ∈ d.ed.getD j [], e < j
 path : ∀ j, j < n → ∀ i, i < j → d.lt i j = true → ∃ e ∈ d.ed.getD j [], e = i ∨ (i < e ∧ d.lt i e = true)
 free : ∀ j, j < n → ∀ i, i < j → d.lt i j = false → d.touch i j = false ∧ ¬(d.k i = 2 ∧ d.k j = 2)
 kmin : ∀ j, j < n → d.k j = 1 → (d.kmin j ≤ d.rank j ∧ d.rank j ≤ d.kmax j) ∧ d.kmax j ≤ d.rank n ∧ ∀ l, l < n → d.k l = 2 → ((d.lt l j = true ↔ d.rank l < d.kmin j) ∧ (d.lt j l = true ↔ d.kmax j ≤ d.rank l))
theorem DOk.of {d : DInfo} (h : d.ok = true) : DOk d d.ks.length := by
 have h0 : ∀ j, j < d.ks.length → d.okE j = true ∧ d.okP j = true ∧ d.okK j = true := fun j hj => by
  have := List.all_eq_true.1 h j (List.mem_range.2 hj)
  simpa [Bool.and_eq_true] using this
 refine ⟨fun j hj e he => ?_, fun j hj i hi hlt => ?_, fun j hj i hi hlt => ?_, fun j hj hk => ?_⟩
 ·have := List.all_eq_true.1 (h0 j hj).1 e he
  simpa using this
 ·have := List.all_eq_true.1 (h0 j hj).2.1 i (List.mem_range.2 hi)
  simp only [hlt, if_true, List.any_eq_true, Bool.or_eq_true, Bool.and_eq_true, decide_eq_true_eq, beq_iff_eq] at this
  exact this
 ·have := List.all_eq_true.1 (h0 j hj).2.1 i (List.mem_range.2 hi)
  simp [hlt] at this
  exact ⟨this.1, fun hk => this.2.elim (fun h => h hk.1) (fun h => h hk.2)⟩
 ·have := (h0 j hj).2.2
  simp only [DInfo.okK, hk, BEq.rfl, Bool.not_true, Bool.false_or, Bool.and_eq_true, decide_eq_true_eq] at this
  refine ⟨this.1, this.2.1, fun l hl hk2 => ?_⟩
  have h1 := List.all_eq_true.1 this.2.2 l (List.mem_range.2 hl)
  simp only [hk2, BEq.rfl, Bool.not_true, Bool.false_or, Bool.and_eq_true, beq_iff_eq] at h1
  rw [h1.1, h1.2]; simp
theorem rank_mono (d : DInfo) {i j : Nat} (h : i ≤ j) : d.rank i ≤ d.rank j := by
  induction j with
  | zero => obtain rfl : i = 0 := by omega
            exact Nat.le_refl _
  | succ j ih =>
    by_cases hij : i = j + 1
    · subst hij; exact Nat.le_refl _
    · have := ih (by omega)
      simp only [DInfo.rank]; split <;> omega
theorem rank_lt (d : DInfo) {i j : Nat} (h : i < j) (hk : d.k i = 2) : d.rank i < d.rank j := by
 have := rank_mono d (show i + 1 ≤ j from h)
 simp only [DInfo.rank, hk, if_true] at this
 omega
theorem rank_hit (d : DInfo) : ∀ j r, r < d.rank j → ∃ l, l < j ∧ d.k l = 2 ∧ d.rank l = r
 | 0, r, h => by simp [DInfo.rank] at h
 | j + 1, r, h => by
  simp only [DInfo.rank] at h
  split at h
  ·rename_i hk
   rcases Nat.lt_or_ge r (d.rank j) with h' | h'
   ·obtain ⟨l, h1, h2⟩ := rank_hit d j r h'; exact ⟨l, by omega, h2⟩
   ·exact ⟨j, by omega, hk, by omega⟩
  ·obtain ⟨l, h1, h2⟩ := rank_hit d j r h; exact ⟨l, by omega, h2⟩
theorem closed_lt {d : DInfo} {n : Nat} (hd : DOk d n) {A : Nat → Bool} (hc : ∀ j, j < n → A j = true → ∀ e ∈ d.ed.getD j [], A e = true) : ∀ j, j < n → A j = true → ∀ i, i < j → d.lt i j = true → A i = true := by
 intro j
 induction j using Nat.strongRecOn with
 | ind j ih =>
  intro hj hA i hi hlt
  obtain ⟨e, he, h⟩ := hd.path j hj i hi hlt
  have hej := hd.edge j hj e he
  have hAe := hc j hj hA e he
  rcases h with rfl | ⟨h1, h2⟩
  ·exact hAe
  ·exact ih e hej (by omega) hAe i h1 h2
def cnt (A : Nat → Bool) : Nat → Nat
 | 0 => 0
 | i + 1 => cnt A i + if A i then 0 else 1
theorem cnt_zero {A : Nat → Bool} : ∀ {n}, cnt A n = 0 → ∀ i, i < n → A i = true
 | 0, _, i, h => by omega
 | n + 1, hc, i, h => by
  simp only [cnt] at hc
  by_cases hi : i = n
  ·subst hi; split at hc
   ·assumption
   ·omega
  ·exact cnt_zero (n := n) (by omega) i (by omega)
theorem cnt_set {A B : Nat → Bool} {j : Nat} (hA : A j = false) (hB : B j = true) (h : ∀ i, i ≠ j → A i = B i) : ∀ n, j < n → cnt A n = cnt B n + 1
 | 0, hj => by omega
 | n + 1, hj => by
  simp only [cnt]
  by_cases hjn : j = n
  ·subst hjn
   have : cnt A j = cnt B j := by
    have key : ∀ m, m ≤ j → cnt A m = cnt B m := by
     intro m
     induction m with
     | zero => intro _; rfl
     | succ m ih => intro hm; simp only [cnt]; rw [ih (by omega), h m (by omega)]
    exact key j (Nat.le_refl _)
   simp [hA, hB, this]
  ·have := cnt_set hA hB h n (by omega)
   rw [h n (by omega)]
   omega
theorem kind_le (o : VOp) : o.kind ≤ 2 := by
 unfold VOp.kind
 split <;> try omega
 split <;> omega
theorem vop_act {o : VOp} {env : Env} {σ : Heap} {p : Value × Heap} {K : Value → Heap → Prop} (hk : o.kind ≠ 2) (h : vact o (evalO env) σ = some p) (hK : K p.1 p.2) : vop S o env σ K := by
 cases o
 case callF => exact absurd rfl hk
 case callV => exact absurd rfl hk
 case ext x =>
  cases x
  case nextMap => exact absurd rfl hk
  all_goals (simp only [vop]; rw [h]; exact hK)
 all_goals (simp only [vop]; rw [h]; exact hK)
theorem act_quiet {o : VOp} {ev : Operand → Value} {σ σ' : Heap} {v : Value} (hk : o.kind ≠ 2) (h : vact o ev σ = some (v, σ')) : σ' = σ := by
 have := vact_mono hk h (Heap.Le.refl σ)
 rw [h] at this
 simp at this; exact this
theorem vwant_slot {env env' : Env} {g : Option (Nat × Bool)} (h : ∀ x b, g = some (x, b) → env[x]? = env'[x]?) : vwant env g = vwant env' g := by
 cases g with
 | none => rfl
 | some p =>
  obtain ⟨x, b⟩ := p
  simp only [vwant, List.getD_eq_getElem?_getD]
  rw [h x b rfl]
theorem evalO_slot {env env' : Env} {x : Operand} (h : ∀ t, x = .tmp t → env[t]? = env'[t]?) : evalO env x = evalO env' x := by
 cases x <;> try rfl
 rename_i t
 simp only [evalO, List.getD_eq_getElem?_getD]
 rw [h t rfl]
structure DInv (B : Nat) (d : DInfo) (lv : List VOper) (env : Env) (tr : Nat → Value) (hp : Nat → Heap) (ρ0 : Plc) (σ0 : Heap) (w0 : World) (A : Nat → Bool) (a : Act) (w : World) : Prop where
 closed : ∀ j, j < lv.length → A j = true → ∀ e ∈ d.ed.getD j [], A e = true
 run : ∃ m ρ, (∀ l, l < lv.length → d.k l = 2 → (A l = true ↔ d.rank l < m)) ∧ m ≤ d.rank lv.length ∧ HRel ρ (hp m) w ∧ LRel ρ (hp m).n (EL lv env tr A lv.length) a.tmps.toList ∧ Mks B a.defers w ∧ Ext ρ0 σ0 w0 ρ (hp m) w
structure DLink (P : Program) (ops : Array Oper) (pm : List Nat) (d : DInfo) (lv : List VOper) : Prop where
 comp : ∀ (p : Nat) (v : VOper), lv[p]? = some v → ∃ o, ops[pm.getD p 0]? = some o ∧ compOper P ops o = some v ∧ d.k p = v.op.kind
 touch : ∀ (i j : Nat) (u v : VOper), lv[i]? = some u → lv[j]? = some v → d.touch i j = false → (∀ x, u.dst = some x → x ∉ dNames v) ∧ (∀ x, v.dst = some x → x ∉ dNames u)
 size : pm.length = lv.length
theorem DLink.of {ops : Array Oper} {vs : List VOper} (h : ops.toList.mapM (compOper P ops) = some vs) {d0 : DInfo} {pm : List Nat} (hpm : ∀ i ∈ pm, i < vs.length) : DLink P ops pm (dAlt d0 vs pm) (altLv vs pm) := by
 obtain ⟨h1, h2⟩ := mapM_some _ _ _ h
 refine ⟨fun p v hv => ?_, fun i j u v hu hv ht => ?_, by simp [altLv]⟩
 ·simp only [altLv, List.getElem?_map, Option.map_eq_some_iff] at hv
  obtain ⟨i, hi, rfl⟩ := hv
  have hin := hpm i (List.mem_of_getElem? hi)
  have hio : i < ops.toList.length := by omega
  obtain ⟨v, hv, hc⟩ := h2 i _ (List.getElem?_eq_getElem hio)
  have hg : vs.getD i default = v := by simp [List.getD_eq_getElem?_getD, hv]
  have hp : pm.getD p 0 = i := by simp [List.getD_eq_getElem?_getD, hi]
  refine ⟨ops.toList[i], ?_, by rw [hg]; exact hc, ?_⟩
  ·rw [hp]; simp
  ·simp [DInfo.k, dAlt, altLv, List.getD_eq_getElem?_getD, hi]
 ·simp only [DInfo.touch, dAlt, dTouch, List.getD_eq_getElem?_getD, List.getElem?_map, hu, hv, Option.map_some, Option.getD_some, Bool.or_eq_false_iff] at ht
  refine ⟨fun x hx hm => ?_, fun x hx hm => ?_⟩
  ·have := ht.1; rw [hx] at this; simp at this; exact this hm
  ·have := ht.2; rw [hx] at this; simp at this; exact this hm
theorem dst_name {v : VOper} {x : Nat} (h : v.dst = some x) : x ∈ dNames v := by simp [dNames, h]
theorem opd_name {v : VOper} {x : Nat} (h : Operand.tmp x ∈ v.op.opds) : x ∈ dNames v := by
 refine List.mem_append_left _ (List.mem_append_right _ ?_)
 exact List.mem_filterMap.2 ⟨_, h, rfl⟩
theorem guard_name {v : VOper} {x : Nat} {b : Bool} (h : v.guard = some (x, b)) : x ∈ dNames v := by
 refine List.mem_append_right _ ?_
 simp [h]
theorem dstep_sound (hS : OkSpecs P S) {ro : Option Nat} {n : Nat} {ops : Array Oper} {pm : List Nat} {d : DInfo} {lv : List VOper} (hl : DLink P ops pm d lv) (hd : DOk d lv.length) {env : Env} {tr : Nat → Value} {hp : Nat → Heap}
    (hF : ∀ l, l < lv.length → DFact S d lv env tr hp l)
    {Q : Exit → Act → World → Prop} {ρ0 : Plc} {σ0 : Heap} {w0 : World} {A : Nat → Bool} {a : Act} {w : World} (hI : DInv B d lv env tr hp ρ0 σ0 w0 A a w)
    {j : Nat} (hjn : j < lv.length) (hunF : A j = false) (hafter : ∀ e ∈ d.ed.getD j [], A e = true) {A' : Nat → Bool} (hset : ∀ i, A' i = if i = j then true else A i) {K : Act → World → Prop} (hK : ∀ a' w', DInv B d lv env tr hp ρ0 σ0 w0 A' a' w' → K a' w') : wpOpIn (FF ro) n P ops Q (pm.getD j 0) K a w := by
  obtain ⟨v, hv⟩ : ∃ v, lv[j]? = some v := ⟨_, List.getElem?_eq_getElem hjn⟩
  obtain ⟨o, ho, hc, hk⟩ := hl.comp j v hv
  obtain ⟨hclosed, m, ρ, hm, hmn, hH, hL, hMk, hE⟩ := hI
  have hpred : ∀ i, i < j → d.lt i j = true → A i = true := by
    intro i hi hlt
    obtain ⟨e, he, h⟩ := hd.path j hjn i hi hlt
    have hej := hd.edge j hjn e he
    have hAe : A e = true := hafter e he
    rcases h with rfl | ⟨h1, h2⟩
    · exact hAe
    · exact closed_lt hd hclosed e (by omega) hAe i h1 h2
  have hsucc : ∀ i, i < lv.length → j < i → d.lt j i = true → A i = false := by
    intro i hi hji hlt
    cases hA : A i with
    | false => rfl
    | true => rw [closed_lt hd hclosed i hi hA j hji hlt] at hunF; cases hunF
  have hslot : ∀ x, x ∈ dNames v → (EL lv env tr A lv.length)[x]? = (EL lv env tr (fun _ => true) j)[x]? := by
    intro x hx
    rw [← EL_below lv env tr j lv.length (by omega)]
    refine EL_slot lv env tr x lv.length fun l hl0 hdst => ?_
    cases hlv : lv[l]? with
    | none => rw [hlv] at hdst; cases hdst
    | some u =>
      rw [hlv] at hdst
      rcases Nat.lt_trichotomy l j with h | h | h
      · have hlt : d.lt l j = true := by
          cases hlt : d.lt l j with
          | true => rfl
          | false => exact absurd hx ((hl.touch l j u v hlv hv (hd.free j hjn l h hlt).1).1 x hdst)
        simp only [h, decide_true]; exact hpred l h hlt
      · subst h; simp only [Nat.lt_irrefl, decide_false]; exact hunF
      · have hlt : d.lt j l = true := by
          cases hlt : d.lt j l with
          | true => rfl
          | false => exact absurd hx ((hl.touch j l v u hv hlv (hd.free l hl0 j h hlt).1).2 x hdst)
        have : ¬ l < j := by omega
        simp only [this, decide_false]; exact hsucc l hl0 h hlt
  obtain ⟨b, f1, f2, f3, f3', f4⟩ := hF j hjn v hv
  have hw : vwant (EL lv env tr A lv.length) v.guard = some b := by
    rw [vwant_slot (fun x b' hg => hslot x (guard_name hg))]; exact f1
  have hopd : ∀ x ∈ v.op.opds, evalO (EL lv env tr A lv.length) x = evalO (EL lv env tr (fun _ => true) j) x := fun x hx => evalO_slot fun t ht => hslot t (opd_name (ht ▸ hx))
  obtain ⟨hwant, hdst, hop⟩ := vwant_rel hc hL hw
  have hframe : EL lv env tr A' lv.length = putE (EL lv env tr A lv.length) v.dst (tr j) := by
    apply List.ext_getElem?
    intro x
    by_cases hx : v.dst = some x
    · have h1 : (EL lv env tr A' lv.length)[x]? = (EL lv env tr (fun l => decide (l < j + 1)) lv.length)[x]? := by
        refine EL_slot lv env tr x lv.length fun l hl0 hdst' => ?_
        rw [hset]
        by_cases hlj : l = j
        · subst hlj; simp
        · rw [if_neg hlj]
          cases hlv : lv[l]? with
          | none => rw [hlv] at hdst'; cases hdst'
          | some u =>
            rw [hlv] at hdst'
            have hxv := dst_name hx
            rcases Nat.lt_or_ge l j with h | h
            · have hlt : d.lt l j = true := by
                cases hlt : d.lt l j with
                | true => rfl
                | false => exact absurd hxv ((hl.touch l j u v hlv hv (hd.free j hjn l h hlt).1).1 x hdst')
              have : l < j + 1 := by omega
              simp only [this, decide_true]; exact hpred l h hlt
            · have h' : j < l := by omega
              have hlt : d.lt j l = true := by
                cases hlt : d.lt j l with
                | true => rfl
                | false => exact absurd hxv ((hl.touch j l v u hv hlv (hd.free l hl0 j h' hlt).1).2 x hdst')
              have : ¬ l < j + 1 := by omega
              simp only [this, decide_false]; exact hsucc l hl0 h' hlt
      rw [h1, EL_below lv env tr (j + 1) lv.length (by omega)]
      simp only [EL, if_true, hv, Option.bind_some, hx, putE]
      rw [List.getElem?_set, List.getElem?_set]
      simp only [if_true, EL_length]
    · rw [putE_get_ne _ _ _ hx]
      refine EL_slot lv env tr x lv.length fun l hl0 hdst' => ?_
      rw [hset]
      split
      · rename_i h; subst h
        rw [hv] at hdst'; exact absurd hdst' hx
      · rfl
  have hclosed' : ∀ i, i < lv.length → A' i = true → ∀ e ∈ d.ed.getD i [], A' e = true := by
    intro i hi hA e he
    rw [hset] at hA ⊢
    split
    · rfl
    · by_cases hij : i = j
      · subst hij
        exact hafter e he
      · rw [if_neg hij] at hA; exact hclosed i hi hA e he
  have hmj : d.k j = 2 → d.rank j = m := by
    intro hk2
    have h1 : ¬ d.rank j < m := fun h => by rw [(hm j hjn hk2).2 h] at hunF; cases hunF
    by_cases h2 : d.rank j = m
    · exact h2
    · obtain ⟨l, hlj, hkl, hrl⟩ := rank_hit d j m (by omega)
      have hlt : d.lt l j = true := by
        cases hlt : d.lt l j with
        | true => rfl
        | false => exact absurd ⟨hkl, hk2⟩ (hd.free j hjn l hlj hlt).2
      have := (hm l (by omega) hkl).1 (hpred l hlj hlt)
      omega
  have hm2 : d.k j = 2 → ∀ l, l < lv.length → d.k l = 2 → (A' l = true ↔ d.rank l < m + 1) := by
    intro hk2 l hl0 hkl
    rw [hset]
    have hjm := hmj hk2
    split
    · rename_i h; subst h; simp; omega
    · rename_i h
      rw [hm l hl0 hkl]
      have : d.rank l ≠ m := by
        rcases Nat.lt_or_ge l j with h' | h'
        · have := rank_lt d h' hkl; omega
        · have := rank_lt d (show j < l by omega) hk2; omega
      omega
  have hm1 : d.k j ≠ 2 → ∀ l, l < lv.length → d.k l = 2 → (A' l = true ↔ d.rank l < m) := by
    intro hk2 l hl0 hkl
    rw [hset, if_neg (by rintro rfl; exact hk2 hkl)]
    exact hm l hl0 hkl
  have hmn2 : d.k j = 2 → m + 1 ≤ d.rank lv.length := fun hk2 => by
    have := rank_lt d hjn hk2; have := hmj hk2; omega
  unfold wpOpIn
  simp only [ho]
  cases b with
  | false =>
    rw [hwant, if_neg (by simp)]
    obtain ⟨g1, g2⟩ := f4 rfl
    refine ⟨fun f _ => FF_fn _ _, hK _ _ ⟨hclosed', ?_⟩⟩
    by_cases hk2 : d.k j = 2
    · have hjm := hmj hk2
      have hh : hp (m + 1) = hp m := by rw [← hjm]; exact g2 (hk ▸ hk2)
      refine ⟨m + 1, ρ, hm2 hk2, hmn2 hk2, by rw [hh]; exact hH, ?_, by rw [put_defers]; exact hMk, by rw [hh]; exact hE⟩
      rw [hh, hframe, g1, hdst]; exact putE_rel hL undef_rel o.dst
    · refine ⟨m, ρ, hm1 hk2, hmn, hH, ?_, by rw [put_defers]; exact hMk, hE⟩
      rw [hframe, g1, hdst]; exact putE_rel hL undef_rel o.dst
  | true =>
    rw [hwant, if_pos rfl]
    by_cases hk2 : d.k j = 2
    · have hjm := hmj hk2
      have g1 := f2 rfl (hk ▸ hk2)
      rw [hjm] at g1
      rw [← vop_congr hopd] at g1
      refine step_sound hS hop hH hL g1 fun c w' ⟨u, ρ', σ', ⟨hu, hσ⟩, hvc, hH', hE'⟩ => hK _ _ ⟨hclosed', ?_⟩
      subst hu; subst hσ
      refine ⟨m + 1, ρ', hm2 hk2, hmn2 hk2, hH', ?_, by rw [put_defers]; exact hMk.ext hH hE', hE.trans hE'⟩
      rw [hframe, hdst]; exact putE_rel (hE'.lrel hL) hvc o.dst
    · have g2 : ∃ σ1, vact v.op (evalO (EL lv env tr A lv.length)) (hp m) = some (tr j, σ1) := by
        rw [vact_congr hopd]
        by_cases hk1 : d.k j = 1
        · obtain ⟨⟨k1, k4⟩, k3, k2⟩ := hd.kmin j hjn hk1
          refine f3 rfl (hk ▸ hk1) m ?_ ?_ hmn
          · rcases Nat.lt_or_ge m (d.kmin j) with h | h
            · obtain ⟨l, hl0, hkl, hrl⟩ := rank_hit d j m (by omega)
              have hlt := (k2 l (by omega) hkl).1.2 (by omega)
              have := (hm l (by omega) hkl).1 (hpred l hl0 hlt)
              omega
            · exact h
          · rcases Nat.lt_or_ge (d.kmax j) m with h | h
            · obtain ⟨l, hl0, hkl, hrl⟩ := rank_hit d lv.length (d.kmax j) (by omega)
              have hlt := (k2 l hl0 hkl).2.2 (by omega)
              have hdone := (hm l hl0 hkl).2 (by omega)
              rcases Nat.lt_trichotomy j l with h' | h' | h'
              · rw [hsucc l hl0 h' hlt] at hdone; cases hdone
              · subst h'; omega
              · exfalso
                have hr1 : d.rank l < d.rank j := rank_lt d h' hkl
                omega
            · exact h
        · have hk0 : v.op.kind = 0 := by have h2 : v.op.kind ≤ 2 := kind_le v.op
                                         omega
          obtain ⟨σ1, g1⟩ := f3' rfl (by omega) (by omega)
          exact ⟨hp m, vact_pure hk0 g1⟩
      obtain ⟨σ1, g2⟩ := g2
      have hq := act_quiet (hk ▸ hk2) g2
      subst hq
      refine step_sound hS (K := fun v' σ' => v' = tr j ∧ σ' = hp m) hop hH hL (vop_act (hk ▸ hk2) g2 ⟨rfl, rfl⟩) fun c w' ⟨u, ρ', σ', ⟨hu, hσ⟩, hvc, hH', hE'⟩ => hK _ _ ⟨hclosed', ?_⟩
      subst hu; subst hσ
      refine ⟨m, ρ', hm1 hk2, hmn, hH', ?_, by rw [put_defers]; exact hMk.ext hH hE', hE.trans hE'⟩
      rw [hframe, hdst]; exact putE_rel (hE'.lrel hL) hvc o.dst
theorem dfin {ops : Array Oper} {pm : List Nat} {d : DInfo} {lv : List VOper} (_hl : DLink P ops pm d lv) {env : Env} {tr : Nat → Value} {hp : Nat → Heap} {ρ0 : Plc} {σ0 : Heap} {w0 : World} {A : Nat → Bool} {a : Act} {w : World}
  (hI : DInv B d lv env tr hp ρ0 σ0 w0 A a w) (hall : ∀ j, j < lv.length → A j = true) : Next' B (List.length env) ρ0 σ0 w0 (fun env' σ' => env' = EL lv env tr (fun _ => true) lv.length ∧ σ' = hp (d.rank lv.length)) a w := by
 obtain ⟨hclosed, m, ρ, hm, hmn, hH, hL, hMk, hE⟩ := hI
 have hmm : m = d.rank lv.length := by
  rcases Nat.lt_or_ge m (d.rank lv.length) with h | h
  ·obtain ⟨l, h1, h2, h3⟩ := rank_hit d _ _ h
   have := (hm l h1 h2).1 (hall l h1)
   omega
  ·omega
 subst hmm
 have e := EL_congr lv env (tr := tr) (tr' := tr) (A := A) (B := fun _ => true) lv.length (fun _ _ => rfl) (fun l hl => hall l hl)
 exact ⟨_, ρ, _, ⟨rfl, rfl⟩, EL_length _ _ _ _ _, hH, by rw [← e]; exact hL, hMk, hE⟩
def DSched (pm : List Nat) (d : DInfo) (n : Nat) : (Nat → Bool) → List Nat → Prop
 | A, [] => ∀ p, p < n → A p = true
 | A, j :: rest => ∃ p, p < n ∧ pm.getD p 0 = j ∧ A p = false ∧ (∀ e ∈ d.ed.getD p [], A e = true) ∧ DSched pm d n (fun q => if q = p then true else A q) rest
theorem drun_sound (hS : OkSpecs P S) {ro : Option Nat} {n : Nat} {ops : Array Oper} {pm : List Nat} {d : DInfo} {lv : List VOper} (hl : DLink P ops pm d lv) (hd : DOk d lv.length) {env : Env} {tr : Nat → Value} {hp : Nat → Heap}
  (hF : ∀ l, l < lv.length → DFact S d lv env tr hp l)
  {Q : Exit → Act → World → Prop} {ρ0 : Plc} {σ0 : Heap} {w0 : World} {l2 : List Nat} (hQ : ∀ a w, Next' B (List.length env) ρ0 σ0 w0 (fun env' σ' => env' = EL lv env tr (fun _ => true) lv.length ∧ σ' = hp (d.rank lv.length)) a w → wpOpsIn (FF ro) n P ops Q l2 a w) :
  ∀ (l : List Nat) (A : Nat → Bool) (a : Act) (w : World), DSched pm d lv.length A l → DInv B d lv env tr hp ρ0 σ0 w0 A a w → wpOpsIn (FF ro) n P ops Q (l ++ l2) a w := by
 intro l
 induction l with
 | nil => intro A a w hs hI; exact hQ a w (dfin hl hI hs)
 | cons j rest ih =>
  intro A a w hs hI
  obtain ⟨p, hp', rfl, hA, he, hs'⟩ := hs
  rw [List.cons_append, wpOpsIn_cons]
  exact dstep_sound hS hl hd hF hI hp' hA he (fun _ => rfl) fun a' w' hI' => ih _ a' w' hs' hI'
def LinSched (ops : Array Oper) : Array Bool → List Nat → Prop
 | L, [] => ∀ j, j < ops.size → L.getD j false = true
 | L, j :: rest => j ∈ Region.ready .any ops L ∧ LinSched ops (L.setIfInBounds j true) rest
theorem set_getD (L : Array Bool) (j i : Nat) (hj : j < L.size) : (L.setIfInBounds j true).getD i false = if i = j then true else L.getD i false := by
 by_cases h : i = j
 ·subst h; simp [hj]
 ·simp [h, Array.getElem?_setIfInBounds_ne (Ne.symm h)]
theorem ready_all {ops : Array Oper} (hed : ∀ (j : Nat) (o : Oper), ops[j]? = some o → ∀ e ∈ dEdges o, e < j) {L : Array Bool} (hs : L.size = ops.size) (h : Region.ready .any ops L = []) : ∀ j, j < ops.size → L.getD j false = true := by
 intro j
 induction j using Nat.strongRecOn with
 | ind j ih =>
  intro hj
  cases hA : L.getD j false with
  | true => rfl
  | false =>
   exfalso
   have : j ∈ Region.ready .any ops L := by
    refine mem_ready.2 ⟨?_, ops[j], Array.getElem?_eq_getElem hj, fun e he hb => ?_⟩
    ·have h1 : L.getD j true = L[j] := by simp [hs, hj]
     have h2 : L.getD j false = L[j] := by simp [hs, hj]
     rw [h1, ← h2]; exact hA
    ·have := hed j ops[j] (Array.getElem?_eq_getElem hj) e.on (List.mem_map.2 ⟨e, List.mem_filter.2 ⟨by simpa using he, hb⟩, rfl⟩)
     exact ih _ this (by omega)
   rw [h] at this; cases this
theorem ready_un {ops : Array Oper} {L : Array Bool} (hs : L.size = ops.size) {j : Nat} (h : j ∈ Region.ready .any ops L) : j < ops.size ∧ L.getD j false = false ∧ ∃ o, ops[j]? = some o ∧ ∀ e ∈ dEdges o, L.getD e false = true := by
 obtain ⟨h1, o, ho, h2⟩ := mem_ready.1 h
 have hjn : j < ops.size := (Array.getElem?_eq_some_iff.1 ho).1
 refine ⟨hjn, by simp [hs, hjn] at h1 ⊢; exact h1, o, ho, fun e he => ?_⟩
 obtain ⟨x, hx, rfl⟩ := List.mem_map.1 he
 obtain ⟨hx1, hx2⟩ := List.mem_filter.1 hx
 exact h2 x (by simpa using hx1) hx2
theorem lin_go {ops : Array Oper} (hed : ∀ (j : Nat) (o : Oper), ops[j]? = some o → ∀ e ∈ dEdges o, e < j) : ∀ (fuel t : Nat) (L : Array Bool), L.size = ops.size → cnt (fun i => L.getD i false) ops.size ≤ fuel →
  LinSched ops L (Region.linearise.go .any ops fuel t L []) := by
 intro fuel
 induction fuel with
 | zero =>
  intro t L hs hc
  simp only [Region.linearise.go, List.reverse_nil, LinSched]
  exact cnt_zero (by omega)
 | succ fuel ih =>
  intro t L hs hc
  simp only [Region.linearise.go]
  change LinSched ops L (match (Region.ready .any ops L)[t % (Region.ready .any ops L).length]? with
   | some i => Region.linearise.go .any ops fuel (t / (Region.ready .any ops L).length) (L.setIfInBounds i true) [i]
   | none => [].reverse)
  cases hi : (Region.ready .any ops L)[t % (Region.ready .any ops L).length]? with
  | none =>
   have hnil : Region.ready .any ops L = [] := by
    cases hr : Region.ready .any ops L with
    | nil => rfl
    | cons x xs =>
     rw [hr] at hi
     have hlt : t % (x :: xs).length < (x :: xs).length := Nat.mod_lt _ (by simp)
     simp at hi
     simp at hlt
     omega
   simp only [List.reverse_nil, LinSched]
   exact ready_all hed hs hnil
  | some i =>
   simp only []
   rw [linearise_go_acc, List.reverse_singleton, List.singleton_append]
   have hir := List.mem_of_getElem? hi
   obtain ⟨hin, hun, _⟩ := ready_un hs hir
   refine ⟨hir, ih _ _ (by simp [hs]) ?_⟩
   have hjL : i < L.size := by rw [hs]; exact hin
   have := cnt_set (A := fun i => L.getD i false) (B := fun k => (L.setIfInBounds i true).getD k false) (j := i) hun (by simp only [set_getD L i i hjL, if_true]) (fun k hk => by simp only [set_getD L i k hjL, if_neg hk]) ops.size hin
   omega
theorem lin_mem {ops : Array Oper} : ∀ (l : List Nat) (L : Array Bool), L.size = ops.size → LinSched ops L l → l.Nodup ∧ ∀ j, j ∈ l ↔ (j < ops.size ∧ L.getD j false = false) := by
 intro l
 induction l with
 | nil => intro L hs h; exact ⟨List.nodup_nil, fun j => ⟨fun h => (by cases h), fun ⟨h1, h2⟩ => by rw [h j h1] at h2; cases h2⟩⟩
 | cons i l ih =>
  intro L hs h
  obtain ⟨hir, h'⟩ := h
  obtain ⟨hin, hun, _⟩ := ready_un hs hir
  have hjL : i < L.size := by rw [hs]; exact hin
  obtain ⟨k1, k2⟩ := ih _ (by simp [hs]) h'
  refine ⟨List.nodup_cons.2 ⟨fun hm => ?_, k1⟩, fun j => ?_⟩
  ·have := ((k2 i).1 hm).2
   rw [set_getD L i i hjL, if_pos rfl] at this; cases this
  ·rw [List.mem_cons, k2 j, set_getD L i j hjL]
   by_cases hji : j = i
   ·subst hji; simp [hin, hun]
   ·simp [hji]
structure DBase (ops : Array Oper) (d : DInfo) : Prop where
 ed : ∀ (j : Nat) (o : Oper), ops[j]? = some o → d.ed.getD j [] = dEdges o
 edge : ∀ j, j < ops.size → ∀ e ∈ d.ed.getD j [], e < j
 path : ∀ j, j < ops.size → ∀ i, i < j → d.lt i j = true → ∃ e ∈ d.ed.getD j [], e = i ∨ (i < e ∧ d.lt i e = true)
 up : ∀ i j, d.lt i j = true → i < j
 size : d.ks.length = ops.size
theorem closed_base {ops : Array Oper} {d : DInfo} (hb : DBase ops d) {A : Nat → Bool} (hc : ∀ j, j < ops.size → A j = true → ∀ e ∈ d.ed.getD j [], A e = true) : ∀ j, j < ops.size → A j = true → ∀ i, i < j → d.lt i j = true → A i = true := by
 intro j
 induction j using Nat.strongRecOn with
 | ind j ih =>
  intro hj hA i hi hlt
  obtain ⟨e, he, h⟩ := hb.path j hj i hi hlt
  have hej := hb.edge j hj e he
  have hAe := hc j hj hA e he
  rcases h with rfl | ⟨h1, h2⟩
  ·exact hAe
  ·exact ih e hej (by omega) hAe i h1 h2
theorem lin_lt {ops : Array Oper} {d : DInfo} (hb : DBase ops d) : ∀ (l : List Nat) (L : Array Bool), L.size = ops.size → (∀ j, j < ops.size → L.getD j false = true → ∀ e ∈ d.ed.getD j [], L.getD e false = true) → LinSched ops L l →
  l.Pairwise fun j i => d.lt i j = false := by
 intro l
 induction l with
 | nil => intro L _ _ _; exact List.Pairwise.nil
 | cons j l ih =>
  intro L hs hc h
  obtain ⟨hir, h'⟩ := h
  obtain ⟨hin, hun, o, ho, hed⟩ := ready_un hs hir
  have hjL : j < L.size := by rw [hs]; exact hin
  have hc' : ∀ k, k < ops.size → (L.setIfInBounds j true).getD k false = true → ∀ e ∈ d.ed.getD k [], (L.setIfInBounds j true).getD e false = true := by
   intro k hk hA e he
   rw [set_getD L j e hjL]
   split
   ·rfl
   ·rw [set_getD L j k hjL] at hA
    split at hA
    ·rename_i hkj; subst hkj
     rw [hb.ed _ o ho] at he; exact hed e he
    ·exact hc k hk hA e he
  obtain ⟨k1, k2⟩ := lin_mem l _ (by simp [hs]) h'
  refine List.Pairwise.cons (fun i hi => ?_) (ih _ (by simp [hs]) hc' h')
  cases hlt : d.lt i j with
  | false => rfl
  | true =>
   exfalso
   have hij := hb.up i j hlt
   have hA : (L.setIfInBounds j true).getD j false = true := by rw [set_getD L j j hjL, if_pos rfl]
   have := closed_base hb hc' j hin hA i hij hlt
   rw [((k2 i).1 hi).2] at this; cases this
theorem exts_complete (lt : Nat → Nat → Bool) : ∀ (s l : List Nat) (n : Nat), s.Perm l → l.length ≤ n → s.Pairwise (fun j i => lt i j = false) → s ∈ exts lt n l := by
 intro s
 induction s with
 | nil =>
  intro l n hp hn _
  have : l = [] := hp.symm.eq_nil
  subst this
  cases n <;> simp [exts]
 | cons k s ih =>
  intro l n hp hn hs
  have hk : k ∈ l := hp.mem_iff.1 (by simp)
  cases l with
  | nil => cases hk
  | cons x xs =>
   cases n with
   | zero => simp at hn
   | succ n =>
    simp only [exts]
    refine List.mem_flatMap.2 ⟨k, hk, ?_⟩
    obtain ⟨h1, h2⟩ := List.pairwise_cons.1 hs
    have hall : ((x :: xs).all fun i => i == k || !lt i k) = true := by
     refine List.all_eq_true.2 fun i hi => ?_
     have : i ∈ k :: s := hp.mem_iff.2 hi
     rcases List.mem_cons.1 this with rfl | h
     ·simp
     ·simp [h1 i h]
    rw [if_pos hall]
    refine List.mem_map.2 ⟨s, ih _ n ?_ ?_ h2, rfl⟩
    ·exact (List.cons_perm_iff_perm_erase.1 hp).2
    ·rw [List.length_erase_of_mem hk]; simp at hn ⊢; omega
theorem split_eq {j : Nat} : ∀ (a a' b b' : List Nat), j ∉ a → j ∉ a' → a ++ j :: b = a' ++ j :: b' → a = a' := by
 intro a
 induction a with
 | nil =>
  intro a' b b' _ h' h
  cases a' with
  | nil => rfl
  | cons x a' => simp at h; exact absurd h.1 (by rintro rfl; exact h' (by simp))
 | cons x a ih =>
  intro a' b b' h1 h2 h
  cases a' with
  | nil => simp at h; exact absurd h.1 (by rintro rfl; exact h1 (by simp))
  | cons y a' =>
   simp at h
   obtain ⟨rfl, h⟩ := h
   rw [ih a' b b' (fun hm => h1 (by simp [hm])) (fun hm => h2 (by simp [hm])) h]
theorem lin_resp {ops : Array Oper} {d : DInfo} (hb : DBase ops d) : ∀ (l : List Nat) (L : Array Bool), L.size = ops.size → LinSched ops L l → ∀ pre j post, l = pre ++ j :: post → ∀ e ∈ d.ed.getD j [], L.getD e false = true ∨ e ∈ pre := by
 intro l
 induction l with
 | nil => intro L _ _ pre j post h; simp at h
 | cons i l ih =>
  intro L hs h pre j post he e hee
  obtain ⟨hir, h'⟩ := h
  obtain ⟨hin, hun, o, ho, hed⟩ := ready_un hs hir
  have hjL : i < L.size := by rw [hs]; exact hin
  cases pre with
  | nil =>
   simp at he
   obtain ⟨rfl, _⟩ := he
   rw [hb.ed _ o ho] at hee
   exact .inl (hed e hee)
  | cons x pre =>
   simp at he
   obtain ⟨rfl, he⟩ := he
   rcases ih _ (by simp [hs]) h' pre j post he e hee with h1 | h1
   ·rw [set_getD L i e hjL] at h1
    split at h1
    ·rename_i hei; subst hei; exact .inr (by simp)
    ·exact .inl h1
   ·exact .inr (by simp [h1])
theorem dsched_chunk {d0 d : DInfo} {pm l : List Nat} (N : Nat) (hN : ∀ i ∈ l, i < N) (hpn : pm.Nodup) (hln : l.Nodup) (hmem : ∀ i, i ∈ pm ↔ i ∈ l) (hresp : ∀ pre j post, l = pre ++ j :: post → ∀ e ∈ d0.ed.getD j [], e ∈ l → e ∈ pre)
  (hed : ∀ p, p < pm.length → d.ed.getD p [] = altEd d0 pm p) (hf : pm.filter (fun i => d0.k i == 2) = l.filter (fun i => d0.k i == 2)) :
  ∀ (post pre : List Nat), l = pre ++ post → DSched pm d pm.length (fun q => pre.contains (pm.getD q N)) post := by
 intro post
 induction post with
 | nil =>
  intro pre hl p hp
  have hm : pm.getD p N ∈ pm := by simp [List.getD_eq_getElem?_getD, hp]
  have := (hmem _).1 hm
  rw [hl, List.append_nil] at this
  simpa using this
 | cons j post ih =>
  intro pre hl
  have hjl : j ∈ l := by rw [hl]; simp
  have hjm := (hmem j).2 hjl
  have hp : pm.idxOf j < pm.length := List.idxOf_lt_length_of_mem hjm
  have hpj : pm[pm.idxOf j]'hp = j := List.getElem_idxOf hp
  have hg : ∀ z, pm.getD (pm.idxOf j) z = j := fun z => by simp [List.getD_eq_getElem?_getD, hp]
  have hjpre : j ∉ pre := fun hm => by
   rw [hl] at hln
   exact (List.nodup_append.1 hln).2.2 j hm j (by simp) rfl
  refine ⟨pm.idxOf j, hp, hg 0, by simp only [hg]; simpa using hjpre, fun e he => ?_, ?_⟩
  ·rw [hed _ hp] at he
   rcases List.mem_append.1 he with he | he
   ·obtain ⟨e0, he0, rfl⟩ := List.mem_map.1 he
    rw [hg] at he0
    obtain ⟨he1, he2⟩ := List.mem_filter.1 he0
    have he2 : e0 ∈ pm := by simpa using he2
    have hep : pm.idxOf e0 < pm.length := List.idxOf_lt_length_of_mem he2
    have : pm.getD (pm.idxOf e0) N = e0 := by simp [List.getD_eq_getElem?_getD, hep]
    simp only [this]
    have := hresp pre j post hl e0 he1 ((hmem e0).1 he2)
    simpa using this
   ·split at he
    ·rename_i hk2
     rw [hg] at hk2
     obtain ⟨hq, hk⟩ := List.mem_filter.1 (List.mem_of_getLast? (Option.mem_toList.1 he))
     have hq' : e < pm.idxOf j := List.mem_range.1 hq
     have hel : e < pm.length := by omega
     have heq : pm.getD e N = pm[e]'hel := by simp [List.getD_eq_getElem?_getD, hel]
     have heq0 : pm.getD e 0 = pm[e]'hel := by simp [List.getD_eq_getElem?_getD, hel]
     rw [heq0] at hk
     simp only [heq]
     have hsplit : pm = pm.take (pm.idxOf j) ++ j :: pm.drop (pm.idxOf j + 1) := by
      conv => lhs; rw [← List.take_append_drop (pm.idxOf j) pm, List.drop_eq_getElem_cons hp, hpj]
     have hjt : j ∉ pm.take (pm.idxOf j) := by
      intro hm
      have hn := hpn
      rw [hsplit] at hn
      exact (List.nodup_append.1 hn).2.2 j hm j (by simp) rfl
     have hff : (pm.take (pm.idxOf j)).filter (fun i => d0.k i == 2) ++ j :: (pm.drop (pm.idxOf j + 1)).filter (fun i => d0.k i == 2) = pre.filter (fun i => d0.k i == 2) ++ j :: post.filter (fun i => d0.k i == 2) := by
      have h1 := hf
      rw [hsplit, hl] at h1
      simp only [List.filter_append, List.filter_cons, hk2, if_true] at h1
      exact h1
     have := split_eq _ _ _ _ (fun hm => hjt (List.mem_filter.1 hm).1) (fun hm => hjpre (List.mem_filter.1 hm).1) hff
     have hin : pm[e] ∈ (pm.take (pm.idxOf j)).filter (fun i => d0.k i == 2) := List.mem_filter.2 ⟨List.mem_take_iff_getElem.2 ⟨e, by omega, rfl⟩, hk⟩
     rw [this] at hin
     have := (List.mem_filter.1 hin).1
     simpa using this
    ·cases he
  ·have hfun : (fun q => if q = pm.idxOf j then true else pre.contains (pm.getD q N)) = fun q => (pre ++ [j]).contains (pm.getD q N) := by
    funext q
    by_cases hq : q = pm.idxOf j
    ·subst hq; simp only [if_true, hg]; simp
    ·rw [if_neg hq]
     have hne : pm.getD q N ≠ j := by
      intro he
      rcases Nat.lt_or_ge q pm.length with hql | hql
      ·have h1 : pm[q] = j := by simpa [List.getD_eq_getElem?_getD, hql] using he
       exact hq ((List.getElem_inj (h₀ := hql) (h₁ := hp) hpn).1 (h1.trans hpj.symm))
      ·simp [List.getD_eq_getElem?_getD, List.getElem?_eq_none hql] at he
       have := hN j hjl
       omega
     rw [Bool.eq_iff_iff]
     simp only [List.contains_iff_mem, List.mem_append, List.mem_singleton, hne, or_false]
   rw [hfun]
   exact ih (pre ++ [j]) (by rw [hl]; simp)
theorem base_of {ops : Array Oper} {vs : List VOper} (h : ops.toList.mapM (compOper P ops) = some vs) (hok : (dInfo ops.toList vs).okB = true) : DBase ops (dInfo ops.toList vs) := by
 have hlen : vs.length = ops.size := by have := (mapM_some _ _ _ h).1; simpa using this
 have hks : (dInfo ops.toList vs).ks.length = ops.size := by simp [dInfo, hlen]
 have hok' := hok
 unfold DInfo.okB at hok'
 rw [Bool.and_eq_true, decide_eq_true_eq] at hok'
 obtain ⟨han, hok2⟩ := hok'
 have h0 : ∀ j, j < ops.size → (dInfo ops.toList vs).okE j = true ∧ (dInfo ops.toList vs).an.getD j 0 < 2 ^ j ∧ ((List.range j).all fun i => !((dInfo ops.toList vs).lt i j) || ((dInfo ops.toList vs).ed.getD j []).any (fun e => e == i || decide (i < e) && (dInfo ops.toList vs).lt i e)) = true := fun j hj => by
  have := List.all_eq_true.1 hok2 j (List.mem_range.2 (by rw [hks]; exact hj))
  rw [Bool.and_eq_true, Bool.and_eq_true, decide_eq_true_eq] at this
  exact this
 have hedge : ∀ j, j < ops.size → ∀ e ∈ (dInfo ops.toList vs).ed.getD j [], e < j := fun j hj e he => by
  have := List.all_eq_true.1 (h0 j hj).1 e he
  simpa using this
 refine ⟨fun j o ho => by simp [dInfo, List.getD_eq_getElem?_getD, ho], hedge, fun j hj i hi hlt => ?_, fun i j hlt => ?_, hks⟩
 ·have := List.all_eq_true.1 (h0 j hj).2.2 i (List.mem_range.2 hi)
  simp only [hlt, Bool.not_true, Bool.false_or, List.any_eq_true, Bool.or_eq_true, Bool.and_eq_true, decide_eq_true_eq, beq_iff_eq] at this
  exact this
 ·rcases Nat.lt_or_ge i j with h | h
  ·exact h
  ·exfalso
   unfold DInfo.lt at hlt
   rcases Nat.lt_or_ge j ops.size with hj | hj
   ·have h1 := (h0 j hj).2.1
    have h2 : (dInfo ops.toList vs).an.getD j 0 < 2 ^ i := Nat.lt_of_lt_of_le h1 (Nat.pow_le_pow_right (by omega) h)
    rw [Nat.testBit_lt_two_pow h2] at hlt; cases hlt
   ·have : (dInfo ops.toList vs).an.getD j 0 = 0 := by
     rw [List.getD_eq_getElem?_getD, List.getElem?_eq_none (by rw [han, hks]; exact hj)]; rfl
    rw [this, Nat.zero_testBit] at hlt; cases hlt
theorem split_at {t : Nat} : ∀ (l : List Nat), l.Pairwise (fun j i => ¬ (i < t ∧ t ≤ j)) → l = l.filter (fun i => decide (i < t)) ++ l.filter (fun i => decide (t ≤ i))
 | [], _ => rfl
 | x :: l, h => by
  obtain ⟨h1, h2⟩ := List.pairwise_cons.1 h
  have ih := split_at l h2
  by_cases hx : x < t
  ·have hx' : ¬ t ≤ x := by omega
   simp only [List.filter_cons, hx, decide_true, if_true, hx', decide_false, List.cons_append, Bool.false_eq_true, if_false]
   rw [← ih]
  ·have hx' : t ≤ x := by omega
   have hnil : l.filter (fun i => decide (i < t)) = [] := List.filter_eq_nil_iff.2 fun i hi => by
    have := h1 i hi
    simp; omega
   have hall : l.filter (fun i => decide (t ≤ i)) = l := List.filter_eq_self.2 fun i hi => by
    have := h1 i hi
    simp; omega
   simp only [List.filter_cons, hx, decide_false, hx', decide_true, if_true, hnil, hall]
   simp
theorem chunk_sound (hS : OkSpecs P S) {ro : Option Nat} {n : Nat} {ops : Array Oper} {vs : List VOper} (hvs : ops.toList.mapM (compOper P ops) = some vs) {d0 : DInfo} (_hb : DBase ops d0) {l l2 idx pm : List Nat} (hln : l.Nodup) (hlt : ∀ i ∈ l, i < ops.size) (hidx : ∀ i, i ∈ l ↔ i ∈ idx)
  (hresp : ∀ pre j post, l = pre ++ j :: post → ∀ e ∈ d0.ed.getD j [], e ∈ l → e ∈ pre) (hmm : okPm d0 vs idx (l.filter fun i => d0.k i == 2) pm = true)
  {env : Env} {σ : Heap} {K : Env → Heap → Prop} {ρ : Plc} {w : World} {a : Act} (hdl : vopsD S ((dAlt d0 vs pm).opers (altLv vs pm) 0) env [σ] σ [] K) (hH : HRel ρ σ w) (hL : LRel ρ σ.n env a.tmps.toList) (hMk : Mks B a.defers w)
  {Q : Exit → Act → World → Prop} (hQ : ∀ a' w', Next' B (List.length env) ρ σ w K a' w' → wpOpsIn (FF ro) n P ops Q l2 a' w') : wpOpsIn (FF ro) n P ops Q (l ++ l2) a w := by
 have hvl : vs.length = ops.size := by have := (mapM_some _ _ _ hvs).1; simpa using this
 simp only [okPm, Bool.and_eq_true, decide_eq_true_eq, List.all_eq_true, List.contains_iff_mem] at hmm
 obtain ⟨m1, m2, m3, m4, m5⟩ := hmm
 have hpmem : ∀ i, i ∈ pm ↔ i ∈ l := fun i => by
  rw [hidx i]
  exact ⟨fun hi => m2 i hi, fun hi => m1 i hi⟩
 have hpi : ∀ i ∈ pm, i < vs.length := fun i hi => by
  have := hlt i ((hpmem i).1 hi)
  omega
 have hl : DLink P ops pm (dAlt d0 vs pm) (altLv vs pm) := DLink.of hvs hpi
 have hlvl : (altLv vs pm).length = pm.length := by simp [altLv]
 have hks : (dAlt d0 vs pm).ks.length = (altLv vs pm).length := by simp [dAlt]
 have hd := DOk.of m5
 rw [hks] at hd
 have hed : ∀ p, p < pm.length → (dAlt d0 vs pm).ed.getD p [] = altEd d0 pm p := fun p hp => by
  simp [dAlt, List.getD_eq_getElem?_getD, hp]
 have hsched := dsched_chunk (d := dAlt d0 vs pm) ops.size hlt m3 hln hpmem hresp hed m4 l [] (by simp)
 have hkk : ∀ i v, (altLv vs pm)[i]? = some v → (dAlt d0 vs pm).k i = v.op.kind := fun i v hv => (hl.comp i v hv).choose_spec.2.2
 obtain ⟨tr, hp, k1, k2, k3, k4, _⟩ := dtrace (dAlt d0 vs pm) (altLv vs pm) hkk env K (altLv vs pm) 0 (by omega) rfl (fun _ => undef) (fun _ => σ) [] (by simpa [DInfo.rank, EL] using hdl)
 have hhp : hp 0 = σ := k2 0 (by omega)
 have hallA : (fun q => ([] : List Nat).contains (pm.getD q ops.size)) = fun _ => false := by funext q; rfl
 rw [hallA] at hsched
 refine drun_sound (B := B) (pm := pm) hS hl hd (fun l hl0 => k3 l (by omega) hl0) (fun a' w' hn => ?_) l (fun _ => false) a w (by rw [hlvl]; exact hsched) ?_ (ρ0 := ρ) (σ0 := σ) (w0 := w)
 ·obtain ⟨env', ρ', σ', ⟨e1, e2⟩, n1, n2, n3, n4, n5⟩ := hn
  refine hQ a' w' ⟨env', ρ', σ', ?_, n1, n2, n3, n4, n5⟩
  rw [e1, e2]; exact k4
 ·refine ⟨fun j hj hA => (by cases hA), 0, ρ, fun l hl0 hk => by simp, by omega, by rw [hhp]; exact hH, ?_, hMk, by rw [hhp]; exact Ext.refl _ _ _⟩
  have e : EL (altLv vs pm) env tr (fun _ => false) (altLv vs pm).length = env := by
   have : ∀ m, EL (altLv vs pm) env tr (fun _ => false) m = env := by
    intro m
    induction m with
    | zero => rfl
    | succ m ih => simp only [EL, Bool.false_eq_true, if_false]; exact ih
   exact this _
  rw [e, hhp]; exact hL
theorem vopsD_of_vops (d : DInfo) : ∀ (lv : List VOper) (i : Nat), (∀ v ∈ lv, v.op.kind ≠ 2) → ∀ (env : Env) (σ : Heap) (pend : List (Nat × (Heap → Prop))) (K : Env → Heap → Prop), vops S lv env σ K → vopsD S (d.opers lv i) env [σ] σ pend K := by
 intro lv
 induction lv with
 | nil => intro i _ env σ pend K h; exact h
 | cons v rest ih =>
  intro i hk env σ pend K h
  have hk2 : v.op.kind ≠ 2 := hk v (by simp)
  have hrest : ∀ u ∈ rest, u.op.kind ≠ 2 := fun u hu => hk u (by simp [hu])
  simp only [vops] at h
  simp only [DInfo.opers, vopsD]
  cases hw : vwant env v.guard with
  | none => rw [hw] at h; exact h.elim
  | some b =>
   rw [hw] at h
   obtain ⟨ht, hf⟩ := h
   refine ⟨fun e => ?_, fun e => ?_⟩
   ·have ht := ht e
    have hact : ∃ p, vact v.op (evalO env) σ = some p ∧ vops S rest (putE env v.dst p.1) p.2 K := by
     have hnb : ∀ x : XOp, v.op = .ext x → (∀ y, x ≠ .nextMap y) := fun x hx y hy => by
      rw [hx, hy] at hk2; exact hk2 rfl
     have := ht
     unfold vop at this
     split at this
     ·rename_i f axs heq; rw [heq] at hk2; exact absurd rfl hk2
     ·rename_i f axs heq; rw [heq] at hk2; exact absurd rfl hk2
     ·rename_i x heq; rw [heq] at hk2; exact absurd rfl hk2
     ·cases hva : vact v.op (evalO env) σ with
      | none => rw [hva] at this; exact this.elim
      | some p => rw [hva] at this; exact ⟨p, rfl, this⟩
    obtain ⟨p, hp, hr⟩ := hact
    have hq : p.2 = σ := act_quiet hk2 (v := p.1) (σ' := p.2) hp
    rw [hq] at hr
    rw [if_neg hk2]
    split
    ·rw [hp]
     refine ⟨fun τ hτ => ?_, ih (i + 1) hrest _ _ _ _ hr⟩
     have : τ = σ := by
      have := List.mem_of_mem_drop hτ
      simpa using this
     subst this
     show obind (vact v.op (evalO env) τ) _
     rw [hp]; rfl
    ·rw [hp]; exact ih (i + 1) hrest _ _ _ _ hr
   ·rw [if_neg hk2]
    exact ih (i + 1) hrest _ _ _ _ (hf e)
theorem seg_sound (hS : OkSpecs P S) {ro : Option Nat} {n : Nat} {ops : Array Oper} {vs : List VOper} (hvs : ops.toList.mapM (compOper P ops) = some vs) {d0 : DInfo} (hb : DBase ops d0) (_hk0 : ∀ i v, vs[i]? = some v → d0.k i = v.op.kind) {s len : Nat} (hlen : 0 < len) (hsl : s + len ≤ ops.size) {x : DSeg} (hx : dSeg d0 vs s len = some x)
  {l l2 : List Nat} (hln : l.Nodup) (hmem : ∀ i, i ∈ l ↔ (s ≤ i ∧ i < s + len)) (hresp : ∀ pre j post, l = pre ++ j :: post → ∀ e ∈ d0.ed.getD j [], e ∈ l → e ∈ pre) (hpw : l.Pairwise fun j i => d0.lt i j = false)
  {rest : List DSeg} {env : Env} {σ : Heap} {K : Env → Heap → Prop} {ρ : Plc} {w : World} {a : Act} (h : vsegs S (x :: rest) env σ K) (hH : HRel ρ σ w) (hL : LRel ρ σ.n env a.tmps.toList) (hMk : Mks B a.defers w)
  {Q : Exit → Act → World → Prop} (hQ : ∀ a' w', Next' B (List.length env) ρ σ w (fun env σ => vsegs S rest env σ K) a' w' → wpOpsIn (FF ro) n P ops Q l2 a' w') : wpOpsIn (FF ro) n P ops Q (l ++ l2) a w := by
 have hvl : vs.length = ops.size := by have := (mapM_some _ _ _ hvs).1; simpa using this
 unfold dSeg at hx
 split at hx
 ·rename_i h1
  subst h1
  obtain rfl := Option.some.inj hx
  have hs : s < ops.size := by omega
  have hl1 : l = [s] := by
   have hm : ∀ i, i ∈ l ↔ i = s := fun i => by rw [hmem i]; omega
   have hp : l.Perm [s] := (List.perm_ext_iff_of_nodup hln (by simp)).2 fun i => by rw [hm i]; simp
   exact List.perm_singleton.1 hp
  subst hl1
  obtain ⟨v, hv, hc⟩ := (mapM_some _ _ _ hvs).2 s ops[s] (by simp [hs])
  have hg : vs.getD s default = v := by simp [List.getD_eq_getElem?_getD, hv]
  simp only [vsegs, hg] at h
  simp only [vops] at h
  rw [List.singleton_append, wpOpsIn_cons]
  unfold wpOpIn
  rw [Array.getElem?_eq_getElem hs]
  simp only
  cases hw : vwant env v.guard with
  | none => rw [hw] at h; exact h.elim
  | some b =>
   rw [hw] at h
   obtain ⟨ht, hf⟩ := h
   obtain ⟨hwant, hdst, hop⟩ := vwant_rel hc hL hw
   rw [hwant]
   cases b with
   | false =>
    rw [if_neg (by simp)]
    refine ⟨fun f _ => FF_fn _ _, hQ _ _ ⟨_, ρ, σ, hf rfl, putE_length _ _ _, hH, by rw [hdst]; exact putE_rel hL undef_rel _, by rw [put_defers]; exact hMk, Ext.refl _ _ _⟩⟩
   | true =>
    rw [if_pos rfl]
    refine step_sound hS hop hH hL (ht rfl) fun c w' ⟨u, ρ', σ', hK, hvc, hH', hE⟩ => ?_
    exact hQ _ _ ⟨_, ρ', σ', hK, putE_length _ _ _, hH', by rw [hdst]; exact putE_rel (hE.lrel hL) hvc _, by rw [put_defers]; exact hMk.ext hH hE, hE⟩
 ·rename_i hn1
  simp only at hx
  split at hx
  ·rename_i hP
   obtain rfl := Option.some.inj hx
   simp only [vsegs] at h
   have hperm : (l.filter fun i => d0.k i == 2).Perm ((List.range' s len).filter fun i => d0.k i == 2) := by
    refine (List.Perm.filter _ ?_)
    refine (List.perm_ext_iff_of_nodup hln List.nodup_range').2 fun j => ?_
    rw [hmem j, List.mem_range'_1]
   have hs := exts_complete d0.lt _ _ len hperm (by
    refine Nat.le_trans (List.length_filter_le _ _) (by simp)) (hpw.filter _)
   have hmm := List.all_eq_true.1 hP _ (List.mem_map.2 ⟨_, hs, rfl⟩)
   have hdl := h _ (List.mem_map.2 ⟨_, List.mem_map.2 ⟨_, hs, rfl⟩, rfl⟩)
   exact chunk_sound hS hvs hb hln (fun i hi => by have := (hmem i).1 hi; omega) (fun i => by rw [hmem i, List.mem_range'_1]) hresp hmm hdl hH hL hMk (fun a' w' hn => by
    obtain ⟨env', ρ', σ', ⟨env2, σ2, hD, hR⟩, n1, n2, n3, n4, n5⟩ := hn
    obtain ⟨ρ2, d1, d2, d3⟩ := hD ρ w ρ' w' a'.tmps.toList hH n5 n2 n3
    exact hQ a' w' ⟨env2, ρ2, σ2, hR, (d1.1.trans n3.1.symm).trans n1, d2, d1, n4, d3⟩)
  ·cases hx
theorem segs_sound (hS : OkSpecs P S) {ro : Option Nat} {n : Nat} {ops : Array Oper} {vs : List VOper} (hvs : ops.toList.mapM (compOper P ops) = some vs) {d0 : DInfo} (hb : DBase ops d0) (hk0 : ∀ i v, vs[i]? = some v → d0.k i = v.op.kind)
  {Q : Exit → Act → World → Prop} {K : Env → Heap → Prop} : ∀ (f s : Nat) (segs : List DSeg), dSegs d0 vs f s = some segs → s ≤ ops.size → ∀ (l : List Nat), l.Nodup → (∀ i, i ∈ l ↔ (s ≤ i ∧ i < ops.size)) →
   (∀ pre j post, l = pre ++ j :: post → ∀ e ∈ d0.ed.getD j [], e ∈ l → e ∈ pre) → (l.Pairwise fun j i => d0.lt i j = false) →
   ∀ (env : Env) (σ : Heap) (ρ : Plc) (w : World) (a : Act), vsegs S segs env σ K → HRel ρ σ w → LRel ρ σ.n env a.tmps.toList → Mks B a.defers w → (∀ a' w', Next' B (List.length env) ρ σ w K a' w' → Q .normal a' w') →
   wpOpsIn (FF ro) n P ops Q l a w := by
 intro f
 have fin : ∀ (s : Nat) (segs : List DSeg), s = d0.ks.length → [] = segs → ∀ (l : List Nat), (∀ i, i ∈ l ↔ (s ≤ i ∧ i < ops.size)) → ∀ (env : Env) (σ : Heap) (ρ : Plc) (w : World) (a : Act), vsegs S segs env σ K → HRel ρ σ w → LRel ρ σ.n env a.tmps.toList → Mks B a.defers w → (∀ a' w', Next' B (List.length env) ρ σ w K a' w' → Q .normal a' w') →
   wpOpsIn (FF ro) n P ops Q l a w := by
  intro s segs hs hsg l hmem env σ ρ w a h hH hL hMk hQ
  subst hsg
  have : l = [] := by
   cases l with
   | nil => rfl
   | cons x l =>
    have := (hmem x).1 (by simp)
    rw [hs, hb.size] at this
    omega
  subst this
  exact hQ a w ⟨env, ρ, σ, h, rfl, hH, hL, hMk, Ext.refl _ _ _⟩
 induction f with
 | zero =>
  intro s segs hsg hs l hln hmem hresp hpw env σ ρ w a h hH hL hMk hQ
  simp only [dSegs] at hsg
  split at hsg
  ·rename_i he; exact fin s segs he (Option.some.inj hsg) l hmem env σ ρ w a h hH hL hMk hQ
  ·cases hsg
 | succ f ih =>
  intro s segs hsg hs l hln hmem hresp hpw env σ ρ w a h hH hL hMk hQ
  simp only [dSegs] at hsg
  split at hsg
  ·rename_i he; exact fin s segs he (Option.some.inj hsg) l hmem env σ ρ w a h hH hL hMk hQ
  ·rename_i hne
   split at hsg
   ·cases hsg
   ·rename_i t ht
    have hcut := List.find?_some ht
    have htm := List.mem_range'_1.1 (List.mem_of_find?_eq_some ht)
    rw [hb.size] at htm
    split at hsg
    ·rename_i x r hx hr
     obtain rfl := Option.some.inj hsg
     have hlt : ∀ i p, i < t → t ≤ p → p < ops.size → d0.lt i p = true := fun i p hi hp hpn => by
      have h1 := List.all_eq_true.1 hcut p (List.mem_range'_1.2 ⟨hp, by rw [hb.size]; omega⟩)
      exact List.all_eq_true.1 h1 i (List.mem_range.2 hi)
     have hpw' : l.Pairwise (fun j i => ¬ (i < t ∧ t ≤ j)) := by
      refine (List.pairwise_iff_forall_sublist.2 fun {j i} hsub => ?_)
      rintro ⟨h1, h2⟩
      have hj : j ∈ l := hsub.subset (by simp)
      have h3 := (List.pairwise_iff_forall_sublist.1 hpw) hsub
      rw [hlt i j h1 h2 ((hmem j).1 hj).2] at h3
      cases h3
     have hsplit := split_at l hpw'
     have hm1 : ∀ i, i ∈ l.filter (fun i => decide (i < t)) ↔ (s ≤ i ∧ i < s + (t - s)) := fun i => by
      rw [List.mem_filter, hmem i, decide_eq_true_eq]; omega
     have hm2 : ∀ i, i ∈ l.filter (fun i => decide (t ≤ i)) ↔ (t ≤ i ∧ i < ops.size) := fun i => by
      rw [List.mem_filter, hmem i, decide_eq_true_eq]; omega
     rw [hsplit]
     refine seg_sound hS hvs hb hk0 (by omega) (by omega) hx (hln.filter _) hm1 ?_ (hpw.filter _) h hH hL hMk ?_
     ·intro pre j post he e hee hel
      refine hresp pre j (post ++ l.filter (fun i => decide (t ≤ i))) ?_ e hee (List.mem_filter.1 hel).1
      exact hsplit.trans (by rw [he, List.append_assoc]; rfl)
     ·intro a' w' ⟨env', ρ', σ', k1, k0, k2, k3, k4, k5⟩
      refine ih t r hr (by omega) _ (hln.filter _) hm2 ?_ (hpw.filter _) env' σ' ρ' w' a' k1 k2 k3 k4 ?_
      ·intro pre j post he e hee hel
       have := hresp (l.filter (fun i => decide (i < t)) ++ pre) j post (hsplit.trans (by rw [he, List.append_assoc])) e hee (List.mem_filter.1 hel).1
       rcases List.mem_append.1 this with h1 | h1
       ·have h2 := (List.mem_filter.1 h1).2
        have h3 := (List.mem_filter.1 hel).2
        simp at h2 h3; omega
       ·exact h1
      ·intro a2 w2 ⟨env2, ρ2, σ2, m1, m0, m2, m3, m4, m5⟩
       exact hQ a2 w2 ⟨env2, ρ2, σ2, m1, m0.trans k0, m2, m3, m4, k5.trans m5⟩
    ·cases hsg
theorem dops_sound (hm : P.follows .mixedOrders = true) (hS : OkSpecs P S) {ro : Option Nat} {n : Nat} {id : Nat} {ops : Array Oper} {vs : List VOper} (hvs : ops.toList.mapM (compOper P ops) = some vs) {segs : List DSeg} (hok : dAlts (dInfo ops.toList vs) vs = some segs)
  {env : Env} {σ : Heap} {K : Env → Heap → Prop} {ρ : Plc} {w : World} {a : Act} (h : vsegs S segs env σ K) (hH : HRel ρ σ w) (hL : LRel ρ σ.n env a.tmps.toList) (hMk : Mks B a.defers w)
  {Q : Exit → Act → World → Prop} (hQ : ∀ a' w', Next' B (List.length env) ρ σ w K a' w' → Q .normal a' w') : (Code.region id ops true).wpIn (FF ro) n P Q a w := by
 unfold dAlts at hok
 split at hok
 ·rename_i hB
  have hb := base_of hvs hB
  have hkk : ∀ i v, vs[i]? = some v → (dInfo ops.toList vs).k i = v.op.kind := fun i v hv => by
   simp [DInfo.k, dInfo, List.getD_eq_getElem?_getD, hv]
  generalize hde : dInfo ops.toList vs = d0 at *
  refine wpIn_region_draw fun t => ?_
  simp only [Region.schedule, hm, Bool.true_or, if_true]
  have hedge' : ∀ (j : Nat) (o : Oper), ops[j]? = some o → ∀ e ∈ dEdges o, e < j := fun j o ho e he => hb.edge j (Array.getElem?_eq_some_iff.1 ho).1 e (by rw [hb.ed j o ho]; exact he)
  have hall : ∀ i, (Array.replicate ops.size false).getD i false = false := fun i => by
   rw [Array.getD_eq_getD_getElem?, Array.getElem?_replicate]
   split <;> rfl
  have hlin := lin_go hedge' ops.size t (Array.replicate ops.size false) (by simp) (by
   have : ∀ m, cnt (fun i => (Array.replicate ops.size false).getD i false) m ≤ m := by
    intro m
    induction m with
    | zero => exact Nat.le_refl _
    | succ m ih => simp only [cnt]; split <;> omega
   exact this _)
  change wpOpsIn _ _ _ _ _ (Region.linearise.go .any ops ops.size t (Array.replicate ops.size false) []) _ _
  generalize Region.linearise.go .any ops ops.size t (Array.replicate ops.size false) [] = l at *
  obtain ⟨hnd, hmem⟩ := lin_mem l _ (by simp) hlin
  have hpw := lin_lt hb l _ (by simp) (fun j _ hA => by rw [hall] at hA; cases hA) hlin
  have hresp := lin_resp hb l _ (by simp) hlin
  refine segs_sound hS hvs hb hkk _ 0 segs hok (by omega) l hnd (fun i => by rw [hmem i, hall]; simp) (fun pre j post he e hee _ => ?_) hpw env σ ρ _ a h hH.drew hL (hMk.ext hH (Ext.drew _ _ _)) (fun a' w' hn => ?_)
  ·rcases hresp pre j post he e hee with h1 | h1
   ·rw [hall] at h1; cases h1
   ·exact h1
  ·obtain ⟨env', ρ', σ', n0, n1, n2, n3, n4, n5⟩ := hn
   exact hQ a' w' ⟨env', ρ', σ', n0, n1, n2, n3, n4, (Ext.drew _ _ _).trans n5⟩
 ·cases hok
theorem quietR_sound (hm : P.follows .mixedOrders = true) (hS : OkSpecs P S) {ro : Option Nat} {n : Nat} {id : Nat} {ops : Array Oper} {vs : List VOper} (hvs : ops.toList.mapM (compOper P ops) = some vs) (hok : quietRegion (dInfo ops.toList vs) vs = true)
  {env : Env} {σ : Heap} {K : Env → Heap → Prop} {ρ : Plc} {w : World} {a : Act} (h : vops S vs env σ K) (hH : HRel ρ σ w) (hL : LRel ρ σ.n env a.tmps.toList) (hMk : Mks B a.defers w)
  {Q : Exit → Act → World → Prop} (hQ : ∀ a' w', Next' B (List.length env) ρ σ w K a' w' → Q .normal a' w') : (Code.region id ops true).wpIn (FF ro) n P Q a w := by
 simp only [quietRegion, Bool.and_eq_true] at hok
 obtain ⟨hB, hkinds, hpm⟩ := hok
 have hb := base_of hvs hB
 have hvl : vs.length = ops.size := by have := (mapM_some _ _ _ hvs).1; simpa using this
 have hk2 : ∀ v ∈ vs, v.op.kind ≠ 2 := fun v hv => by have := List.all_eq_true.1 hkinds v hv; simpa using this
 have hkk : ∀ i v, vs[i]? = some v → (dInfo ops.toList vs).k i = v.op.kind := fun i v hv => by
  simp [DInfo.k, dInfo, List.getD_eq_getElem?_getD, hv]
 generalize hde : dInfo ops.toList vs = d0 at *
 refine wpIn_region_draw fun t => ?_
 simp only [Region.schedule, hm, Bool.true_or, if_true]
 have hedge' : ∀ (j : Nat) (o : Oper), ops[j]? = some o → ∀ e ∈ dEdges o, e < j := fun j o ho e he => hb.edge j (Array.getElem?_eq_some_iff.1 ho).1 e (by rw [hb.ed j o ho]; exact he)
 have hall : ∀ i, (Array.replicate ops.size false).getD i false = false := fun i => by
  rw [Array.getD_eq_getD_getElem?, Array.getElem?_replicate]
  split <;> rfl
 have hlin := lin_go hedge' ops.size t (Array.replicate ops.size false) (by simp) (by
  have : ∀ m, cnt (fun i => (Array.replicate ops.size false).getD i false) m ≤ m := by
   intro m
   induction m with
   | zero => exact Nat.le_refl _
   | succ m ih => simp only [cnt]; split <;> omega
  exact this _)
 change wpOpsIn _ _ _ _ _ (Region.linearise.go .any ops ops.size t (Array.replicate ops.size false) []) _ _
 generalize Region.linearise.go .any ops ops.size t (Array.replicate ops.size false) [] = l at *
 obtain ⟨hnd, hmem⟩ := lin_mem l _ (by simp) hlin
 have hresp := lin_resp hb l _ (by simp) hlin
 have hlt : ∀ i ∈ l, i < ops.size := fun i hi => ((hmem i).1 hi).1
 have hnil : l.filter (fun i => d0.k i == 2) = [] := List.filter_eq_nil_iff.2 fun i hi => by
  have hin := hlt i hi
  have hiv : vs[i]? = some vs[i] := List.getElem?_eq_getElem (by omega)
  rw [hkk i _ hiv]
  simpa using hk2 _ (List.mem_of_getElem? hiv)
 have hal : altLv vs (List.range' 0 d0.ks.length) = vs := by
  apply List.ext_getElem?
  intro i
  unfold altLv
  rw [List.getElem?_map]
  rcases Nat.lt_or_ge i vs.length with hi | hi
  ·rw [List.getElem?_range' (by rw [hb.size]; omega), List.getElem?_eq_getElem hi]
   simp [List.getD_eq_getElem?_getD, hi]
  ·rw [List.getElem?_eq_none (by simp [hb.size]; omega), List.getElem?_eq_none hi]; rfl
 have hd := vopsD_of_vops (S := S) (dAlt d0 vs (List.range' 0 d0.ks.length)) vs 0 hk2 env σ [] K h
 rw [← List.append_nil l]
 refine chunk_sound hS hvs hb hnd hlt (fun i => by rw [hmem i, hall, List.mem_range'_1, hb.size]; simp) (fun pre j post he e hee _ => ?_) (idx := List.range' 0 d0.ks.length) (pm := List.range' 0 d0.ks.length) (by rw [hnil]; exact hpm) (by rw [hal]; exact hd) hH.drew hL (hMk.ext hH (Ext.drew _ _ _)) (fun a' w' hn => ?_)
 ·rcases hresp pre j post he e hee with h1 | h1
  ·rw [hall] at h1; cases h1
  ·exact h1
 ·obtain ⟨env', ρ', σ', n0, n1, n2, n3, n4, n5⟩ := hn
  exact hQ a' w' ⟨env', ρ', σ', n0, n1, n2, n3, n4, (Ext.drew _ _ _).trans n5⟩
theorem region_sound (hS : OkSpecs P S) {id : Nat} {ops : Array Oper} {lv : List VOper} (hlv : ops.toList.mapM (compOper P ops) = some lv) : Sound P S (.region id ops false) (.region lv) := by
 intro B vro ro n Q env σ ρ w a h hH hL hd hR Q' hQ
 simp only [vwp] at h
 refine wpIn_region ?_
 rw [List.range_eq_range', ← Array.length_toList, wpOpsIn_eq_wpListIn ops.toList 0 (by simp)]
 exact vops_sound hS ops Q' ops.toList lv hlv env σ _ ρ w a h hH hL hd (fun a' w' hn => hQ .normal a' w' hn)
theorem cond_true {v : Value} {A B : Prop} (h : vcond v A B) : ∃ t, v = .bool t ∧ (t = true → A) ∧ (t = false → B) := by
 unfold vcond at h
 split at h
 ·exact ⟨_, rfl, h⟩
 ·exact h.elim
theorem loop_sound {c : Code} {vc : VCode} (ih : Sound P S c vc) : Sound P S (.loop c) (.loop vc) := by
 intro B vro ro n Q env σ ρ w a h hH hL hd hR Q' hQ
 simp only [vwp] at h
 obtain ⟨live, I, n0, h0, hround⟩ := h
 refine wpIn_loop_ghost (fun k a' w' => Next' B (List.length env) ρ σ w (fun env' σ' => I k (pickE live env') σ') a' w') n0 ⟨env, ρ, σ, h0, rfl, hH, hL, hd, Ext.refl _ _ _⟩ ?_
 rintro k a1 w1 ⟨env1, ρ1, σ1, k1, k0, k2, k3, k4, k5⟩
 have hlen : List.length (spreadE live (pickE live env1) (List.replicate env.length poison)) = List.length env := by rw [spread_length]; simp
 refine ih vro ro n _ _ σ1 ρ1 w1 a1 (hround k (pickE live env1) σ1 k1) k2 (spread_rel live env1 _ _ k3 (poison_rel _ (by rw [← k3.1, k0]))) k4 (hR.ext k5) _ ?_
 rintro e a2 w2 ⟨env2, ρ2, σ2, m1, m0, m2, m3, m4, m5⟩
 rw [hlen] at m0
 cases e with
 | normal =>
  obtain ⟨n', hn', hI⟩ := m1
  exact ⟨n', hn', env2, ρ2, σ2, hI, m0, m2, m3, m4, k5.trans m5⟩
 | _ => exact hQ _ a2 w2 ⟨env2, ρ2, σ2, m1, m0, m2, m3, m4, k5.trans m5⟩
theorem bad_sound (c : Code) : Sound P S c .bad := by
 intro B vro ro n Q env σ ρ w a h; exact h.elim
theorem comp_sound (hm : P.follows .mixedOrders = true) (hS : OkSpecs P S) : ∀ (c : Code) (vc : VCode), comp P c = some vc → Sound P S c vc := by
 intro c
 induction c with
 | skip =>
  intro vc hc
  simp [comp] at hc; subst hc
  intro B vro ro n Q env σ ρ w a h hH hL hd hR Q' hQ
  exact wpIn_skip (hQ _ _ _ ⟨env, ρ, σ, h, rfl, hH, hL, hd, Ext.refl _ _ _⟩)
 | region id ops dr =>
  intro vc hc
  cases dr with
  | false =>
   simp only [comp, Option.bind_eq_bind, Option.bind_eq_some_iff] at hc
   obtain ⟨lv, hlv, hc⟩ := hc
   simp at hc; subst hc
   exact region_sound hS hlv
  | true =>
   simp only [comp, Option.bind_eq_bind, Option.bind_eq_some_iff] at hc
   obtain ⟨lv, hlv, hc⟩ := hc
   split at hc
   ·rename_i hok
    simp at hc; subst hc
    intro B vro ro n Q env σ ρ w a h hH hL hd hR Q' hQ
    exact quietR_sound hm hS hlv hok h hH hL hd (fun a' w' hn => hQ .normal a' w' hn)
   split at hc
   ·rename_i segs hok
    simp at hc; subst hc
    intro B vro ro n Q env σ ρ w a h hH hL hd hR Q' hQ
    exact dops_sound hm hS hlv hok h hH hL hd (fun a' w' hn => hQ .normal a' w' hn)
   ·simp at hc; subst hc; exact bad_sound _
 | seq x y ihx ihy =>
  intro vc hc
  simp only [comp, Option.bind_eq_bind, Option.bind_eq_some_iff] at hc
  obtain ⟨vx, hx, vy, hy, hc⟩ := hc
  simp at hc; subst hc
  intro B vro ro n Q env σ ρ w a h hH hL hd hR Q' hQ
  simp only [vwp] at h
  refine wpIn_seq (ihx vx hx vro ro n _ env σ ρ w a h hH hL hd hR _ ?_)
  rintro e a1 w1 ⟨env1, ρ1, σ1, k1, k0, k2, k3, k4, k5⟩
  cases e with
  | normal =>
   refine ihy vy hy vro ro n _ env1 σ1 ρ1 w1 a1 k1 k2 k3 k4 (hR.ext k5) _ ?_
   rintro e2 a2 w2 ⟨env2, ρ2, σ2, m1, m0, m2, m3, m4, m5⟩
   exact hQ e2 a2 w2 ⟨env2, ρ2, σ2, m1, m0.trans k0, m2, m3, m4, k5.trans m5⟩
  | _ => exact hQ _ a1 w1 ⟨env1, ρ1, σ1, k1, k0, k2, k3, k4, k5⟩
 | cond c x y ihx ihy =>
  intro vc hc
  simp only [comp] at hc
  split at hc
  ·rename_i hok
   simp only [Option.bind_eq_bind, Option.bind_eq_some_iff] at hc
   obtain ⟨vx, hx, vy, hy, hc⟩ := hc
   simp at hc; subst hc
   intro B vro ro n Q env σ ρ w a h hH hL hd hR Q' hQ
   simp only [vwp] at h
   obtain ⟨t, ht, h1, h2⟩ := cond_true h
   have hv := evalO_rel hL hok
   rw [ht] at hv
   refine wpIn_cond_split hv.bool_inv (fun e => ?_) (fun e => ?_)
   ·exact ihx vx hx vro ro n Q env σ ρ w a (h1 e) hH hL hd hR Q' hQ
   ·exact ihy vy hy vro ro n Q env σ ρ w a (h2 e) hH hL hd hR Q' hQ
  ·simp at hc; subst hc; exact bad_sound _
 | block id x ihx =>
  intro vc hc
  simp only [comp, Option.bind_eq_bind, Option.bind_eq_some_iff] at hc
  obtain ⟨vx, hx, hc⟩ := hc
  simp at hc; subst hc
  intro B vro ro n Q env σ ρ w a h hH hL hd hR Q' hQ
  simp only [vwp] at h
  refine wpIn_block (ihx vx hx vro ro n _ env σ ρ w a h hH hL hd hR _ ?_)
  rintro e a1 w1 ⟨env1, ρ1, σ1, k1, k0, k2, k3, k4, k5⟩
  cases e with
  | exit id' =>
   simp only [blockK] at k1
   simp only [Exit.inBlock]
   split at k1
   ·rename_i he; rw [if_pos he]; exact hQ _ a1 w1 ⟨env1, ρ1, σ1, k1, k0, k2, k3, k4, k5⟩
   ·rename_i he; rw [if_neg he]; exact hQ _ a1 w1 ⟨env1, ρ1, σ1, k1, k0, k2, k3, k4, k5⟩
  | _ => exact hQ _ a1 w1 ⟨env1, ρ1, σ1, k1, k0, k2, k3, k4, k5⟩
 | loop x ihx =>
  intro vc hc
  simp only [comp, Option.bind_eq_bind, Option.bind_eq_some_iff] at hc
  obtain ⟨vx, hx, hc⟩ := hc
  simp at hc; subst hc
  exact loop_sound (ihx vx hx)
 | rangeFunc g ps x y ihx ihy =>
  intro vc hc
  simp only [comp] at hc
  split at hc
  ·rename_i hok
   simp only [Option.bind_eq_bind, Option.bind_eq_some_iff] at hc
   obtain ⟨vx, hx, vy, hy, hc⟩ := hc
   simp at hc; subst hc
   exact range_sound hS (ihx vx hx) (ihy vy hy) g hok ps
  ·simp at hc; subst hc; exact bad_sound _
 | exit id =>
  intro vc hc
  simp [comp] at hc; subst hc
  intro B vro ro n Q env σ ρ w a h hH hL hd hR Q' hQ
  exact wpIn_exit (hQ _ _ _ ⟨env, ρ, σ, h, rfl, hH, hL, hd, Ext.refl _ _ _⟩)
 | ret =>
  intro vc hc
  simp [comp] at hc; subst hc
  intro B vro ro n Q env σ ρ w a h hH hL hd hR Q' hQ
  exact wpIn_ret (hQ _ _ _ ⟨env, ρ, σ, h, rfl, hH, hL, hd, Ext.refl _ _ _⟩)
 | _ =>
  intro vc hc
  simp [comp] at hc; subst hc
  exact bad_sound _
end
end Go.V
namespace Go.V
open Go
inductive Ren (n : Nat) (π : Nat → Nat) : Value → Value → Prop
 | plain (v : Value) (h : plainV v = true) : Ren n π v v
 | poison (c : Value) : Ren n π poison c
 | ptr (i o : Nat) (hi : i < n) : Ren n π (.pointer (some ⟨i, o, none⟩)) (.pointer (some ⟨π i, o, none⟩))
 | sl (i o len cap : Nat) (hi : i < n) : Ren n π (.slice (some ⟨i, o, none⟩) len cap) (.slice (some ⟨π i, o, none⟩) len cap)
 | map (i : Nat) (hi : i < n) : Ren n π (.map (some i)) (.map (some (π i)))
 | iface (t : TypeId) (v c : Value) (h : Ren n π v c) : Ren n π (.iface t v) (.iface t c)
 | yield (i : Nat) (hi : i < n) : Ren n π (.func (.yield i) #[] #[]) (.func (.yield (π i)) #[] #[])
 | func (fn : FuncId) (fs gs cs ds : Array Value) (hf : fs.size = gs.size) (hc : cs.size = ds.size)
   (h1 : ∀ i (h1 : i < fs.size) (h2 : i < gs.size), Ren n π fs[i] gs[i]) (h2 : ∀ i (h1 : i < cs.size) (h2 : i < ds.size), Ren n π cs[i] ds[i]) : Ren n π (.func (.func fn) fs cs) (.func (.func fn) gs ds)
 | agg (cs ds : Array Value) (hc : cs.size = ds.size) (h : ∀ i (h1 : i < cs.size) (h2 : i < ds.size), Ren n π cs[i] ds[i]) : Ren n π (.agg cs) (.agg ds)
 | tuple (cs ds : Array Value) (hc : cs.size = ds.size) (h : ∀ i (h1 : i < cs.size) (h2 : i < ds.size), Ren n π cs[i] ds[i]) : Ren n π (.tuple cs) (.tuple ds)
def LRen (n : Nat) (π : Nat → Nat) (vs cs : List Value) : Prop := vs.length = cs.length ∧ ∀ (i : Nat) (v c : Value), vs[i]? = some v → cs[i]? = some c → Ren n π v c
theorem Ren.rel {ρ : Plc} {nf n' : Nat} {π : Nat → Nat} {v' v : Value} (h : Ren n' π v' v) : ∀ {c : Value}, VRel ρ nf v c → VRel (fun i => if i < n' then ρ (π i) else none) n' v' c := by
 induction h with
 | plain v h =>
  intro c hv
  have : c = v := flat_eq' h hv
  subst this; exact plain_rel h
 | poison c => intro c _; exact .poison _
 | ptr i o hi =>
  intro c hv
  obtain ⟨a, rfl, _, h⟩ := hv.ptr_inv'
  exact .ptr _ _ _ hi fun p hp => h p (by simpa [hi] using hp)
 | sl i o len cap hi =>
  intro c hv
  obtain ⟨a, cap', rfl, _, h⟩ := hv.sl_inv
  exact .sl _ _ _ _ _ _ hi fun p hp => h p (by simpa [hi] using hp)
 | map i hi =>
  intro c hv
  cases hv with
  | map _ r _ h => exact .map _ _ hi fun p hp => h p (by simpa [hi] using hp)
 | yield i hi =>
  intro c hv
  cases hv with
  | yield _ r _ h => exact .yield _ _ hi fun p hp => h p (by simpa [hi] using hp)
 | iface t v c h ih =>
  intro c hv
  cases hv with
  | iface _ _ _ h => exact .iface _ _ _ (ih h)
 | func fn fs gs cs ds hf hc h1 h2 ih1 ih2 =>
  intro c hv
  cases hv with
  | func _ _ gs' _ ds' hf' hc' h1' h2' =>
   exact .func _ _ _ _ _ (hf.trans hf') (hc.trans hc') (fun i k1 k2 => ih1 i k1 (by omega) (h1' i (by omega) k2)) (fun i k1 k2 => ih2 i k1 (by omega) (h2' i (by omega) k2))
 | agg cs ds hc h ih =>
  intro c hv
  cases hv with
  | agg _ ds' hc' h' => exact .agg _ _ (hc.trans hc') fun i k1 k2 => ih i k1 (by omega) (h' i (by omega) k2)
 | tuple cs ds hc h ih =>
  intro c hv
  cases hv with
  | tuple _ ds' hc' h' => exact .tuple _ _ (hc.trans hc') fun i k1 k2 => ih i k1 (by omega) (h' i (by omega) k2)
theorem VRel.ren {ρ : Plc} {n n' : Nat} {π : Nat → Nat} (hn : n ≤ n') (hπ : ∀ i, i < n → π i = i) {v c : Value} (h : VRel ρ n v c) : Ren n' π v v := by
 induction h with
 | poison c => exact .poison _
 | bool b => exact .plain _ rfl
 | int k x => exact .plain _ rfl
 | string s => exact .plain _ rfl
 | nilPtr => exact .plain _ rfl
 | nilSl => exact .plain _ rfl
 | nilMap => exact .plain _ rfl
 | nilFunc => exact .plain _ rfl
 | nilIface => exact .plain _ rfl
 | ptr i o a hi h => have := Ren.ptr (n := n') (π := π) i o (by omega); rwa [hπ i hi] at this
 | sl i o len cap a cap' hi h => have := Ren.sl (n := n') (π := π) i o len cap (by omega); rwa [hπ i hi] at this
 | map i r hi h => have := Ren.map (n := n') (π := π) i (by omega); rwa [hπ i hi] at this
 | yield i r hi h => have := Ren.yield (n := n') (π := π) i (by omega); rwa [hπ i hi] at this
 | iface t v c _ ih => exact .iface _ _ _ ih
 | func fn fs gs cs ds hf hc _ _ ih1 ih2 => exact .func _ _ _ _ _ rfl rfl (fun i k1 _ => ih1 i k1 (by omega)) (fun i k1 _ => ih2 i k1 (by omega))
 | agg cs ds hc _ ih => exact .agg _ _ rfl fun i k1 _ => ih i k1 (by omega)
 | tuple cs ds hc _ ih => exact .tuple _ _ rfl fun i k1 _ => ih i k1 (by omega)
theorem LRen.rel {ρ : Plc} {nf n' : Nat} {π : Nat → Nat} {vs' vs : List Value} (h : LRen n' π vs' vs) {cs : List Value} (hL : LRel ρ nf vs cs) : LRel (fun i => if i < n' then ρ (π i) else none) n' vs' cs := by
 refine ⟨h.1.trans hL.1, fun i v c hv hc => ?_⟩
 have hlt : i < vs.length := by rw [← h.1]; exact (List.getElem?_eq_some_iff.1 hv).1
 exact (h.2 i v _ hv (List.getElem?_eq_getElem hlt)).rel (hL.2 i _ c (List.getElem?_eq_getElem hlt) hc)
theorem LRel.ren {ρ : Plc} {n n' : Nat} {π : Nat → Nat} (hn : n ≤ n') (hπ : ∀ i, i < n → π i = i) {vs cs : List Value} (h : LRel ρ n vs cs) : LRen n' π vs vs :=
 ⟨rfl, fun i v u hv hu => by
  obtain rfl : v = u := Option.some.inj (hv.symm.trans hu)
  obtain ⟨c, _, hc⟩ := h.get hv
  exact hc.ren hn hπ⟩
def ORen (n : Nat) (π : Nat → Nat) : VObj → VObj → Prop
 | .map es clock, .map fs clock' => clock = clock' ∧ es.length = fs.length ∧ ∀ (k : Nat) (a b : MEnt), es[k]? = some a → fs[k]? = some b → a.1 = b.1 ∧ a.2.2 = b.2.2 ∧ Ren n π a.2.1 b.2.1
 | .iter m since seen last, .iter m' since' seen' last' => m' = π m ∧ m < n ∧ since = since' ∧ seen = seen' ∧ last = last'
 | .lp env r st pend, .lp env' r' st' pend' => LRen n π env env' ∧ r = r' ∧ st = st' ∧ pend = pend'
 | _, _ => False
theorem ORen.rel {ρ : Plc} {nf n' : Nat} {π : Nat → Nat} {o' o : VObj} (h : ORen n' π o' o) {O : Obj} (hO : ORel ρ nf o O) : ORel (fun i => if i < n' then ρ (π i) else none) n' o' O := by
 cases o' <;> cases o <;> try exact h.elim
 ·obtain ⟨rfl, hl, hk⟩ := h
  obtain ⟨entries, h1, h2, h3⟩ := hO
  refine ⟨entries, h1, by rw [hl]; exact h2, fun k a ha => ?_⟩
  have hkl := (List.getElem?_eq_some_iff.1 ha).1
  rw [hl] at hkl
  obtain ⟨e, he, h4, h5, h6⟩ := h3 k _ (List.getElem?_eq_getElem hkl)
  obtain ⟨k1, k2, k3⟩ := hk k a _ ha (List.getElem?_eq_getElem hkl)
  exact ⟨e, he, h4.trans k1.symm, h5.trans k2.symm, k3.rel h6⟩
 ·obtain ⟨rfl, hm, rfl, rfl, rfl⟩ := h
  obtain ⟨rm, h1, h2⟩ := hO
  exact ⟨rm, h1, (Ren.map _ hm).rel h2⟩
 ·obtain ⟨hl, rfl, rfl, rfl⟩ := h
  exact ⟨hO.1, hl.rel hO.2⟩
theorem ORel.ren {ρ : Plc} {n n' : Nat} {π : Nat → Nat} (hn : n ≤ n') (hπ : ∀ i, i < n → π i = i) {o : VObj} {O : Obj} (h : ORel ρ n o O) : ORen n' π o o := by
 cases o with
 | map es clock =>
  obtain ⟨entries, h1, h2, h3⟩ := h
  refine ⟨rfl, rfl, fun k a b ha hb => ?_⟩
  obtain rfl : a = b := Option.some.inj (ha.symm.trans hb)
  obtain ⟨e, _, _, _, hv⟩ := h3 k a ha
  exact ⟨rfl, rfl, hv.ren hn hπ⟩
 | iter m since seen last =>
  obtain ⟨rm, h1, h2⟩ := h
  cases h2 with
  | map _ _ hi _ => exact ⟨(hπ m hi).symm, by omega, rfl, rfl, rfl⟩
 | lp env r st pend => exact ⟨h.2.ren hn hπ, rfl, rfl, rfl⟩
def BRen (n : Nat) (π : Nat → Nat) : Blk → Blk → Prop
 | .cells c esz wr tight, .cells d esz' wr' tight' => esz = esz' ∧ wr = wr' ∧ tight = tight' ∧ LRen n π c d
 | .obj o wr, .obj o' wr' => wr = wr' ∧ ORen n π o o'
 | _, _ => False
theorem BRen.wr {n : Nat} {π : Nat → Nat} {b c : Blk} (h : BRen n π b c) : b.wr = c.wr := by
 cases b <;> cases c <;> first | (exact h.elim) | exact h.2.1 | exact h.1
theorem BRen.rel {ρ : Plc} {nf n' : Nat} {π : Nat → Nat} {p : Pl} {w : World} {b' b : Blk} (h : BRen n' π b' b) (hB : BRel ρ nf p w b) : BRel (fun i => if i < n' then ρ (π i) else none) n' p w b' := by
 cases b' with
 | cells c esz wr tight =>
  cases b with
  | cells d esz' wr' tight' =>
   obtain ⟨rfl, rfl, rfl, hl⟩ := h
   obtain ⟨h1, h2, h3, h4, h5, h6⟩ := hB
   refine ⟨h1, h2, by rw [hl.1]; exact h3, h4, fun k v hk => ?_, h6⟩
   have hkl : k < d.length := by rw [← hl.1]; exact (List.getElem?_eq_some_iff.1 hk).1
   obtain ⟨u, hu, hv⟩ := h5 k _ (List.getElem?_eq_getElem hkl)
   exact ⟨u, hu, (hl.2 k v _ hk (List.getElem?_eq_getElem hkl)).rel hv⟩
  | obj _ _ => exact h.elim
 | obj o wr =>
  cases b with
  | cells _ _ _ _ => exact h.elim
  | obj o' wr' =>
   obtain ⟨rfl, ho⟩ := h
   obtain ⟨h0, O, h1, h2⟩ := hB
   exact ⟨h0, O, h1, ho.rel h2⟩
def VObj.plain : VObj → Bool
 | .map es _ => es.all fun kv => plainV kv.2.1
 | _ => false
def Blk.plain : Blk → Bool
 | .cells c _ _ _ => c.all plainV
 | .obj o _ => o.plain
theorem LRen.plain {n : Nat} {π : Nat → Nat} {c : List Value} (h : c.all plainV = true) : LRen n π c c :=
 ⟨rfl, fun i v u hv hu => by
  obtain rfl : v = u := Option.some.inj (hv.symm.trans hu)
  exact .plain _ (List.all_eq_true.1 h v (List.mem_of_getElem? hv))⟩
theorem BRen.plain {n : Nat} {π : Nat → Nat} {b : Blk} (h : b.plain = true) : BRen n π b b := by
 cases b with
 | cells c esz wr tight => exact ⟨rfl, rfl, rfl, LRen.plain h⟩
 | obj o wr =>
  cases o with
  | map es clock =>
   refine ⟨rfl, rfl, rfl, fun k a b ha hb => ?_⟩
   obtain rfl : a = b := Option.some.inj (ha.symm.trans hb)
   exact ⟨rfl, rfl, .plain _ (List.all_eq_true.1 h a (List.mem_of_getElem? ha))⟩
  | _ => cases h
theorem BRel.ren {ρ : Plc} {n n' : Nat} {π : Nat → Nat} (hn : n ≤ n') (hπ : ∀ i, i < n → π i = i) {p : Pl} {w : World} {b : Blk} (h : BRel ρ n p w b) : BRen n' π b b := by
 cases b with
 | cells c esz wr tight =>
  refine ⟨rfl, rfl, rfl, rfl, fun i v u hv hu => ?_⟩
  obtain rfl : v = u := Option.some.inj (hv.symm.trans hu)
  obtain ⟨_, _, hvv⟩ := h.2.2.2.2.1 i v hv
  exact hvv.ren hn hπ
 | obj o wr =>
  obtain ⟨_, O, _, ho⟩ := h
  exact ⟨rfl, ho.ren hn hπ⟩
def DropTo (σ0 : Heap) (v : Value) (σf : Heap) (v' : Value) (σ' : Heap) : Prop :=
 ∀ ρ0 w0 ρ w c, HRel ρ0 σ0 w0 → Ext ρ0 σ0 w0 ρ σf w → HRel ρ σf w → VRel ρ σf.n v c → ∃ ρ', VRel ρ' σ'.n v' c ∧ HRel ρ' σ' w ∧ Ext ρ0 σ0 w0 ρ' σ' w
theorem DropTo.refl (σ0 : Heap) (v : Value) (σf : Heap) : DropTo σ0 v σf v σf := fun _ _ ρ _ _ _ hE hH hv => ⟨ρ, hv, hH, hE⟩
theorem DropTo.rename {σ0 σf σ' : Heap} {v v' : Value} (π : Nat → Nat) (h1 : σ0.n ≤ σ'.n)
  (h2 : ∀ i, i < σ0.n → π i = i ∧ σ'.get i = σf.get i ∧ (σf.get i = σ0.get i ∨ ∃ b, σf.get i = some b ∧ b.plain = true))
  (h3 : ∀ i, σ0.n ≤ i → i < σ'.n → σ0.n ≤ π i ∧ ∃ b' b, σ'.get i = some b' ∧ σf.get (π i) = some b ∧ BRen σ'.n π b' b)
  (h4 : ∀ i j, σ0.n ≤ i → i < σ'.n → σ0.n ≤ j → j < σ'.n → π i = π j → i = j) (h5 : Ren σ'.n π v' v) : DropTo σ0 v σf v' σ' := by
 intro ρ0 w0 ρ w c hH0 hE hH hv
 have hπ : ∀ i, i < σ0.n → π i = i := fun i hi => (h2 i hi).1
 have hblk : ∀ i b', σ'.get i = some b' → ∃ b, σf.get (π i) = some b ∧ BRen σ'.n π b' b := fun i b' hb => by
  have hi := σ'.lt hb
  rcases Nat.lt_or_ge i σ0.n with hlt | hge
  ·obtain ⟨k1, k2, k3⟩ := h2 i hlt
   rw [k1]
   rw [k2] at hb
   refine ⟨b', hb, ?_⟩
   rcases k3 with k3 | ⟨b, k3, k4⟩
   ·rw [k3] at hb
    obtain ⟨p, _, hB⟩ := hH0.live i b' hb
    exact hB.ren h1 hπ
   ·rw [k3] at hb; obtain rfl := Option.some.inj hb
    exact BRen.plain k4
  ·obtain ⟨_, b1, b, k1, k2, k3⟩ := h3 i hge hi
   rw [k1] at hb; obtain rfl := Option.some.inj hb
   exact ⟨b, k2, k3⟩
 have hinj : ∀ i j, i < σ'.n → j < σ'.n → π i = π j → i = j := fun i j hi hj he => by
  rcases Nat.lt_or_ge i σ0.n with hlt | hge <;> rcases Nat.lt_or_ge j σ0.n with hlt' | hge'
  ·rw [hπ i hlt, hπ j hlt'] at he; exact he
  ·have := (h3 j hge' hj).1; rw [hπ i hlt] at he; omega
  ·have := (h3 i hge hi).1; rw [hπ j hlt'] at he; omega
  ·exact h4 i j hge hi hge' hj he
 refine ⟨fun i => if i < σ'.n then ρ (π i) else none, h5.rel hv, ⟨fun i b' hb => ?_, fun i hi => ?_, fun i p hp => ?_, fun i j p q b hij hp hq hb hw hx => ?_⟩, ⟨hE.os, hE.tape, hE.output, hE.size, hE.keep, ?_, h1, fun i hi p hp => ?_⟩⟩
 ·obtain ⟨b, hb1, hb2⟩ := hblk i b' hb
  obtain ⟨p, hp, hB⟩ := hH.live _ b hb1
  exact ⟨p, by simp [σ'.lt hb, hp], hb2.rel hB⟩
 ·show (if i < σ'.n then ρ (π i) else none) = none
  split
  ·rename_i hlt
   rcases Nat.lt_or_ge i σ0.n with hlt' | hge
   ·obtain ⟨k1, k2, _⟩ := h2 i hlt'
    rw [k1]; exact hH.dead i (by rw [← k2]; exact hi)
   ·obtain ⟨_, b1, b, k1, _⟩ := h3 i hge hlt
    rw [k1] at hi; cases hi
  ·rfl
 ·change (if i < σ'.n then ρ (π i) else none) = some p at hp
  split at hp
  ·exact hH.lt _ p hp
  ·cases hp
 ·change (if i < σ'.n then ρ (π i) else none) = some p at hp
  change (if j < σ'.n then ρ (π j) else none) = some q at hq
  split at hp
  ·rename_i hi
   split at hq
   ·rename_i hj
    obtain ⟨b0, hb1, hb2⟩ := hblk i b hb
    exact hH.sep (π i) (π j) p q b0 (fun e => hij (hinj i j hi hj e)) hp hq hb1 (by rw [← hb2.wr]; exact hw) hx
   ·cases hq
  ·cases hp
 ·rintro B hB ⟨i, p, b, hp, hb, hw, rfl⟩
  change (if i < σ'.n then ρ (π i) else none) = some p at hp
  split at hp
  ·obtain ⟨b0, hb1, hb2⟩ := hblk i b hb
   exact hE.wr _ hB ⟨π i, p, b0, hp, hb1, by rw [← hb2.wr]; exact hw, rfl⟩
  ·cases hp
 ·change (if i < σ'.n then ρ (π i) else none) = some p at hp
  split at hp
  ·rw [hπ i hi] at hp; exact hE.pl i hi p hp
  ·cases hp
def Agree (σ0 σf : Heap) : Prop := ∀ i, i < σ0.n → σf.get i = σ0.get i
theorem Agree.refl (σ : Heap) : Agree σ σ := fun _ _ => rfl
theorem Agree.push {σ0 σ : Heap} (h : Agree σ0 σ) (hn : σ0.n ≤ σ.n) (b : Blk) : Agree σ0 (σ.push b) := fun i hi => (Heap.get_push_lt σ b (by omega)).trans (h i hi)
theorem Agree.trans {σ0 σ1 σ2 : Heap} (h : Agree σ0 σ1) (k : Agree σ1 σ2) (hn : σ0.n ≤ σ1.n) : Agree σ0 σ2 := fun i hi => (k i (by omega)).trans (h i hi)
section
variable {P : Program} {S : VSpecs}
def runResult (tmps : Array Value) : ResultVar → Sem Value
 | .tmp t => pure (tmps.getD t undef)
 | .cell a t => do loadVar t (← asAddr (tmps.getD a undef))
theorem results_eq (fn : Func) (tmps : Array Value) : results fn tmps = (do
  let vs ← fn.results.mapM (runResult tmps)
  pure (if h : vs.size = 1 then vs[0] else .tuple vs)) := by
 unfold results
 congr 1
theorem vresult_sound {ρ : Plc} {σ : Heap} {w : World} {env : Env} {tmps : Array Value} (hH : HRel ρ σ w) (hL : LRel ρ σ.n env tmps.toList) {r : ResultVar} {vr : VResult}
  (hc : compResult P r = some vr) {v : Value} (h : vresult env σ vr = some v) : ∃ c, VRel ρ σ.n v c ∧ (runResult tmps r).run P w = .ok c w := by
 have hev : ∀ t, VRel ρ σ.n (env.getD t undef) (tmps.getD t undef) := fun t => evalO_rel (a := ⟨tmps, []⟩) hL (x := .tmp t) rfl
 cases r with
 | tmp t =>
  simp [compResult] at hc; subst hc
  simp only [vresult, Option.some.injEq] at h; subst h
  exact ⟨_, hev t, rfl⟩
 | cell a t =>
  simp only [compResult] at hc
  split at hc
  ·rename_i i d hi hu
   simp at hc; subst hc
   simp only [vresult, Option.map_eq_some_iff] at h
   obtain ⟨p, hp, rfl⟩ := h
   simp only [vact, evalO] at hp
   have ha := hev a
   split at hp
   ·rename_i i' o h1
    rw [h1] at ha
    split at hp
    ·rename_i c esz wr tight hb
     split at hp
     ·rename_i v0 hv
      simp at hp; subst hp
      obtain ⟨u, hvu, hr⟩ := load_rel hH hi hu hb hv ha
      refine ⟨u, hvu, ?_⟩
      have := hr w (Like.refl ρ w)
      obtain ⟨ad, had, _⟩ := ha.ptr_inv'
      rw [had] at this
      simp only [Instr.loadAt, Instr.sureAddr, Sem.run_bind, Sem.run_pure, Result.andThen_ok] at this
      simp only [runResult, had, asAddr, Sem.run_bind, Sem.run_pure, Result.andThen_ok]
      exact this
     ·cases hp
    ·cases hp
   ·cases hp
  ·cases hc
theorem run_mapM_ok {α : Type} {ρ : Plc} {n : Nat} (g : α → Sem Value) (w : World) (f : α → Option Value) : ∀ (l : List α) (vs : List Value), l.mapM f = some vs →
  (∀ a ∈ l, ∀ v, f a = some v → ∃ c, VRel ρ n v c ∧ (g a).run P w = .ok c w) → ∃ cs, LRel ρ n vs cs ∧ (l.mapM g).run P w = .ok cs w := by
 intro l
 induction l with
 | nil => intro vs h _; simp at h; subst h; exact ⟨[], LRel.nil _ _, rfl⟩
 | cons a l ih =>
  intro vs h hg
  rw [List.mapM_cons] at h
  cases hf : f a with
  | none => simp [hf] at h
  | some v =>
   cases hm : l.mapM f with
   | none => simp [hf, hm] at h
   | some vs' =>
    simp [hf, hm] at h; subst h
    obtain ⟨c, hc1, hc2⟩ := hg a (by simp) v hf
    obtain ⟨cs, hcs1, hcs2⟩ := ih vs' hm (fun b hb => hg b (by simp [hb]))
    refine ⟨c :: cs, LRel.cons hc1 hcs1, ?_⟩
    rw [List.mapM_cons]
    simp [hc2, hcs2]
theorem vresults_sound {ρ : Plc} {σ : Heap} {w : World} {env : Env} {tmps : Array Value} (hH : HRel ρ σ w) (hL : LRel ρ σ.n env tmps.toList) {fn : Func} {rs : List VResult}
  (hc : compResults P fn.results.toList = some rs) {v : Value} (h : vresults env σ rs = some v) : ∃ c, VRel ρ σ.n v c ∧ (results fn tmps).run P w = .ok c w := by
 unfold compResults at hc
 have hall : ∀ vs, rs.mapM (vresult env σ) = some vs → ∃ cs, LRel ρ σ.n vs cs ∧ (fn.results.mapM (runResult tmps)).run P w = .ok cs.toArray w := by
  intro vs hvs
  have hcomb : fn.results.toList.mapM (fun r => (compResult P r).bind (vresult env σ)) = some vs := by
   have : ∀ (l : List ResultVar) (rs : List VResult) (vs : List Value), l.mapM (compResult P) = some rs → rs.mapM (vresult env σ) = some vs → l.mapM (fun r => (compResult P r).bind (vresult env σ)) = some vs := by
    intro l
    induction l with
    | nil => intro rs vs h1 h2; simp at h1; subst h1; simpa using h2
    | cons r l ih =>
     intro rs vs h1 h2
     rw [List.mapM_cons] at h1
     cases hg : compResult P r with
     | none => simp [hg] at h1
     | some x =>
      cases hm : l.mapM (compResult P) with
      | none => simp [hg, hm] at h1
      | some rs' =>
       simp [hg, hm] at h1; subst h1
       rw [List.mapM_cons] at h2
       cases hx : vresult env σ x with
       | none => simp [hx] at h2
       | some y =>
        cases hm2 : rs'.mapM (vresult env σ) with
        | none => simp [hx, hm2] at h2
        | some vs' =>
         simp [hx, hm2] at h2; subst h2
         rw [List.mapM_cons]
         simp [hg, hx, ih rs' vs' hm hm2]
   exact this _ _ _ hc hvs
  obtain ⟨cs, k1, k2⟩ := run_mapM_ok (P := P) (ρ := ρ) (n := σ.n) (runResult tmps) w _ _ _ hcomb (fun r _ v hv => by
   cases hr : compResult P r with
   | none => rw [hr] at hv; cases hv
   | some vr => rw [hr] at hv; exact vresult_sound hH hL hr hv)
  refine ⟨cs, k1, ?_⟩
  rw [Array.mapM_eq_mapM_toList]
  simp [k2]
 unfold vresults at h
 split at h
 ·rename_i r
  obtain ⟨cs, k1, k2⟩ := hall [v] (by simp [h])
  have hcl : cs.length = 1 := by rw [← k1.1]; rfl
  obtain ⟨c, rfl⟩ := List.length_eq_one_iff.1 hcl
  refine ⟨c, k1.2 0 v c rfl rfl, ?_⟩
  rw [results_eq]
  simp only [Sem.run_bind]
  rw [k2]
  simp
 ·rename_i hne
  simp only [Option.map_eq_some_iff] at h
  obtain ⟨vs, hvs, rfl⟩ := h
  obtain ⟨cs, k1, k2⟩ := hall vs hvs
  refine ⟨.tuple cs.toArray, VRel.tuple_of k1, ?_⟩
  have hl : cs.length ≠ 1 := by
   rw [← k1.1, (mapM_some _ _ _ hvs).1]
   intro e
   obtain ⟨r, hr⟩ := List.length_eq_one_iff.1 e
   exact hne r hr
  rw [results_eq]
  simp only [Sem.run_bind]
  rw [k2]
  simp [hl]
theorem plainL_undef {ρ : Plc} {n : Nat} (k : Nat) : LRel ρ n (List.replicate k undef) (List.replicate k undef) :=
 ⟨rfl, fun i v c hv hc => by
  obtain rfl : v = c := Option.some.inj (hv.symm.trans hc)
  have := List.mem_of_getElem? hv
  rw [List.mem_replicate] at this
  rw [this.2]; exact undef_rel⟩
theorem run_takeDeferred {w : World} {D : Nat} {ds : List Deferred} (h : w.heap[D]? = some (.deferred (some ds))) : (Instr.takeDeferred D).run P w = .ok ds (setO w D (.deferred none)) := by
 simp [Instr.takeDeferred, run_getObj_of h (fun _ _ _ e => by cases e), run_setObj_of h (fun _ _ _ e => by cases e)]
theorem Ext.mark {ρ0 ρ : Plc} {σ0 σ : Heap} {w0 w : World} (hE : Ext ρ0 σ0 w0 ρ σ w) {D : Nat} (hD : w0.heap.size ≤ D) (O : Obj) : Ext ρ0 σ0 w0 ρ σ (setO w D O) :=
 ⟨hE.os, hE.tape, hE.output, by rw [setO_size]; exact hE.size, fun B hB hW => (setO_other w D O B (by omega)).trans (hE.keep B hB hW), hE.wr, hE.n, hE.pl⟩
theorem HRel.mark {ρ : Plc} {σ : Heap} {w : World} (hH : HRel ρ σ w) {D : Nat} {d : Option (List Deferred)} (hD : w.heap[D]? = some (.deferred d)) (O : Obj) : HRel ρ σ (setO w D O) :=
 hH.world (by rw [setO_size]; exact Nat.le_refl _) fun i p hp => setO_other w D O p.blk (hH.not_deferred hD i p hp)
theorem leaves_sound {fn : Func} {tmps : Array Value} {R : Ending → World → Prop} {ρ0 : Plc} {σ0 : Heap} {w0 : World} {ρ : Plc} {σ : Heap}
  (hfin : ∀ w, HRel ρ σ w → Ext ρ0 σ0 w0 ρ σ w → ∃ v, (results fn tmps).run P w = .ok v w ∧ R (.returned v) w) :
  ∀ (Ds : List Nat) (w : World), Ds.Nodup → (∀ D ∈ Ds, w0.heap.size ≤ D ∧ w.heap[D]? = some (.deferred (some []))) → HRel ρ σ w → Ext ρ0 σ0 w0 ρ σ w →
   LeavesInM Fence.wide 0 P fn tmps R (Ds.map fun D => ⟨.collected D, #[]⟩) .returning w := by
 intro Ds
 induction Ds with
 | nil => intro w _ _ hH hE; exact hfin w hH hE
 | cons D Ds ih =>
  intro w hnd hall hH hE
  obtain ⟨h1, h2⟩ := List.nodup_cons.1 hnd
  obtain ⟨h3, h4⟩ := hall D (by simp)
  refine ⟨by simp, .inl ⟨D, _, rfl, run_takeDeferred h4, ih _ h2 (fun E hE' => ?_) (hH.mark h4 _) (hE.mark h3 _)⟩⟩
  obtain ⟨k1, k2⟩ := hall E (by simp [hE'])
  exact ⟨k1, by rw [setO_other _ _ _ _ (by rintro rfl; exact h1 hE')]; exact k2⟩
theorem vcalls_intro (hm : P.follows .mixedOrders = true) (hS : OkSpecs P S) {f : FuncId} {fn : Func} {c : Code} {vc : VCode} {rs : List VResult} (hf : P.funcs[f]? = some fn) (hb : fn.body = some c) (hc : comp P c = some vc) (hr : compResults P fn.results.toList = some rs)
  {args : List Value} {σ : Heap} {R : Value → Heap → Prop} (h : vwp S vc none (bodyK rs fun v σf => ∃ v' σ', DropTo σ v σf v' σ' ∧ R v' σ') (args ++ List.replicate (fn.ntmps - args.length) undef) σ) : VCallsTo P f args σ R := by
 intro ρ w cargs hH hL
 refine callsIn_wide.1 (callsIn_of_wp_marks (n := 0) hf hb trivial (comp_sound hm hS c vc hc (B := w.heap.size) none none 0 _ _ σ ρ w _ h hH ?_ (Mks.nil (Nat.le_refl _)) (.inl ⟨rfl, rfl⟩) _ ?_) rfl)
 ·have hl : args.length = cargs.size := by have := hL.1; simpa using this
  have := hL.append (plainL_undef (ρ := ρ) (n := σ.n) (fn.ntmps - args.length))
  simpa [hl] using this
 ·intro e a' w' ⟨env', ρ', σ', k1, _, k2, k3, ⟨_, Ds, k4, k6, k7⟩, k5⟩
  have fin : (obind (vresults env' σ' rs) fun v => ∃ v' σ'', DropTo σ v σ' v' σ'' ∧ R v' σ'') → LeavesInM Fence.wide 0 P fn a'.tmps (fun e w' => ∃ c, e = .returned c ∧ Got ρ σ w R c w') a'.defers .returning w' := by
   intro hk
   rw [k4]
   refine leaves_sound (fun w1 hH1 hE1 => ?_) Ds w' k6 k7 k2 k5
   cases hv : vresults env' σ' rs with
   | none => rw [hv] at hk; exact hk.elim
   | some v =>
    rw [hv] at hk
    obtain ⟨v', σ'', hd, hR⟩ := hk
    obtain ⟨c, hc1, hc2⟩ := vresults_sound hH1 k3 hr hv
    obtain ⟨ρ'', j1, j2, j3⟩ := hd ρ w ρ' w1 c hH hE1 hH1 hc1
    exact ⟨c, hc2, c, rfl, v', ρ'', σ'', hR, j1, j2, j3⟩
  cases e with
  | normal => exact fin k1
  | ret => exact fin k1
  | _ => exact k1.elim
end
end Go.V
namespace Go.V
open Go
def Fun (P : Program) (f : FuncId) (vc : VCode) (rs : List VResult) (nt : Nat) : Prop :=
 ∃ fn, P.funcs[f]? = some fn ∧ fn.body.bind (comp P) = some vc ∧ compResults P fn.results.toList = some rs ∧ fn.ntmps = nt ∧ (fn.name == "runtime.NumGoroutine") = false
def EndK (σ : Heap) (rs : List VResult) (R : Value → Heap → Prop) : Exit → Env → Heap → Prop := bodyK rs fun v σf => ∃ v' σ', DropTo σ v σf v' σ' ∧ R v' σ'
section
variable {P : Program} {S : VSpecs} {f : FuncId} {vc : VCode} {rs : List VResult} {nt : Nat}
theorem Fun.calls (h : Fun P f vc rs nt) (hm : P.follows .mixedOrders = true) (hS : OkSpecs P S) {args : List Value} {σ : Heap} {R : Value → Heap → Prop}
  (hw : vwp S vc none (EndK σ rs R) (args ++ List.replicate (nt - args.length) undef) σ) : VCalled P f args σ R := by
 obtain ⟨fn, h1, h2, h3, h4, h5⟩ := h
 cases hb : fn.body with
 | none => rw [hb] at h2; cases h2
 | some c =>
  rw [hb] at h2
  exact VCallsTo.called ⟨fn, h1, by rw [hb]; rfl, h5⟩ (vcalls_intro hm hS h1 hb h2 h3 (by rw [h4]; exact hw))
theorem Fun.enterable (h : Fun P f vc rs nt) : Enterable P f := by
 obtain ⟨fn, h1, h2, h3, h4, h5⟩ := h
 refine ⟨fn, h1, ?_, h5⟩
 cases hb : fn.body with
 | none => rw [hb] at h2; cases h2
 | some c => rfl
theorem Fun.callsTo (h : Fun P f vc rs nt) (hm : P.follows .mixedOrders = true) (hS : OkSpecs P S) {args : List Value} {σ : Heap} {R : Value → Heap → Prop}
  (hw : vwp S vc none (EndK σ rs R) (args ++ List.replicate (nt - args.length) undef) σ) : VCallsTo P f args σ R := by
 obtain ⟨fn, h1, h2, h3, h4, h5⟩ := h
 cases hb : fn.body with
 | none => rw [hb] at h2; cases h2
 | some c =>
  rw [hb] at h2
  exact vcalls_intro hm hS h1 hb h2 h3 (by rw [h4]; exact hw)
noncomputable def semSpecs (P : Program) : VSpecs where
 fn f := some fun args σ K => VCalled P f args σ K
 yl i := some fun args σ K => VYields P i args σ K
 it f := @ite _ (Enterable P f) (Classical.propDecidable _) (some fun i Y args σ K => OkYield P i Y → VCallsTo P f args σ K) none
theorem okSem : OkSpecs P (semSpecs P) :=
  ⟨fun f s h => by obtain rfl := Option.some.inj h; exact fun args σ K h => h,
   fun f s h => by obtain rfl := Option.some.inj h; exact fun args σ K h => h,
   fun f T h => by
    simp only [semSpecs] at h
    split at h
    · rename_i he; obtain rfl := Option.some.inj h; exact ⟨he, fun i Y hY args σ K h => h hY⟩
    · cases h⟩
end
end Go.V
namespace Go.V
open Go
inductive Kind where
 | i (k : IntKind)
 | bo
 | st
 | list (k : Kind)
 | pair (a b : Kind)
 deriving DecidableEq, Inhabited
abbrev Kind.T : Kind → Type
 | .i _ => Int
 | .bo => Bool
 | .st => List UInt8
 | .list k => List k.T
 | .pair a b => a.T × b.T
def Kind.size : Kind → Nat
 | .pair a b => a.size + b.size
 | _ => 1
def Kind.dflt : (k : Kind) → k.T
 | .i _ => (0 : Int)
 | .bo => false
 | .st => ([] : List UInt8)
 | .list _ => []
 | .pair a b => (a.dflt, b.dflt)
def Kind.one : Kind → Bool
 | .pair _ _ => false
 | _ => true
theorem Kind.size_pos : ∀ k : Kind, 0 < k.size
 | .pair a b => by have := a.size_pos; simp only [Kind.size]; omega
 | .i _ | .bo | .st | .list _ => by simp [Kind.size]
theorem Kind.one_size : ∀ {k : Kind}, k.one = true → k.size = 1
 | .pair _ _, h => by cases h
 | .i _, _ | .bo, _ | .st, _ | .list _, _ => rfl
abbrev AT : List Kind → Type
 | [] => Unit
 | [k] => k.T
 | k :: k' :: ks => k.T × AT (k' :: ks)
structure Gd where
 id : Nat
 want : Bool
 c : Bool
inductive DW where
 | out
 | el (i : Int) (off sz : Nat)
 | row (k : Kind) (x : List k.T) (i : Int)
 | rowp (k : Kind) (x : List k.T) (i j : Int) (off : Nat)
 | inn (k : Kind) (x : List k.T)
 | inp (k : Kind) (l : List k.T) (j : Int) (off : Nat)
 | dat
 | obx (c : Bool)
inductive SV where
 | dd (o : Nat) (w : DW)
 | any
 | val (k : Kind) (x : k.T)
 | bid (n : Nat) (c : Bool)
 | grd (gs : List Gd) (v : SV)
 | nilS
 | nilP
 | nilM
 | nilF
 | lst (o : Nat)
 | sub (o : Nat) (lo n sz : Nat)
 | elp (o : Nat) (i : Int) (off sz : Nat)
 | rop (k : Kind) (l : List k.T) (i : Int) (off : Nat)
 | box (o : Nat) (off : Nat)
 | cp (l : List SV) (off : Nat)
 | map (o : Nat)
 | agg (l : List SV)
 | tup (l : List SV)
 | fn (f : Nat) (first caps : List SV)
 | pf (ks : List Kind) (r : Kind) (dom : AT ks → Prop) (p : AT ks → r.T)
inductive OB where
 | dead
 | lst (ty : Nat) (k : Kind) (xs : List k.T) (nl : Bool)
 | cells (l : List SV) (u : Option Nat)
 | map (kk vk : Kind) (m : List (kk.T × vk.T))
 | stk (l : List SV) (vals : List Value)
 | deep (ty : Nat) (q : Option Nat) (k : Kind) (xs : List k.T) (nl : Bool) (hole : Option Nat)
instance : Inhabited SV := ⟨.any⟩
instance : Inhabited OB := ⟨.dead⟩
inductive Rows {α : Type} (R : α → List Value → Prop) : List α → List Value → Prop
 | nil : Rows R [] []
 | cons {x : α} {xs : List α} {c cs : List Value} (h : R x c) (t : Rows R xs cs) : Rows R (x :: xs) (c ++ cs)
def SlRel (h : Heap) (sz : Nat) {α : Type} (R : α → List Value → Prop) (l : List α) (v : Value) : Prop :=
 (l = [] ∧ v = .slice none 0 0) ∨ ∃ i o cap c e wr t, v = .slice (some ⟨i, o, none⟩) l.length cap ∧ l.length ≤ cap ∧ h.get i = some (.cells c e wr t) ∧ e.sz = sz ∧ o + l.length * sz ≤ c.length ∧ Rows R l ((c.drop o).take (l.length * sz))
def KC (h : Heap) : (k : Kind) → k.T → List Value → Prop
 | .i ik, x, cs => cs = [.int ik x]
 | .bo, x, cs => cs = [.bool x]
 | .st, x, cs => cs = [.string ⟨x.toArray⟩]
 | .list k, l, cs => ∃ v, cs = [v] ∧ SlRel h k.size (fun x c => KC h k x c) l v
 | .pair a b, x, cs => ∃ c1 c2, cs = c1 ++ c2 ∧ KC h a x.1 c1 ∧ KC h b x.2 c2
theorem Rows.length {α : Type} {R : α → List Value → Prop} {n : Nat} (hR : ∀ x c, R x c → c.length = n) {xs : List α} {cs : List Value} (h : Rows R xs cs) : cs.length = xs.length * n := by
 induction h with
 | nil => simp
 | cons h _ ih => simp only [List.length_append, hR _ _ h, ih, List.length_cons, Nat.add_mul, Nat.one_mul]; omega
theorem Rows.mono {α : Type} {R R' : α → List Value → Prop} (hR : ∀ x c, R x c → R' x c) {xs : List α} {cs : List Value} (h : Rows R xs cs) : Rows R' xs cs := by
 induction h with
 | nil => exact .nil
 | cons h _ ih => exact .cons (hR _ _ h) ih
theorem Rows.append {α : Type} {R : α → List Value → Prop} {xs ys : List α} {cs ds : List Value} (h : Rows R xs cs) (h' : Rows R ys ds) : Rows R (xs ++ ys) (cs ++ ds) := by
 induction h with
 | nil => exact h'
 | cons h _ ih => rw [List.append_assoc]; exact .cons h ih
theorem Rows.at {α : Type} {R : α → List Value → Prop} {n : Nat} (hR : ∀ x c, R x c → c.length = n) {xs : List α} {cs : List Value} (h : Rows R xs cs) {k : Nat} (hk : k < xs.length) : R xs[k] ((cs.drop (k * n)).take n) := by
 induction h generalizing k with
 | nil => simp at hk
 | @cons x xs c cs h t ih =>
  have hc := hR _ _ h
  cases k with
  | zero => simp only [Nat.zero_mul, List.drop_zero, List.getElem_cons_zero]; rw [← hc, List.take_left]; exact h
  | succ k =>
   have := ih (k := k) (by simpa using hk)
   rw [List.getElem_cons_succ, Nat.add_mul, Nat.one_mul]
   have e : (c ++ cs).drop (k * n + n) = cs.drop (k * n) := by
    rw [List.drop_append, hc]
    rw [List.drop_eq_nil_of_le (by omega)]
    simp
   rw [e]; exact this
theorem Rows.take {α : Type} {R : α → List Value → Prop} {n : Nat} (hR : ∀ x c, R x c → c.length = n) {xs : List α} {cs : List Value} (h : Rows R xs cs) (k : Nat) : Rows R (xs.take k) (cs.take (k * n)) := by
 induction h generalizing k with
 | nil => simp; exact .nil
 | @cons x xs c cs h t ih =>
  have hc := hR _ _ h
  cases k with
  | zero => simp; exact .nil
  | succ k =>
   have e1 : c.take ((k + 1) * n) = c := List.take_of_length_le (by rw [hc, Nat.add_mul]; omega)
   rw [List.take_succ_cons, List.take_append, hc, show (k + 1) * n - n = k * n by rw [Nat.add_mul]; omega, e1]
   exact .cons h (ih k)
theorem Rows.drop {α : Type} {R : α → List Value → Prop} {n : Nat} (hR : ∀ x c, R x c → c.length = n) {xs : List α} {cs : List Value} (h : Rows R xs cs) (k : Nat) : Rows R (xs.drop k) (cs.drop (k * n)) := by
 induction h generalizing k with
 | nil => simp; exact .nil
 | @cons x xs c cs h t ih =>
  have hc := hR _ _ h
  cases k with
  | zero => simp; exact .cons h t
  | succ k =>
   have e1 : c.drop ((k + 1) * n) = [] := List.drop_eq_nil_of_le (by rw [hc, Nat.add_mul]; omega)
   rw [List.drop_succ_cons, List.drop_append, hc, show (k + 1) * n - n = k * n by rw [Nat.add_mul]; omega, e1, List.nil_append]
   exact ih k
theorem Rows.set {α : Type} {R : α → List Value → Prop} {n : Nat} (hR : ∀ x c, R x c → c.length = n) {xs : List α} {cs : List Value} (h : Rows R xs cs) {k : Nat} (hk : k < xs.length) {y : α} {d : List Value} (hd : R y d) : Rows R (xs.set k y) (cs.take (k * n) ++ d ++ cs.drop (k * n + n)) := by
 have e : xs.set k y = xs.take k ++ ([y] ++ xs.drop (k + 1)) := by
  rw [List.set_eq_take_append_cons_drop, if_pos hk]; rfl
 rw [e, List.append_assoc]
 have h2 := h.drop hR (k + 1)
 rw [Nat.add_mul, Nat.one_mul] at h2
 exact (h.take hR k).append ((show Rows R [y] d by simpa using Rows.cons hd .nil).append h2)
theorem Rows.replicate {α : Type} {R : α → List Value → Prop} {x : α} {c : List Value} (h : R x c) : ∀ n, Rows R (List.replicate n x) (List.replicate n c).flatten
 | 0 => by simp; exact .nil
 | n + 1 => by simp only [List.replicate_succ, List.flatten_cons]; exact .cons h (Rows.replicate h n)
theorem KC.length {h : Heap} : ∀ {k : Kind} {x : k.T} {cs : List Value}, KC h k x cs → cs.length = k.size
 | .i _, _, _, e | .bo, _, _, e | .st, _, _, e => by simp only [KC] at e; subst e; rfl
 | .list k, l, cs, e => by obtain ⟨v, rfl, _⟩ := e; rfl
 | .pair a b, x, cs, e => by
  obtain ⟨c1, c2, rfl, h1, h2⟩ := e
  simp only [List.length_append, KC.length h1, KC.length h2, Kind.size]
theorem SlRel.mono {h h' : Heap} (hl : h.Le h') {sz : Nat} {α : Type} {R R' : α → List Value → Prop} (hR : ∀ x c, R x c → R' x c) {l : List α} {v : Value} (hs : SlRel h sz R l v) : SlRel h' sz R' l v := by
 rcases hs with hs | ⟨i, o, cap, c, e, wr, t, h1, h2, h3, h4, h5, h6⟩
 ·exact .inl hs
 ·exact .inr ⟨i, o, cap, c, e, wr, t, h1, h2, hl.2 _ _ h3, h4, h5, h6.mono hR⟩
theorem KC.mono {h h' : Heap} (hl : h.Le h') : ∀ {k : Kind} {x : k.T} {cs : List Value}, KC h k x cs → KC h' k x cs
 | .i _, _, _, e | .bo, _, _, e | .st, _, _, e => e
 | .list k, l, cs, e => by
  obtain ⟨v, hv, hs⟩ := e
  exact ⟨v, hv, hs.mono hl fun x c hx => KC.mono (k := k) hl hx⟩
 | .pair a b, x, cs, e => by
  obtain ⟨c1, c2, hc, h1, h2⟩ := e
  exact ⟨c1, c2, hc, KC.mono hl h1, KC.mono hl h2⟩
theorem KC.cellOk {h : Heap} : ∀ {k : Kind} {x : k.T} {cs : List Value}, KC h k x cs → cs.all cellOk = true
 | .i _, _, _, e | .bo, _, _, e | .st, _, _, e => by simp only [KC] at e; subst e; rfl
 | .list k, l, cs, e => by
  obtain ⟨v, rfl, hs⟩ := e
  rcases hs with ⟨_, rfl⟩ | ⟨i, o, cap, c, e, wr, t, rfl, _⟩ <;> rfl
 | .pair a b, x, cs, e => by
  obtain ⟨c1, c2, rfl, h1, h2⟩ := e
  rw [List.all_append, KC.cellOk h1, KC.cellOk h2]; rfl
def kcells : (k : Kind) → k.T → List SV
 | .pair a b, x => kcells a x.1 ++ kcells b x.2
 | .i k, x => [.val (.i k) x]
 | .bo, x => [.val .bo x]
 | .st, x => [.val .st x]
 | .list k, x => [.val (.list k) x]
def kval : (k : Kind) → k.T → SV
 | .pair a b, x => .agg (kcells (.pair a b) x)
 | .i k, x => .val (.i k) x
 | .bo, x => .val .bo x
 | .st, x => .val .st x
 | .list k, x => .val (.list k) x
inductive RowsO {α : Type} (R : α → List Value → List Nat → Prop) : List α → List Value → List Nat → Prop
 | nil : RowsO R [] [] []
 | cons {x : α} {xs : List α} {c cs : List Value} {is js : List Nat} (h : R x c is) (t : RowsO R xs cs js) : RowsO R (x :: xs) (c ++ cs) (is ++ js)
def KO (H : Heap) : (q : Option Nat) → (k : Kind) → k.T → List Value → List Nat → Prop
 | _, .i ik, x, cs, is => cs = [.int ik x] ∧ is = []
 | _, .bo, x, cs, is => cs = [.bool x] ∧ is = []
 | _, .st, x, cs, is => cs = [.string ⟨x.toArray⟩] ∧ is = []
 | q, .list k, l, cs, is => (l = [] ∧ cs = [.slice none 0 0] ∧ is = []) ∨ ∃ i cap c e t js, cs = [.slice (some ⟨i, 0, none⟩) l.length cap] ∧ is = i :: js ∧ l.length ≤ cap ∧ H.get i = some (.cells c e true t) ∧ e.sz = k.size ∧ (∀ ty, q = some ty → e.ty = ty) ∧ cap * k.size ≤ c.length ∧
   RowsO (fun x c is => KO H none k x c is) l (c.take (l.length * k.size)) js
 | _, .pair a b, x, cs, is => ∃ c1 c2 i1 i2, cs = c1 ++ c2 ∧ is = i1 ++ i2 ∧ KO H none a x.1 c1 i1 ∧ KO H none b x.2 c2 i2
def encB (i : Nat) : Blk → Value
 | .cells c e _ t => .tuple #[.int .i64 (i : Nat), .agg c.toArray, .int .i64 (e.sz : Nat), .int .i64 (e.ty : Nat), .bool t]
 | _ => .bool true
def decB : Value → Option (Nat × Blk)
 | .tuple ⟨[.int _ i, .agg c, .int _ sz, .int _ ty, .bool t]⟩ => some (i.toNat, .cells c.toList ⟨sz.toNat, ty.toNat⟩ true t)
 | _ => none
def decL : List Value → List (Nat × Blk)
 | [] => []
 | v :: vs => match decB v with | some p => p :: decL vs | none => decL vs
def lookB : List (Nat × Blk) → Nat → Option Blk
 | [], _ => none
 | (j, b) :: r, i => if i = j then some b else lookB r i
def topB : List (Nat × Blk) → Nat
 | [] => 0
 | (j, _) :: r => max (j + 1) (topB r)
theorem lookB_top : ∀ (l : List (Nat × Blk)) (i : Nat), topB l ≤ i → lookB l i = none
 | [], _, _ => rfl
 | (j, b) :: r, i, h => by
  simp only [topB] at h
  have : ¬ i = j := by omega
  simp only [lookB, if_neg this]
  exact lookB_top r i (by omega)
def listH (l : List (Nat × Blk)) : Heap := ⟨lookB l, topB l, fun i h => lookB_top l i h⟩
def phd : Value → Value
 | .tuple ⟨v :: _⟩ => v
 | v => v
def pheap : Value → Heap
 | .tuple ⟨_ :: vs⟩ => listH (decL vs)
 | _ => listH []
def DR (p : Value) : DW → Value → Prop
 | .out, v => v = phd p ∧ ∃ a n c, v = .slice a n c
 | .el i off sz, v => ∃ b len cap, phd p = .slice (some ⟨b, 0, none⟩) len cap ∧ 0 ≤ i ∧ i < len ∧ v = .pointer (some ⟨b, i.toNat * sz + off, none⟩)
 | .row k x i, v => KC (pheap p) (.list k) x [v] ∧ (∀ a n c, v = .slice (some a) n c → a.off = 0) ∧ ∃ b len cap c e t, phd p = .slice (some ⟨b, 0, none⟩) len cap ∧ 0 ≤ i ∧ i < len ∧ (pheap p).get b = some (.cells c e true t) ∧ c[i.toNat]? = some v
 | .rowp k x i j off, v => ∃ b len cap c e t r rl rc rcells re rt, phd p = .slice (some ⟨b, 0, none⟩) len cap ∧ 0 ≤ i ∧ i < len ∧ (pheap p).get b = some (.cells c e true t) ∧ c[i.toNat]? = some (.slice (some ⟨r, 0, none⟩) rl rc) ∧ 0 ≤ j ∧ j < rl ∧ x.length = rl ∧ (pheap p).get r = some (.cells rcells re true rt) ∧ rl * k.size ≤ rcells.length ∧ Rows (KC (pheap p) k) x (rcells.take (rl * k.size)) ∧ v = .pointer (some ⟨r, j.toNat * k.size + off, none⟩)
 | .inn k x, v => KC (pheap p) (.list k) x [v]
 | .inp k l j off, v => ∃ b o c e wr t, 0 ≤ j ∧ j < l.length ∧ (pheap p).get b = some (.cells c e wr t) ∧ v = .pointer (some ⟨b, o + j.toNat * k.size + off, none⟩) ∧ o + l.length * k.size ≤ c.length ∧ Rows (KC (pheap p) k) l ((c.drop o).take (l.length * k.size))
 | .dat, v => (phd p = .slice none 0 0 ∧ v = .pointer none) ∨ ∃ b n cap, phd p = .slice (some ⟨b, 0, none⟩) n cap ∧ 0 < n ∧ v = .pointer (some ⟨b, 0, none⟩)
 | .obx c, v => (c = false ∧ v = .pointer none) ∨ (c = true ∧ ∃ b, phd p = .pointer (some ⟨b, 0, none⟩) ∧ v = .pointer (some ⟨b, 0, none⟩))
def KV (h : Heap) (k : Kind) (x : k.T) (v : Value) : Prop := (k.one = true ∧ KC h k x [v]) ∨ (k.one = false ∧ ∃ cs, v = .agg cs.toArray ∧ KC h k x cs)
def atVals (h : Heap) : (ks : List Kind) → AT ks → List Value → Prop
 | [], _, vs => vs = []
 | [k], x, vs => ∃ v, vs = [v] ∧ KV h k x v
 | k :: k' :: ks, x, vs => ∃ v vs', vs = v :: vs' ∧ KV h k x.1 v ∧ atVals h (k' :: ks) x.2 vs'
def gtb (tb : Nat → Option Bool) : SV → Prop
 | .bid n c => tb n = some c
 | _ => True
section
variable (P : Program)
def PfRel (B : Heap) (ks : List Kind) (r : Kind) (dom : AT ks → Prop) (p : AT ks → r.T) (v : Value) : Prop :=
 ∃ g first cap, v = .func (.func g) first cap ∧ ∀ x, dom x → ∀ σ vs, B.Le σ → atVals σ ks x vs → VCalled P g (first.toList ++ vs ++ cap.toList) σ fun v' σ' => σ' = σ ∧ KV σ r (p x) v'
mutual
def SR (B : Heap) (pl : Nat → Value) (tb : Nat → Option Bool) : SV → Value → Prop
 | .any, _ => True
 | .val k x, v => KC B k x [v]
 | .bid n c, v => v = .bool c ∧ tb n = some c
 | .grd gs v, u => ((∀ g ∈ gs, tb g.id = some g.c) ∧ gtb tb v) ∧ ((∀ g ∈ gs, g.c = g.want) → SR B pl tb v u) ∧ ((∃ g ∈ gs, g.c ≠ g.want) → u = undef)
 | .nilS, v => v = .slice none 0 0
 | .nilP, v => v = .pointer none
 | .nilM, v => v = .map none
 | .nilF, v => v = .nilFunc
 | .lst o, v => v = pl o ∧ ∃ a n c, v = .slice a n c
 | .sub o lo n sz, v => (lo = 0 ∧ n = 0 ∧ v = .slice none 0 0 ∧ pl o = .slice none 0 0) ∨ ∃ i len cap cap', pl o = .slice (some ⟨i, 0, none⟩) len cap ∧ lo + n ≤ len ∧ n ≤ cap' ∧ v = .slice (some ⟨i, lo * sz, none⟩) n cap'
 | .elp o i off sz, v => ∃ b len cap, pl o = .slice (some ⟨b, 0, none⟩) len cap ∧ 0 ≤ i ∧ i < len ∧ v = .pointer (some ⟨b, i.toNat * sz + off, none⟩)
 | .rop k l i off, v => ∃ b o c e wr t, 0 ≤ i ∧ i < l.length ∧ B.get b = some (.cells c e wr t) ∧ v = .pointer (some ⟨b, o + i.toNat * k.size + off, none⟩) ∧ o + l.length * k.size ≤ c.length ∧ Rows (KC B k) l ((c.drop o).take (l.length * k.size))
 | .box o off, v => ∃ b, pl o = .pointer (some ⟨b, 0, none⟩) ∧ v = .pointer (some ⟨b, off, none⟩)
 | .cp l off, v => ∃ b c e wr t, B.get b = some (.cells c e wr t) ∧ v = .pointer (some ⟨b, off, none⟩) ∧ SRs B pl tb l c
 | .map o, v => v = pl o ∧ ∃ m, v = .map m
 | .agg l, v => ∃ cs, v = .agg cs.toArray ∧ SRs B pl tb l cs
 | .tup l, v => ∃ cs, v = .tuple cs.toArray ∧ SRs B pl tb l cs
 | .dd o w, v => DR (pl o) w v
 | .fn f first caps, v => ∃ a b, v = .func (.func f) a.toArray b.toArray ∧ SRs B pl tb first a ∧ SRs B pl tb caps b
 | .pf ks r dom p, v => PfRel P B ks r dom p v
def SRs (B : Heap) (pl : Nat → Value) (tb : Nat → Option Bool) : List SV → List Value → Prop
 | [], vs => vs = []
 | s :: ss, vs => ∃ v vs', vs = v :: vs' ∧ SR B pl tb s v ∧ SRs B pl tb ss vs'
end
end
end Go.V
namespace Go.V
open Go
abbrev Own := List (Nat × OB)
def oget : Own → Nat → OB
 | [], _ => .dead
 | (k, b) :: r, d => bif Nat.beq k d then b else oget r d
def oset : Own → Nat → OB → Own
 | [], d, b => [(d, b)]
 | (k, c) :: r, d, b => bif Nat.beq k d then (d, b) :: r else bif Nat.blt d k then (d, b) :: (k, c) :: r else (k, c) :: oset r d b
structure St where
 env : List SV
 own : Own
 nx : Nat
mutual
def SV.kill (o : Nat) : SV → SV
 | .lst o' => bif Nat.beq o' o then .any else .lst o'
 | .sub o' lo n sz => bif Nat.beq o' o then .any else .sub o' lo n sz
 | .elp o' i off sz => bif Nat.beq o' o then .any else .elp o' i off sz
 | .dd o' w => bif Nat.beq o' o then .any else .dd o' w
 | .box o' off => bif Nat.beq o' o then .any else .box o' off
 | .map o' => bif Nat.beq o' o then .any else .map o'
 | .grd gs v => .grd gs (SV.kill o v)
 | .agg l => .agg (SVs.kill o l)
 | .tup l => .tup (SVs.kill o l)
 | .cp l off => .cp (SVs.kill o l) off
 | .fn f a b => .fn f (SVs.kill o a) (SVs.kill o b)
 | .any => .any
 | .val k x => .val k x
 | .bid n c => .bid n c
 | .nilS => .nilS
 | .nilP => .nilP
 | .nilM => .nilM
 | .nilF => .nilF
 | .rop k l i off => .rop k l i off
 | .pf ks r dom p => .pf ks r dom p
def SVs.kill (o : Nat) : List SV → List SV
 | [] => []
 | s :: ss => SV.kill o s :: SVs.kill o ss
end
def OB.kill (o : Nat) : OB → OB
 | .cells l u => .cells (SVs.kill o l) u
 | .dead => .dead
 | .lst ty k xs nl => .lst ty k xs nl
 | .map kk vk m => .map kk vk m
 | .stk l vals => .stk (SVs.kill o l) vals
 | .deep ty q k xs nl h => .deep ty q k xs nl h
def okill (o : Nat) : Own → Own
 | [] => []
 | (k, b) :: r => bif Nat.beq k o then okill o r else (k, b.kill o) :: okill o r
def St.kill (s : St) (o : Nat) : St := ⟨SVs.kill o s.env, okill o s.own, s.nx⟩
def St.make (s : St) (o : Nat) (b : OB) : St := ⟨(s.kill o).env, oset (s.kill o).own o b, s.nx⟩
def St.put (s : St) (d : Option Nat) (v : SV) : St := match d with
 | some d => ⟨s.env.set d v, s.own, s.nx⟩
 | none => s
def cvp : Value → SV
 | .bool b => .val .bo b
 | .int k x => .val (.i k) x
 | .string s => .val .st s.data.toList
 | .pointer none => .nilP
 | .slice none 0 0 => .nilS
 | .map none => .nilM
 | .nilFunc => .nilF
 | _ => .any
def cv : Value → SV
 | .agg cs => .agg (cs.toList.map cvp)
 | v => cvp v
def gsub : List Gd → List Gd → Bool
 | [], _ => true
 | _ :: _, [] => false
 | a :: l, b :: m => bif Nat.beq a.id b.id && (a.want == b.want) then gsub l m else gsub (a :: l) m
def gstrip (gs : List Gd) : SV → SV
 | .grd g v => bif gsub g gs then v else .any
 | v => v
def gev (gs : List Gd) (env : List SV) : Operand → SV
 | .tmp t => gstrip gs (env.getD t .any)
 | .const v => cv v
 | .func f => .fn f [] []
 | .global _ => .any
def castL {k : Kind} (l : List k.T) (k' : Kind) : Option (List k'.T) := if h : k = k' then some (h ▸ l) else none
def castK {k : Kind} (x : k.T) (k' : Kind) : Option k'.T := if h : k = k' then some (h ▸ x) else none
def asB : SV → Option Bool
 | .val .bo b => some b
 | .bid _ c => some c
 | _ => none
def asI : SV → Option (IntKind × Int)
 | .val (.i k) x => some (k, x)
 | _ => none
def asS : SV → Option (List UInt8)
 | .val .st x => some x
 | _ => none
def Kind.flat : Kind → Bool
 | .list _ => false
 | .pair a b => a.flat && b.flat
 | _ => true
def view (own : Own) (k : Kind) : SV → Option (List k.T)
 | .nilS => some []
 | .val (.list _k') l => castL l k
 | .lst o => match oget own o with | .lst _ _k' xs _ => castL xs k | _ => none
 | .sub o lo n sz => match oget own o with | .lst _ k' xs _ => if sz = k'.size then (castL xs k).map fun xs => (xs.drop lo).take n else none | _ => none
 | .dd o w => bif k.flat then (match oget own o with
  | .deep _ _ _ xs _ h => (match w with
   | .out => (match h with | none => castL xs k | some _ => none)
   | .inn _ l => castL l k
   | .row _ l _ => castL l k
   | _ => none)
  | _ => none) else none
 | _ => none
def vlen (own : Own) : SV → Option Nat
 | .nilS => some 0
 | .val (.list _) l => some l.length
 | .lst o => match oget own o with | .lst _ _ xs _ => some xs.length | _ => none
 | .sub _ _ n _ => some n
 | .dd o w => (match oget own o with
  | .deep _ _ _ xs _ h => (match w with
   | .out => (match h with | none => some xs.length | some _ => none)
   | .inn _ l => some l.length
   | .row _ l _ => some l.length
   | _ => none)
  | _ => none)
 | _ => none
def SV.solid : SV → Bool
 | .agg _ | .tup _ | .any | .grd _ _ => false
 | _ => true
def scells : SV → Option (List SV)
 | .agg l => bif l.all SV.solid then some l else none
 | .tup _ => none
 | .any => none
 | .grd _ _ => none
 | v => some [v]
def deck : (k : Kind) → List SV → Option k.T
 | .i ik, [v] => match v with | .val (.i ik') x => if ik = ik' then some x else none | _ => none
 | .bo, [v] => asB v
 | .st, [v] => asS v
 | .list k, [v] => match v with | .nilS => some [] | .val (.list _k') l => castL l k | _ => none
 | .pair a b, l => match deck a (l.take a.size), deck b (l.drop a.size) with
  | some x, some y => some (x, y)
  | _, _ => none
 | _, _ => none
def kput : (k : Kind) → Nat → SV → k.T → Option k.T
 | .pair a b, off, v, x => bif Nat.blt off a.size then (kput a off v x.1).map fun y => (y, x.2) else (kput b (off - a.size) v x.2).map fun y => (x.1, y)
 | .i ik, _, v, _ => deck (.i ik) [v]
 | .bo, _, v, _ => deck .bo [v]
 | .st, _, v, _ => deck .st [v]
 | .list k, _, v, _ => deck (.list k) [v]
def zeroOk : Kind → List Value → Bool
 | .i ik, [.int k x] => decide (ik = k) && (x == 0)
 | .bo, [.bool b] => !b
 | .st, [.string s] => s.data.toList.isEmpty
 | .list _, [.slice none 0 0] => true
 | .pair a b, l => zeroOk a (l.take a.size) && zeroOk b (l.drop a.size)
 | _, _ => false
def InK (k : IntKind) (x : Int) : Prop := k.min ≤ x ∧ x ≤ k.max
def gimp : List Gd → Prop → Prop
 | [], p => p
 | g :: gs, p => g.c = g.want → gimp gs p
def gobl (gs : List Gd) : List Prop → Prop → Prop
 | [], q => q
 | c :: cs, q => gimp gs c ∧ gobl gs cs q
abbrev CSp := (SV → List SV → Option (Prop × SV)) → List SV → Option (Prop × SV × List OB)
abbrev XSp := Nat → List SV → St → (SV → St → Prop) → Prop
abbrev ISp := List SV → Option (Prop × Nat × Nat × (Nat → List SV))
structure Cx where
 kt : List (Nat × Kind)
 cs : List (Nat × CSp)
 nt : Nat
 raw : List Nat
 off : Nat
 xs : List (Nat × XSp)
 it : List (Nat × ISp)
 el : List (Nat × Nat) := []
 jn : List Nat := []
 nm : Bool := false
def alook {α : Type _} : List (Nat × α) → Nat → Option α
 | [], _ => none
 | (k, x) :: r, d => bif Nat.beq k d then some x else alook r d
mutual
def resP (own : Own) (bx : List SV → Nat → SV) : SV → SV
 | .lst o => match oget own o with | .lst _ k xs _ => .val (.list k) xs | _ => .any
 | .sub o lo n sz => match oget own o with | .lst _ k xs _ => if sz = k.size then .val (.list k) ((xs.drop lo).take n) else .any | _ => .any
 | .box o off => match oget own o with | .cells l _ => bx l off | _ => .any
 | .agg l => .agg (resPs own bx l)
 | .fn f a b => .fn f (resPs own bx a) (resPs own bx b)
 | .bid _ c => .val .bo c
 | .val k x => .val k x
 | .nilS => .nilS
 | .nilP => .nilP
 | .nilM => .nilM
 | .nilF => .nilF
 | .rop k l i off => .rop k l i off
 | .cp l off => .cp (resPs own bx l) off
 | .pf ks r dom p => .pf ks r dom p
 | .any => .any
 | .grd _ _ => .any
 | .elp _ _ _ _ => .any
 | .dd o w => (match oget own o with
  | .deep _ _ k xs _ h => (match w with
   | .out => (match h with | none => .val (.list k) xs | some _ => .any)
   | .inn k x => .val (.list k) x
   | .row k x _ => .val (.list k) x
   | _ => .any)
  | _ => .any)
 | .map _ => .any
 | .tup _ => .any
def resPs (own : Own) (bx : List SV → Nat → SV) : List SV → List SV
 | [] => []
 | s :: ss => resP own bx s :: resPs own bx ss
end
def res0 (own : Own) (l : List SV) : List SV := resPs own (fun _ _ => .any) l
def res1 (own : Own) (l : List SV) : List SV := resPs own (fun c off => .cp (res0 own c) off) l
def res2 (own : Own) (l : List SV) : List SV := resPs own (fun c off => .cp (res1 own c) off) l
def ress (own : Own) (l : List SV) : List SV := res2 own l
def arithI : BinOp → Int → Int → Int
 | .add, a, b => a + b
 | .sub, a, b => a - b
 | _, a, b => a * b
def gmax (a b : Int) : Int := if b > a then b else a
def gmin (a b : Int) : Int := if b < a then b else a
def shlI (k : IntKind) (x y : Int) : Int := x * 2 ^ (Nat.min y.toNat k.bits)
def shrI (k : IntKind) (x y : Int) : Int := x.fdiv (2 ^ (Nat.min y.toNat k.bits))
def gfill (c : List SV) : List (Nat × Nat × SV) → Option (List SV)
 | [] => some c
 | (o, sz, v) :: rest => match scells v with
  | some vs => if vs.length = sz ∧ o + sz ≤ c.length then gfill (setS c o vs) rest else none
  | none => none
 where setS (c : List SV) (o : Nat) : List SV → List SV
 | [] => c
 | v :: vs => setS (c.set o v) (o + 1) vs
def gpart (agg : Bool) (size : Nat) (l : List SV) (off : Nat) : Option SV :=
 bif agg then (if off + size ≤ l.length then some (.agg ((l.drop off).take size)) else none) else l[off]?
def dcells (o : Nat) : (k : Kind) → k.T → List SV
 | .pair a b, x => dcells o a x.1 ++ dcells o b x.2
 | .list k, x => [.dd o (.inn k x)]
 | .i k, x => [.val (.i k) x]
 | .bo, x => [.val .bo x]
 | .st, x => [.val .st x]
def dtop (o : Nat) (i : Int) : (k : Kind) → k.T → List SV
 | .list k, x => [.dd o (.row k x i)]
 | .pair a b, x => dcells o (.pair a b) x
 | .i k, x => [.val (.i k) x]
 | .bo, x => [.val .bo x]
 | .st, x => [.val .st x]
def gload (own : Own) (agg : Bool) (size : Nat) : SV → Option SV
 | .box o off => match oget own o with | .cells l _ => gpart agg size l off | _ => none
 | .cp l off => gpart agg size l off
 | .elp o i off sz => match oget own o with | .lst _ k xs _ => if sz = k.size ∧ off + size ≤ sz then gpart agg size (kcells k (xs.getD i.toNat k.dflt)) off else none | _ => none
 | .rop k l i off => if off + size ≤ k.size then gpart agg size (kcells k (l.getD i.toNat k.dflt)) off else none
 | .dd o w => (match oget own o with
  | .deep _ _ k xs _ h => (match h with
   | none => (match w with
    | .el i off sz => if sz = k.size ∧ off + size ≤ sz then gpart agg size (dtop o i k (xs.getD i.toNat k.dflt)) off else none
    | .rowp k' x _ j off => if off + size ≤ k'.size then gpart agg size (dcells o k' (x.getD j.toNat k'.dflt)) off else none
    | .inp k' l j off => if off + size ≤ k'.size then gpart agg size (dcells o k' (l.getD j.toNat k'.dflt)) off else none
    | _ => none)
   | some _ => none)
  | _ => none)
 | _ => none
def gbound (ev : Operand → SV) : Option Operand → Int → Option Int
 | none, d => some d
 | some x, _ => (asI (ev x)).map (·.2)
def gcell (k : MK) (a b : SV) : Option Bool := match k with
 | .int q => (match asI a, asI b with | some (q1, x), some (q2, y) => if q1 = q ∧ q2 = q then some (x == y) else none | _, _ => none)
 | .bool => (match asB a, asB b with | some x, some y => some (x == y) | _, _ => none)
 | .string => (match asS a, asS b with | some x, some y => some (x == y) | _, _ => none)
def gcells : List MK → List SV → List SV → Option Bool
 | [], _, _ => none
 | k :: ks, a :: l, b :: m => (match ks with
  | [] => (match l, m with | [], [] => gcell k a b | _, _ => none)
  | k' :: ks => (match gcell k a b, gcells (k' :: ks) l m with | some x, some y => some (x && y) | _, _ => none))
 | _ :: _, _, _ => none
def bytesI (xs : List Int) : List UInt8 := xs.map fun x => x.toNat.toUInt8
def gq (_kt : List (Nat × Kind)) (raw : Bool) (o : VOp) (ev : Operand → SV) (own : Own) : Option (List Prop × SV) :=
 match o with
 | .move x => some ([], ev x)
 | .arith op x y => match asI (ev x), asI (ev y) with
  | some (k, a), some (k', b) => if k = k' then (bif raw then some ([], .val (.i k) (k.wrap (arithI op a b))) else some ([InK k (arithI op a b)], .val (.i k) (arithI op a b))) else none
  | _, _ => none
 | .div op x y => match asI (ev x), asI (ev y) with
  | some (k, a), some (k', b) => if k = k' then (match op with
   | .quo => some ([b ≠ 0, InK k (a.tdiv b)], .val (.i k) (a.tdiv b))
   | _ => some ([b ≠ 0], .val (.i k) (a.tmod b))) else none
  | _, _ => none
 | .bits op x y => match asI (ev x), asI (ev y) with
  | some (k, a), some (k', b) => if k = k' then some ([], .val (.i k) (vbits op k a b)) else none
  | _, _ => none
 | .shift op x y => match asI (ev x), asI (ev y) with
  | some (k, a), some (_, b) => (match op with
   | .shl => bif raw then some ([0 ≤ b], .val (.i k) (k.wrap (shlI k a b))) else some ([0 ≤ b, InK k (shlI k a b)], .val (.i k) (shlI k a b))
   | _ => some ([0 ≤ b], .val (.i k) (shrI k a b)))
  | _, _ => none
 | .cmp op x y => match asI (ev x), asI (ev y) with
  | some (k, a), some (k', b) => if k = k' then some ([], .val .bo (vcmp op a b)) else none
  | _, _ => none
 | .str op x y => match asS (ev x), asS (ev y) with
  | some a, some b => (match op with
   | .add => some ([a.length + b.length ≤ 4611686018427387904], .val .st (a ++ b))
   | .eql => some ([], .val .bo (a == b))
   | .neq => some ([], .val .bo (!(a == b)))
   | .lss => some ([], .val .bo (Op.bytesLess a b))
   | _ => none)
  | _, _ => none
 | .eqB neg x y => match asB (ev x), asB (ev y) with
  | some a, some b => some ([], .val .bo (if neg then !(a == b) else (a == b)))
  | _, _ => none
 | .un op x => match op with
  | .not => match asB (ev x) with | some b => some ([], .val .bo (!b)) | none => none
  | .neg => match asI (ev x) with | some (k, n) => some ([InK k (0 - n)], .val (.i k) (0 - n)) | none => none
  | .xor => match asI (ev x) with | some (k, n) => some ([], .val (.i k) (vbits .xor k (if k.signed then -1 else k.max) n)) | none => none
  | _ => none
 | .convI k x => match asI (ev x) with
  | some (_, n) => bif raw then some ([], .val (.i k) (k.wrap n)) else some ([InK k n], .val (.i k) n)
  | none => none
 | .convS x => match asS (ev x) with | some s => some ([], .val .st s) | none => none
 | .build z parts => match gfill (z.map cvp) (parts.map fun p => (p.1, p.2.1, ev p.2.2)) with | some l => some ([], .agg l) | none => none
 | .load agg size a => bif Nat.blt 0 size then (gload own agg size (ev a)).map fun v => ([], v) else none
 | .fieldAddr off a => match ev a with
  | .box o f => some ([], .box o (f + off))
  | .cp l f => some ([], .cp l (f + off))
  | .elp o i f sz => some ([], .elp o i (f + off) sz)
  | .dd o w => (match w with
   | .el i f sz => some ([], .dd o (.el i (f + off) sz))
   | .rowp k x i j f => some ([], .dd o (.rowp k x i j (f + off)))
   | .inp k l j f => some ([], .dd o (.inp k l j (f + off)))
   | _ => none)
  | .rop k l i f => some ([], .rop k l i (f + off))
  | _ => none
 | .field agg off size x => match ev x with | .agg l => (gpart agg size l off).map fun v => ([], v) | _ => none
 | .indexAddr size x i => match ev x, asI (ev i) with
  | .lst o, some (_, j) => (match oget own o with | .lst _ k xs _ => if k.size = size then some ([0 ≤ j, j < xs.length], .elp o j 0 size) else none | _ => none)
  | .dd o w, some (_, j) => (match oget own o with
   | .deep _ _ k xs _ h => (match w with
    | .out => (match h with | none => (if k.size = size then some ([0 ≤ j, j < xs.length], .dd o (.el j 0 size)) else none) | some _ => (if k.size = size then some ([0 ≤ j, j < xs.length], .dd o (.el j 0 size)) else none))
    | .row k x i => if k.size = size then some ([0 ≤ j, j < x.length], .dd o (.rowp k x i j 0)) else none
    | .inn k l => if k.size = size then some ([0 ≤ j, j < l.length], .dd o (.inp k l j 0)) else none
    | _ => none)
   | _ => none)
  | .sub o lo n sz, some (_, j) => (match oget own o with | .lst _ k _ _ => if k.size = size ∧ sz = size then some ([0 ≤ j, j < n], .elp o (lo + j) 0 size) else none | _ => none)
  | .val (.list k) l, some (_, j) => if k.size = size then some ([0 ≤ j, j < l.length], .rop k l j 0) else none
  | _, _ => none
 | .indexStr x i => match asS (ev x), asI (ev i) with
  | some s, some (_, j) => some ([0 ≤ j, j < s.length], .val (.i .u8) ((s.getD j.toNat 0).toNat : Int))
  | _, _ => none
 | .indexArr len agg size x i => match ev x, i with
  | .agg l, .const (.int _ (Int.ofNat j)) => if j < len then (gpart agg size l (j * size)).map fun v => ([], v) else none
  | _, _ => none
 | .indexAddrArr len size x i => match ev x, i with
  | .box o f, .const (.int _ (Int.ofNat j)) => if j < len then some ([], .box o (f + j * size)) else none
  | .cp l f, .const (.int _ (Int.ofNat j)) => if j < len then some ([], .cp l (f + j * size)) else none
  | _, _ => none
 | .slice size x lo hi none => match ev x with
  | .lst o => (match oget own o with
   | .lst _ k xs _ => if k.size = size then (match gbound ev lo 0, gbound ev hi xs.length with
    | some a, some b => some ([0 ≤ a, a ≤ b, b ≤ xs.length], .sub o a.toNat (b - a).toNat size)
    | _, _ => none) else none
   | _ => none)
  | .sub o l0 n sz => (match oget own o with
   | .lst _ k _ _ => if k.size = size ∧ sz = size then (match gbound ev lo 0, gbound ev hi n with
    | some a, some b => some ([0 ≤ a, a ≤ b, b ≤ n], .sub o (l0 + a.toNat) (b - a).toNat size)
    | _, _ => none) else none
   | _ => none)
  | .val (.list k) l => if k.size = size then (match gbound ev lo 0, gbound ev hi l.length with
   | some a, some b => some ([0 ≤ a, a ≤ b, b ≤ l.length], .val (.list k) ((l.drop a.toNat).take (b - a).toNat))
   | _, _ => none) else none
  | .dd o w => (match oget own o with
   | .deep _ _ _ _ _ _ => (match w with
    | .inn k l => if k.size = size then (match gbound ev lo 0, gbound ev hi l.length with
     | some a, some b => some ([0 ≤ a, a ≤ b, b ≤ l.length], .dd o (.inn k ((l.drop a.toNat).take (b - a).toNat)))
     | _, _ => none) else none
    | .row k l _ => if k.size = size then (match gbound ev lo 0, gbound ev hi l.length with
     | some a, some b => some ([0 ≤ a, a ≤ b, b ≤ l.length], .dd o (.inn k ((l.drop a.toNat).take (b - a).toNat)))
     | _, _ => none) else none
    | _ => none)
   | _ => none)
  | .nilS => (match gbound ev lo 0, gbound ev hi 0 with
   | some a, some b => some ([a = 0, b = 0], .nilS)
   | _, _ => none)
  | _ => none
 | .sliceStr x lo hi => match asS (ev x) with
  | some s => (match gbound ev lo 0, gbound ev hi s.length with
   | some a, some b => some ([0 ≤ a, a ≤ b, b ≤ s.length], .val .st ((s.drop a.toNat).take (b - a).toNat))
   | _, _ => none)
  | none => none
 | .len x => match vlen own (ev x) with | some n => some ([], .val (.i .i64) (n : Nat)) | none => none
 | .lenStr x => match asS (ev x) with | some s => some ([], .val (.i .i64) (s.length : Nat)) | none => none
 | .max x y => match asI (ev x), asI (ev y) with
  | some (k, a), some (k', b) => if k = k' then some ([], .val (.i k) (gmax a b)) else none
  | _, _ => none
 | .min x y => match asI (ev x), asI (ev y) with
  | some (k, a), some (k', b) => if k = k' then some ([], .val (.i k) (gmin a b)) else none
  | _, _ => none
 | .makeFunc (.func f) first cap => some ([], .fn f (first.map ev) (cap.map ev))
 | .extract x i => match ev x with | .tup l => (l[i]?).map fun v => ([], v) | _ => none
 | .nilCheck x => match ev x with
  | .box o f => some ([], .box o f)
  | .cp l f => some ([], .cp l f)
  | .fn f a b => some ([], .fn f a b)
  | _ => none
 | .ext (.eqNil 1 neg x y) => match ev x, ev y with
  | .nilS, .nilS => some ([], .val .bo (!neg))
  | .lst o, .nilS => (match oget own o with | .lst _ _ _ nl => some ([], .val .bo (bif neg then !nl else nl)) | _ => none)
  | .dd o .out, .nilS => (match oget own o with | .deep _ _ _ _ nl _ => some ([], .val .bo (bif neg then !nl else nl)) | _ => none)
  | .val (.list _) l, .nilS => some ([l ≠ []], .val .bo neg)
  | _, _ => none
 | .ext (.eqNil 0 neg x y) => match ev x, ev y with
  | .nilP, .nilP => some ([], .val .bo (!neg))
  | .box _ _, .nilP => some ([], .val .bo neg)
  | .cp _ _, .nilP => some ([], .val .bo neg)
  | .dd _ (.obx c), .nilP => some ([], .val .bo (bif neg then c else !c))
  | .dd o (.obx c), .box o' f => (match oget own o with
   | .cells _ _ => if o = o' ∧ f = 0 then some ([c = true], .val .bo (!neg)) else none
   | _ => none)
  | _, _ => none
 | .ext (.eqAgg neg s x y) => match ev x, ev y with
  | .agg l, .agg m => (gcells s l m).map fun b => ([], .val .bo (bif neg then !b else b))
  | _, _ => none
 | .ext (.toUnsafe x) => match ev x with
  | .box o f => (match oget own o with | .cells l _ => if f < l.length then some ([], .box o f) else none | _ => none)
  | _ => none
 | .ext (.fromUnsafe u size x) => match ev x with
  | .box o f => (match oget own o with
   | .cells l (some t) => if f = 0 ∧ t = u ∧ size ≤ l.length then some ([], .box o 0) else none
   | _ => none)
  | _ => none
 | .ext (.bytesStr x) => match view own (.i .u8) (ev x) with
  | some xs => some ([], .val .st (bytesI xs))
  | none => none
 | .ext (.sliceData x) => match ev x with
  | .nilS => some ([], .nilP)
  | .lst o => (match oget own o with | .lst _ _ xs nl => some ([nl = false → xs ≠ []], .dd o .dat) | _ => none)
  | _ => none
 | .ext (.lookup mk z ok x i) => match ev x with
  | .map o => (match oget own o with
   | .map kk vk m => if mkOk mk kk = true ∧ zeroOk vk [z] = true then (match deck kk [ev i] with
    | some key => (if ok then some ([], .tup [.val vk (aget kk m key vk.dflt), .val .bo (ahas kk m key)]) else some ([], .val vk (aget kk m key vk.dflt)))
    | none => none) else none
   | _ => none)
  | _ => none
 | .ext (.lenMap x) => match ev x with
  | .map o => (match oget own o with | .map _ _ m => some ([], .val (.i .i64) m.length) | _ => none)
  | _ => none
 | _ => none
 where
 mkOk : MK → Kind → Bool
  | .int k, .i k' => decide (k = k')
  | .string, .st => true
  | .bool, .bo => true
  | _, _ => false
 keq : (k : Kind) → k.T → k.T → Bool
  | .i _, (a : Int), b => a == b
  | .bo, (a : Bool), b => a == b
  | .st, (a : List UInt8), b => a == b
  | _, _, _ => false
 aget (kk : Kind) {V : Type} : List (kk.T × V) → kk.T → V → V
  | [], _, d => d
  | (k, v) :: r, key, d => if keq kk key k then v else aget kk r key d
 ahas (kk : Kind) {V : Type} : List (kk.T × V) → kk.T → Bool
  | [], _ => false
  | (k, _) :: r, key => keq kk key k || ahas kk r key
end Go.V
namespace Go.V
open Go
def aput (kk : Kind) {V : Type} : List (kk.T × V) → kk.T → V → List (kk.T × V)
 | [], key, v => [(key, v)]
 | (k, x) :: r, key, v => if gq.keq kk key k then (key, v) :: r else (k, x) :: aput kk r key v
mutual
def SV.ret (n : Nat) : SV → Bool
 | .val k _ => k.flat
 | .nilS | .nilP | .nilM | .nilF => true
 | .lst j => Nat.blt j n
 | .box j _ => Nat.blt j n
 | .map j => Nat.blt j n
 | .dd j w => (match w with | .out => Nat.blt j n | _ => false)
 | .agg l => SVs.ret n l
 | .tup l => SVs.ret n l
 | _ => false
def SVs.ret (n : Nat) : List SV → Bool
 | [] => true
 | s :: ss => SV.ret n s && SVs.ret n ss
end
mutual
def noBox : SV → Bool
 | .val k _ => k.one
 | .box _ _ => false
 | .map _ => false
 | .dd _ _ => false
 | .agg l => noBoxs l
 | .tup l => noBoxs l
 | _ => true
def noBoxs : List SV → Bool
 | [] => true
 | s :: ss => noBox s && noBoxs ss
end
def OB.isL : OB → Bool
 | .lst _ _ _ _ => true
 | _ => false
def OB.ret : OB → Bool
 | .lst _ k _ _ => k.flat
 | .cells l _ => SVs.ret 0 l
 | .map kk vk _ => kk.flat && vk.flat
 | .dead => false
 | .stk _ _ => false
 | .deep _ _ _ _ _ h => h.isNone
def gap (cs : List (Nat × CSp)) : Nat → SV → List SV → Option (Prop × SV)
 | 0, _, _ => none
 | n + 1, f, args => match f with
  | .fn g a b => (match alook cs g with
   | some sp => (match sp (gap cs n) (a ++ args ++ b) with
    | some (c, v, []) => bif v.ret 0 then some (c, v) else none
    | _ => none)
   | none => none)
  | .pf ks r dom p => (match deca ks args with
   | some x => bif r.flat then some (dom x, kval r (p x)) else none
   | none => none)
  | _ => none
 where
 deca : (ks : List Kind) → List SV → Option (AT ks)
  | [], [] => some ()
  | [k], [v] => asV k v
  | k :: k' :: ks, v :: vs => match asV k v, deca (k' :: ks) vs with | some x, some y => some (x, y) | _, _ => none
  | _, _ => none
 asV (k : Kind) (v : SV) : Option k.T := bif k.one then deck k [v] else match v with | .agg l => deck k l | _ => none
def gcallee (cs : List (Nat × CSp)) (f : SV) (args : List SV) : Option (Prop × SV × List OB) :=
 match f with
 | .fn g a b => (match alook cs g with | some sp => sp (gap cs 3) (a ++ args ++ b) | none => none)
 | f => (gap cs 3 f args).map fun (c, v) => (c, v, [])
mutual
def SV.ren (d nt : Nat) : SV → SV
 | .lst j => .lst (d + j * nt)
 | .box j off => .box (d + j * nt) off
 | .map j => .map (d + j * nt)
 | .dd j w => (match w with | .out => .dd (d + j * nt) .out | _ => .any)
 | .agg l => .agg (SVs.ren d nt l)
 | .tup l => .tup (SVs.ren d nt l)
 | .any => .any
 | .val k x => .val k x
 | .bid _ c => .val .bo c
 | .nilS => .nilS
 | .nilP => .nilP
 | .nilM => .nilM
 | .nilF => .nilF
 | .sub _ _ _ _ | .elp _ _ _ _ | .grd _ _ | .cp _ _ | .fn _ _ _ | .rop _ _ _ _ | .pf _ _ _ _ => .any
def SVs.ren (d nt : Nat) : List SV → List SV
 | [] => []
 | s :: ss => SV.ren d nt s :: SVs.ren d nt ss
end
def St.makes (s : St) (d nt : Nat) : Nat → List OB → St
 | _, [] => s
 | j, b :: bs => (s.make (d + j * nt) b).makes d nt (j + 1) bs
def gparts (k : Kind) (ev : Operand → SV) : List (Nat × Operand) → List k.T → Option (List k.T)
 | [], xs => some xs
 | (j, x) :: r, xs => match scells (ev x) with
  | some l => (match deck k l with
   | some y => if j < xs.length then gparts k ev r (xs.set j y) else none
   | none => none)
  | none => none
mutual
def nmV : SV → (SV → Prop) → Prop
 | .val k x, K => ∀ y : k.T, y = x → K (.val k y)
 | .agg l, K => nmVs l fun l' => K (.agg l')
 | .tup l, K => nmVs l fun l' => K (.tup l')
 | .any, K => K .any
 | .dd o w, K => K (.dd o w)
 | .bid n c, K => K (.bid n c)
 | .grd gs v, K => K (.grd gs v)
 | .nilS, K => K .nilS
 | .nilP, K => K .nilP
 | .nilM, K => K .nilM
 | .nilF, K => K .nilF
 | .lst o, K => K (.lst o)
 | .sub o lo n sz, K => K (.sub o lo n sz)
 | .elp o i off sz, K => K (.elp o i off sz)
 | .rop k l i off, K => K (.rop k l i off)
 | .box o off, K => K (.box o off)
 | .cp l off, K => K (.cp l off)
 | .map o, K => K (.map o)
 | .fn f a b, K => K (.fn f a b)
 | .pf ks r dom p, K => K (.pf ks r dom p)
def nmVs : List SV → (List SV → Prop) → Prop
 | [], K => K []
 | v :: r, K => nmV v fun v' => nmVs r fun r' => K (v' :: r')
end
def nmOp (o : VOp) (ev : Operand → SV) : Bool := match o with
 | .load _ _ a => (match ev a with | .elp _ _ _ _ => true | .rop _ _ _ _ => true | .dd _ _ => true | _ => false)
 | .cmp .. | .str .. | .eqB .. | .un .. | .pick .. | .indexStr .. | .bits .. | .shift .. | .div .. | .sliceStr .. | .max .. | .min .. => true
 | .ext (.lookup ..) | .ext (.eqNil ..) | .ext (.eqAgg ..) => true
 | _ => false
def gnm (C : Cx) (o : VOp) (ev : Operand → SV) (v : SV) (K : SV → Prop) : Prop := bif C.nm && nmOp o ev then nmV v K else K v
def gcallN (C : Cx) (d : Nat) (f : SV) (args : List SV) (s : St) (K : SV → St → Prop) : Prop :=
 match gcallee C.cs ((ress s.own [f]).getD 0 .any) (ress s.own args) with
 | some (c, v, bs) => bif v.ret bs.length && (bs.all OB.ret && Nat.blt 0 C.nt) then c ∧ K (v.ren d C.nt) (s.makes d C.nt 0 bs) else False
 | none => False
def gcallX (C : Cx) (d : Nat) (f : SV) (args : List SV) (s : St) (K : SV → St → Prop) : Prop :=
 match f with
 | .fn g a b => (match alook C.xs g with
  | some x => x d (a ++ (args ++ b)) s K
  | none => gcallN C d (.fn g a b) args s K)
 | f => gcallN C d f args s K
def gn (C : Cx) (d : Nat) (o : VOp) (ev : Operand → SV) (s : St) (K : SV → St → Prop) : Prop :=
 match o with
 | .alloc t z => K (.box d 0) (s.make d (.cells (z.map cvp) (some t)))
 | .box t x => match scells (ev x) with
  | some l => K (.box d 0) (s.make d (.cells (SVs.kill d l) (some t)))
  | none => False
 | .buildSlice e z n parts => match alook C.kt e.ty with
  | some k => if k.size = e.sz ∧ zeroOk k z = true then (match gparts k ev parts (List.replicate n k.dflt) with
   | some xs => K (.lst d) (s.make d (.lst e.ty k xs false))
   | none => False) else False
  | none => False
 | .makeSlice e bytes z l c => match alook C.kt e.ty, asI (ev l), asI (ev c) with
  | some k, some (_, a), some (_, b) => if k.size = e.sz ∧ zeroOk k z = true then
    gobl [] [0 ≤ a, a ≤ b, b * bytes ≤ 70368744177664, b ≤ 70368744177664] (K (.lst d) (s.make d (.lst e.ty k (List.replicate a.toNat k.dflt) false))) else False
  | _, _, _ => False
 | .append e bytes x y => match alook C.kt e.ty with
  | some k => (match view s.own k (ev y) with
   | some ys => (match ev x with
    | .nilS => if k.size = e.sz then gobl [] [ys.length * bytes ≤ 70368744177664] (K (.lst d) (s.make d (.lst e.ty k ys ys.isEmpty))) else False
    | .lst o => (match oget s.own o with
     | .lst ty _k' xs nl => if ty = e.ty ∧ k.size = e.sz then (match castL xs k with
      | some xs => gobl [] [(xs.length + ys.length) * bytes ≤ 70368744177664] (K (.lst o) (s.make o (.lst ty k (xs ++ ys) (ys.isEmpty && nl))))
      | none => False) else False
     | _ => False)
    | _ => False)
   | none => False)
  | none => False
 | .store size a v => match ev a, scells (ev v) with
  | .box o off, some vs => (match oget s.own o with
   | .cells l u => if vs.length = size ∧ off + size ≤ l.length then K .any ⟨s.env, oset s.own o (.cells (gfill.setS l off vs) u), s.nx⟩ else False
   | _ => False)
  | .elp o i off sz, some vs => (match oget s.own o with
   | .lst ty k xs nl => (if off = 0 ∧ size = k.size ∧ sz = k.size then (match deck k vs with
     | some x => K .any ⟨s.env, oset s.own o (.lst ty k (xs.set i.toNat x) nl), s.nx⟩
     | none => False)
    else if size = 1 ∧ vs.length = 1 ∧ sz = k.size ∧ off < k.size then (match kput k off (vs.getD 0 .any) (xs.getD i.toNat k.dflt) with
     | some x => K .any ⟨s.env, oset s.own o (.lst ty k (xs.set i.toNat x) nl), s.nx⟩
     | none => False) else False)
   | _ => False)
  | _, _ => False
 | .callF f args => gcallX C d (.fn f [] []) (args.map ev) s K
 | .callV f args => gcallX C d (ev f) (args.map ev) s K
 | .ext (.mapUpdate mk m k v) => match ev m with
  | .map o => (match oget s.own o with
   | .map kk vk l => if gq.mkOk mk kk = true ∧ vk.one = true then (match deck kk [ev k], deck vk [ev v] with
    | some key, some x => K .any ⟨s.env, oset s.own o (.map kk vk (aput kk l key x)), s.nx⟩
    | _, _ => False) else False
   | _ => False)
  | _ => False
 | .ext (.unsafeStr e x n) => match ev x, asI (ev n) with
  | .nilP, some (.i64, k) => gobl [] [k = 0] (K (.val .st []) s)
  | .dd o .dat, some (.i64, k) => (match oget s.own o with
   | .lst ty (.i .u8) xs _ => if ty = e then gobl [] [k = xs.length, xs.length ≤ 4611686018427387904] (K (.val .st (bytesI xs)) (s.make o .dead)) else False
   | _ => False)
  | _, _ => False
 | .ext (.copy size a b) => match ev a with
  | .lst o => (match oget s.own o with
   | .lst ty k xs nl => if k.size = size then (match view s.own k (ev b) with
    | some ys => K (.val (.i .i64) (Nat.min ys.length xs.length : Nat)) ⟨s.env, oset s.own o (.lst ty k (ys.take xs.length ++ xs.drop ys.length) nl), s.nx⟩
    | none => False) else False
   | _ => False)
  | .sub o lo n sz => (match oget s.own o with
   | .lst ty k xs nl => if k.size = size ∧ sz = size then (match view s.own k (ev b) with
    | some ys => K (.val (.i .i64) (Nat.min ys.length n : Nat)) ⟨s.env, oset s.own o (.lst ty k (xs.take lo ++ (ys.take n ++ xs.drop (lo + Nat.min ys.length n))) nl), s.nx⟩
    | none => False) else False
   | _ => False)
  | _ => False
 | _ => False
def qfit (q : Option Nat) (ty : Nat) : Bool := match q with | some t => Nat.beq t ty | none => true
def dtake (own : Own) : (q : Option Nat) → (k : Kind) → List SV → Option (k.T × List Nat)
 | q, .list k, [v] => (match v with
  | .nilS => some ([], [])
  | .lst e => (match oget own e with
   | .lst ty _ xs _ => bif qfit q ty && k.flat then (castL xs k).map fun xs => (xs, [e]) else none
   | _ => none)
  | .dd e .out => (match oget own e with
   | .deep ty _ _ xs _ none => bif qfit q ty then (castL xs k).map fun xs => (xs, [e]) else none
   | _ => none)
  | _ => none)
 | _, .pair a b, l => (match dtake own none a (l.take a.size), dtake own none b (l.drop a.size) with
  | some (x, m), some (y, n) => some ((x, y), m ++ n)
  | _, _ => none)
 | _, .i ik, l => (deck (.i ik) l).map fun x => (x, [])
 | _, .bo, l => (deck .bo l).map fun x => (x, [])
 | _, .st, l => (deck .st l).map fun x => (x, [])
 | _, .list _, _ => none
def ndup : List Nat → Bool
 | [] => true
 | a :: l => l.all (fun b => !(Nat.beq a b)) && ndup l
mutual
def SV.stale (o : Nat) : SV → SV
 | .dd o' w => bif Nat.beq o' o then (match w with | .out => .dd o' .out | .el i off sz => .dd o' (.el i off sz) | _ => .any) else .dd o' w
 | .grd gs v => .grd gs (SV.stale o v)
 | .agg l => .agg (SVs.stale o l)
 | .tup l => .tup (SVs.stale o l)
 | .cp l off => .cp (SVs.stale o l) off
 | .fn f a b => .fn f (SVs.stale o a) (SVs.stale o b)
 | .lst o' => bif Nat.beq o' o then .any else .lst o'
 | .sub o' lo n sz => bif Nat.beq o' o then .any else .sub o' lo n sz
 | .elp o' i off sz => bif Nat.beq o' o then .any else .elp o' i off sz
 | .box o' off => bif Nat.beq o' o then .any else .box o' off
 | .map o' => bif Nat.beq o' o then .any else .map o'
 | .any => .any
 | .val k x => .val k x
 | .bid n c => .bid n c
 | .nilS => .nilS
 | .nilP => .nilP
 | .nilM => .nilM
 | .nilF => .nilF
 | .rop k l i off => .rop k l i off
 | .pf ks r dom p => .pf ks r dom p
def SVs.stale (o : Nat) : List SV → List SV
 | [] => []
 | s :: ss => SV.stale o s :: SVs.stale o ss
end
def OB.stale (o : Nat) : OB → OB
 | .cells l u => .cells (SVs.stale o l) u
 | .stk l vals => .stk (SVs.stale o l) vals
 | .dead => .dead
 | .lst ty k xs nl => .lst ty k xs nl
 | .map kk vk m => .map kk vk m
 | .deep ty q k xs nl h => .deep ty q k xs nl h
def ostale (o : Nat) : Own → Own
 | [] => []
 | (k, b) :: r => (k, b.stale o) :: ostale o r
def St.dput (s : St) (o : Nat) (b : OB) : St := ⟨SVs.stale o s.env, oset (ostale o s.own) o b, s.nx⟩
def St.kills (s : St) : List Nat → St
 | [] => s
 | o :: r => (s.make o .dead).kills r
def gnd (C : Cx) (d : Nat) (o : VOp) (ev : Operand → SV) (s : St) (K : SV → St → Prop) : Prop :=
 match o with
 | .buildSlice e z n parts => (match alook C.kt e.ty with
  | some k => if k.size = e.sz ∧ zeroOk k z = true then (match n, parts with
   | 0, [] => K (.dd d .out) (s.make d (.deep e.ty (alook C.el e.ty) k [] false none))
   | 1, [(0, x)] => (match scells (ev x) with
    | some l => (match dtake s.own (alook C.el e.ty) k l with
     | some (x, mv) => bif ndup (d :: mv) then K (.dd d .out) ((s.kills mv).make d (.deep e.ty (alook C.el e.ty) k [x] false none)) else False
     | none => False)
    | none => False)
   | _, _ => False) else False
  | none => False)
 | .makeSlice e bytes z l c => (match alook C.kt e.ty, asI (ev l), asI (ev c) with
  | some k, some (_, a), some (_, b) => if k.size = e.sz ∧ zeroOk k z = true then
    gobl [] [0 ≤ a, a ≤ b, b * bytes ≤ 70368744177664, b ≤ 70368744177664] (K (.dd d .out) (s.make d (.deep e.ty (alook C.el e.ty) k (List.replicate a.toNat k.dflt) false none))) else False
  | _, _, _ => False)
 | .append e bytes x y => (match ev x, ev y with
  | .nilS, .dd b .out => (match oget s.own b with
   | .deep ty q k ys _ none => if ty = e.ty ∧ k.size = e.sz then bif ndup [d, b] then gobl [] [ys.length * bytes ≤ 70368744177664] (K (.dd d .out) ((s.kills [b]).make d (.deep ty q k ys ys.isEmpty none))) else False else False
   | _ => False)
  | .dd o .out, .dd b .out => (match oget s.own o, oget s.own b with
   | .deep ty q k xs nl none, .deep ty' q' _k' ys _ none => if ty = e.ty ∧ ty' = e.ty ∧ k.size = e.sz ∧ q = q' then (match castL ys k with
    | some ys => bif ndup [o, b] then gobl [] [(xs.length + ys.length) * bytes ≤ 70368744177664] (K (.dd o .out) ((s.kills [b]).make o (.deep ty q k (xs ++ ys) (ys.isEmpty && nl) none))) else False
    | none => False) else False
   | _, _ => False)
  | .dd o (.row _kr _ i), y => (match oget s.own o with
   | .deep ty q k xs nl none => (match k with
    | .list k' => if q = some e.ty ∧ k'.size = e.sz then (match view s.own k' y with
     | some ys => bif k'.flat && ndup [o, d] then gobl [] [((xs.getD i.toNat []).length + ys.length) * bytes ≤ 70368744177664, ys ≠ []] (K (.lst d) ((s.dput o (.deep ty q (.list k') xs nl (some i.toNat))).make d (.lst e.ty k' (xs.getD i.toNat [] ++ ys) false))) else False
     | none => False) else False
    | _ => False)
   | _ => False)
  | _, _ => False)
 | .store size a v => (match ev a, scells (ev v) with
  | .dd o (.el i off sz), some vs => (match oget s.own o with
   | .deep ty q k xs nl h => if off = 0 ∧ size = k.size ∧ sz = k.size then (match dtake s.own q k vs with
    | some (x, mv) => bif ndup (o :: mv) then
      (match h with
      | none => K .any ((s.kills mv).dput o (.deep ty q k (xs.set i.toNat x) nl none))
      | some j => i.toNat = j ∧ K .any ((s.kills mv).dput o (.deep ty q k (xs.set i.toNat x) nl none))) else False
    | none => False) else False
   | _ => False)
  | .dd o (.rowp kr _ i j off), some vs => (match oget s.own o with
   | .deep ty q (.list k) xs nl none => if off = 0 ∧ size = k.size ∧ kr = k ∧ k.flat = true then (match deck k vs with
    | some x => K .any (s.dput o (.deep ty q (.list k) (xs.set i.toNat ((xs.getD i.toNat []).set j.toNat x)) nl none))
    | none => False) else False
   | _ => False)
  | _, _ => False)
 | _ => False
def SV.thing : SV → List Nat
 | .lst o => [o]
 | .dd o _ => [o]
 | _ => []
def dnums (l : List SV) : List Nat := l.flatMap SV.thing
def dtouch (d : Nat) (o : VOp) (ev : Operand → SV) : List Nat := d :: (match o with
 | .buildSlice _ _ _ parts => parts.flatMap fun p => (match scells (ev p.2) with | some l => dnums l | none => [])
 | .append _ _ x y => SV.thing (ev x) ++ SV.thing (ev y)
 | .store _ a v => SV.thing (ev a) ++ (match scells (ev v) with | some l => dnums l | none => [])
 | _ => [])
def isDeep (C : Cx) (d : Nat) (o : VOp) (ev : Operand → SV) : Bool :=
 match o with
 | .buildSlice e _ _ _ => (match alook C.kt e.ty with | some k => !k.flat && !(C.raw.contains d) | none => false)
 | .makeSlice e _ _ _ _ => (match alook C.kt e.ty with | some k => !k.flat && !(C.raw.contains d) | none => false)
 | .append _ _ x y => (match ev x with
  | .dd _ _ => true
  | _ => (match ev y with | .dd _ .out => true | _ => false))
 | .store _ a _ => (match ev a with | .dd _ _ => true | _ => false)
 | _ => false
mutual
def SV.frz (o : Nat) (k : Kind) (xs : List k.T) : SV → SV
 | .lst o' => bif Nat.beq o' o then .val (.list k) xs else .lst o'
 | .sub o' lo n sz => bif Nat.beq o' o then .any else .sub o' lo n sz
 | .elp o' i off sz => bif Nat.beq o' o then .any else .elp o' i off sz
 | .dd o' w => bif Nat.beq o' o then .any else .dd o' w
 | .box o' off => bif Nat.beq o' o then .any else .box o' off
 | .map o' => bif Nat.beq o' o then .any else .map o'
 | .grd gs v => .grd gs (SV.frz o k xs v)
 | .agg l => .agg (SVs.frz o k xs l)
 | .tup l => .tup (SVs.frz o k xs l)
 | .cp l off => .cp (SVs.frz o k xs l) off
 | .fn f a b => .fn f (SVs.frz o k xs a) (SVs.frz o k xs b)
 | .any => .any
 | .val k x => .val k x
 | .bid n c => .bid n c
 | .nilS => .nilS
 | .nilP => .nilP
 | .nilM => .nilM
 | .nilF => .nilF
 | .rop k l i off => .rop k l i off
 | .pf ks r dom p => .pf ks r dom p
def SVs.frz (o : Nat) (k : Kind) (xs : List k.T) : List SV → List SV
 | [] => []
 | s :: ss => SV.frz o k xs s :: SVs.frz o k xs ss
end
def OB.frz (o : Nat) (k : Kind) (xs : List k.T) : OB → OB
 | .cells l u => .cells (SVs.frz o k xs l) u
 | .dead => .dead
 | .lst ty k xs nl => .lst ty k xs nl
 | .map kk vk m => .map kk vk m
 | .stk l vals => .stk (SVs.frz o k xs l) vals
 | .deep ty q k xs nl h => .deep ty q k xs nl h
def ofrz (o : Nat) (k : Kind) (xs : List k.T) : Own → Own
 | [] => []
 | (j, b) :: r => bif Nat.beq j o then ofrz o k xs r else (j, b.frz o k xs) :: ofrz o k xs r
def St.frz (s : St) (o : Nat) : St := match oget s.own o with
 | .lst _ k xs _ => ⟨SVs.frz o k xs s.env, ofrz o k xs s.own, s.nx⟩
 | _ => s
def St.frzs (s : St) : List Nat → St
 | [] => s
 | o :: r => (s.frz o).frzs r
def lstNums : List SV → List Nat
 | [] => []
 | s :: r => (match s with | .lst o => o :: lstNums r | _ => lstNums r)
def frzOf (C : Cx) (d : Nat) (o : VOp) (ev : Operand → SV) (own : Own) : List Nat := match o with
 | .store _ a v => (match ev a with
  | .elp q _ _ _ => (match oget own q with
   | .lst _ k _ _ => bif k.flat then [] else (match scells (ev v) with | some l => lstNums l | none => [])
   | _ => [])
  | _ => [])
 | .buildSlice e _ _ parts => (match alook C.kt e.ty with
  | some k => bif k.flat || !(C.raw.contains d) then [] else parts.flatMap fun p => (match scells (ev p.2) with | some l => lstNums l | none => [])
  | none => [])
 | _ => []
def gguard (s : St) (j : Nat) (want : Bool) : Option (List Gd × St) :=
 match s.env.getD j .any with
 | .val .bo c => some ([⟨s.nx, want, c⟩], ⟨s.env.set j (.bid s.nx c), s.own, s.nx + 1⟩)
 | .bid n c => some ([⟨n, want, c⟩], s)
 | .grd gs (.val .bo c) => some (gs ++ [⟨s.nx, want, c⟩], ⟨s.env.set j (.grd gs (.bid s.nx c)), s.own, s.nx + 1⟩)
 | .grd gs (.bid n c) => some (gs ++ [⟨n, want, c⟩], s)
 | _ => none
def gqc (C : Cx) (raw : Bool) (o : VOp) (ev : Operand → SV) (own : Own) : Option (List Prop × SV) :=
 match o with
 | .callF f args => match gcallee C.cs (.fn f [] []) (ress own (args.map ev)) with
  | some (c, v, []) => bif v.ret 0 then some ([c], v) else none
  | _ => none
 | .callV f args => match gcallee C.cs ((ress own [ev f]).getD 0 .any) (ress own (args.map ev)) with
  | some (c, v, []) => bif v.ret 0 then some ([c], v) else none
  | _ => none
 | o => gq C.kt raw o ev own
def glist1 (nt : Nat) : Option (Prop × SV × List OB) → Option (Prop × SV)
 | some (c, v, bs) => (match v, bs with
  | .lst 0, [.lst _ k xs _] => bif k.flat && Nat.blt 0 nt then some (c, .val (.list k) xs) else none
  | _, _ => none)
 | none => none
def glist (C : Cx) (o : VOp) (ev : Operand → SV) (own : Own) : Option (Prop × SV) :=
 match o with
 | .callF f args => glist1 C.nt (gcallee C.cs (.fn f [] []) (ress own (args.map ev)))
 | .callV f args => glist1 C.nt (gcallee C.cs ((ress own [ev f]).getD 0 .any) (ress own (args.map ev)))
 | .buildSlice e z n parts => (match alook C.kt e.ty with
  | some k => if k.size = e.sz ∧ zeroOk k z = true ∧ k.flat = true then (match gparts k ev parts (List.replicate n k.dflt) with
   | some xs => some (True, .val (.list k) xs)
   | none => none) else none
  | none => none)
 | _ => none
def gpick (gs : List Gd) (env : List SV) (c a b : Operand) : Option SV :=
 match gev gs env c with
 | .bid n t =>
  match a, b with
  | .const (.bool true), b => (asB (gev (gs ++ [⟨n, false, t⟩]) env b)).map fun y => .val .bo (t || y)
  | a, .const (.bool false) => (asB (gev (gs ++ [⟨n, true, t⟩]) env a)).map fun x => .val .bo (t && x)
  | a, b => match gev (gs ++ [⟨n, true, t⟩]) env a, gev (gs ++ [⟨n, false, t⟩]) env b with
   | .val (.i k) x, .val (.i k') y => if k = k' then some (.val (.i k) (if t then x else y)) else none
   | .val .bo x, .val .bo y => some (.val .bo (if t then x else y))
   | _, _ => none
 | _ => none
def isQuiet : VOp → Bool
 | .alloc .. | .box .. | .buildSlice .. | .makeSlice .. | .append .. | .store .. | .callF .. | .callV .. => false
 | .ext (.makeMap) | .ext (.mapUpdate ..) | .ext (.copy ..) | .ext (.unsafeStr ..) => false
 | _ => true
def unbid : SV → SV
 | .bid _ c => .val .bo c
 | v => v
def gopU (C : Cx) (o : VOper) (s : St) (K : St → Prop) : Prop :=
 (match o.op with
 | .pick c a b => match gpick [] s.env c a b with
  | some v => gnm C (.pick c a b) (gev [] s.env) v fun v => K (s.put o.dst v)
  | none => False
 | op => bif isQuiet op then (match gq C.kt (C.raw.contains (o.dst.getD 0)) op (gev [] s.env) s.own with
   | some (cs, v) => gobl [] cs (gnm C op (gev [] s.env) v fun v => K (s.put o.dst v))
   | none => False)
  else (match op with
   | .ext .makeMap => (match alook C.kt (1000000 + o.dst.getD 0) with
    | some (.pair kk vk) => K ((s.make (C.off + o.dst.getD 0) (.map kk vk [])).put o.dst (.map (C.off + o.dst.getD 0)))
    | _ => False)
   | op => bif isDeep C (o.dst.getD 0) op (gev [] s.env) then gnd C (C.off + o.dst.getD 0) op (gev [] s.env) s fun v s' => K (s'.put o.dst v) else gn C (C.off + o.dst.getD 0) op (gev [] s.env) s fun v s' => K (s'.put o.dst v)))
def gop (C : Cx) (o : VOper) (s : St) (K : St → Prop) : Prop :=
 match o.guard with
 | none => gopU C o (s.frzs (frzOf C (o.dst.getD 0) o.op (gev [] s.env) s.own)) K
 | some (j, want) => match gguard s j want with
  | none => False
  | some (gs, s) => (match o.op with
   | .pick c a b => match gpick gs s.env c a b with
    | some v => gnm C (.pick c a b) (gev gs s.env) v fun v => K (s.put o.dst (.grd gs (unbid v)))
    | none => False
   | op => (match gqc C (C.raw.contains (o.dst.getD 0)) op (gev gs s.env) s.own with
    | some (cs, v) => gobl gs cs (gnm C op (gev gs s.env) v fun v => K (s.put o.dst (.grd gs (unbid v))))
    | none => (match glist C op (gev gs s.env) s.own with
     | some (c, v) => gobl gs [c] (gnm C op (gev gs s.env) v fun v => K ((s.make (C.off + o.dst.getD 0) .dead).put o.dst (.grd gs v)))
     | none => False)))
def gops (C : Cx) : List VOper → St → (St → Prop) → Prop
 | [], s, K => K s
 | o :: r, s, K => gop C o s fun s' => gops C r s' K
def dv (o : DOper) : VOper := ⟨o.dst, o.op, o.guard⟩
def dquiet (l : List DOper) : Bool := l.all fun o => !(o.kind == 2) && !(o.op.kind == 2)
def gd1 (C : Cx) (o : DOper) (s : St) (K : St → Prop) : Prop :=
 match o.guard with
 | none => (match o.op with
  | .pick c a b => (match gpick [] s.env c a b with
   | some v => gnm C (.pick c a b) (gev [] s.env) v fun v => K (s.put o.dst v)
   | none => False)
  | op => (match gq C.kt (C.raw.contains (o.dst.getD 0)) op (gev [] s.env) s.own with
   | some (cs, v) => gobl [] cs (gnm C op (gev [] s.env) v fun v => K (s.put o.dst v))
   | none => False))
 | some (j, want) => (match gguard s j want with
  | none => False
  | some (gs, s) => (match o.op with
   | .pick c a b => (match gpick gs s.env c a b with
    | some v => gnm C (.pick c a b) (gev gs s.env) v fun v => K (s.put o.dst (.grd gs (unbid v)))
    | none => False)
   | op => (match gq C.kt (C.raw.contains (o.dst.getD 0)) op (gev gs s.env) s.own with
    | some (cs, v) => gobl gs cs (gnm C op (gev gs s.env) v fun v => K (s.put o.dst (.grd gs (unbid v))))
    | none => False)))
def OB.wf : OB → Prop
 | .lst _ _ xs nl => nl = true → xs = []
 | _ => True
def allWf : List OB → Prop → Prop
 | [], q => q
 | b :: r, q => b.wf ∧ allWf r q
def gdcall (C : Cx) (d : Nat) (f : SV) (args : List SV) (s : St) (K : List Nat → SV → St → Prop) : Prop :=
 match gcallee C.cs f args with
 | some (c, v, bs) => bif v.ret bs.length && (bs.all OB.ret && (Nat.blt 0 C.nt && (bs.all OB.isL && noBox v))) then c ∧ allWf bs (K ((List.range bs.length).map fun j => d + j * C.nt) (v.ren d C.nt) (s.makes d C.nt 0 bs)) else False
 | none => False
def isMake : VOp → Bool
 | .alloc .. | .box .. | .buildSlice .. | .makeSlice .. => true
 | _ => false
def gtouch (d : Nat) (o : VOp) (ev : Operand → SV) : Nat := match o with
 | .append _ _ x _ => (match ev x with | .lst q => q | _ => d)
 | .store _ a _ => (match ev a with | .box q _ => q | .elp q _ _ _ => q | _ => d)
 | .ext (.mapUpdate _ m _ _) => (match ev m with | .map q => q | _ => d)
 | .ext (.copy _ a _) => (match ev a with | .lst q => q | .sub q _ _ _ => q | _ => d)
 | .ext (.unsafeStr _ a _) => (match ev a with | .dd q _ => q | _ => d)
 | _ => d
def OB.here : OB → Bool
 | .dead => false
 | .stk _ _ => false
 | .deep _ _ _ _ _ _ => false
 | _ => true
def rdThing (o : VOp) (ev : Operand → SV) (own : Own) : Option Nat := match o with
 | .load _ _ a => (match ev a with
  | .box q _ => bif (oget own q).here then some q else none
  | .elp q _ _ _ => bif (oget own q).here then some q else none
  | _ => none)
 | _ => none
def untouched (A : List (Nat × Option Nat)) (j q : Nat) : Bool := A.all fun a => Nat.blt a.1 j || (match a.2 with | some t => !(Nat.beq t q) | none => false)
def rdStay (A : List (Nat × Option Nat)) (j : Nat) (q : Option Nat) : Bool := match q with | some q => untouched A j q | none => false
def rdFree (R : List (Nat × Option Nat)) (hl t : Nat) : Bool := R.all fun r => Nat.blt r.1 hl || (match r.2 with | some q => !(Nat.beq q t) | none => false)
def rdKeep (R : List (Nat × Option Nat)) (hl t : Nat) : Bool := R.all fun r => Nat.blt r.1 hl || (match r.2 with | some q => !(Nat.beq q t) | none => true)
def rdAll (mk : Bool) (R : List (Nat × Option Nat)) (hl : Nat) (ts : List Nat) : Bool := R.all fun r => Nat.blt r.1 hl || (match r.2 with | some q => ts.all (fun t => !(Nat.beq q t)) | none => mk)
def rdRo (o : VOp) (ev : Operand → SV) : Bool := match o with
 | .load _ _ a => (match ev a with | .rop _ _ _ _ => true | .cp _ _ => true | _ => false)
 | _ => false
def rdRoG (s : St) (j : Nat) (want : Bool) (o : VOp) : Bool := match gguard s j want with
 | some (gs, s1) => rdRo o (gev gs s1.env)
 | none => false
def noFz (A : List (Nat × Option Nat)) (j : Nat) : Bool := A.all fun a => Nat.blt a.1 j || a.2.isSome
def glistD (C : Cx) (f : SV) (args : List SV) : Option (List Prop × SV) := match gcallee C.cs f args with
 | some (c, v, bs) => (match v, bs with
  | .lst 0, [.lst _ k xs nl] => bif k.flat && Nat.blt 0 C.nt then some ([c, nl = true → xs = []], .val (.list k) xs) else none
  | _, _ => none)
 | none => none
def gopsD (C : Cx) : List DOper → St → Nat → Nat → List (Nat × Option Nat) → List (Nat × Option Nat) → (St → Prop) → Prop
 | [], s, _, _, _, _, K => K s
 | o :: r, s, hl, chg, A, R, K =>
  if o.kind = 2 then
   (match o.op with
   | .callF f args => (match o.guard with
    | none => gdcall C (C.off + o.dst.getD 0) (.fn f [] []) (ress s.own (args.map (gev [] s.env))) s fun ts v s' => gopsD C r (s'.put o.dst v) (hl + 1) (bif ts.isEmpty then chg else hl) (ts.map (fun t => (hl - 1, some t)) ++ A) (bif ts.isEmpty then R else R.map fun r => (r.1, none)) K
    | some (j, want) => (match gguard s j want with
     | none => False
     | some (gs, s) => (match gqc C false (.callF f args) (gev gs s.env) s.own with
      | some (cs, v) => bif noBox v then gobl gs cs (gnm C (.callF f args) (gev gs s.env) v fun v => gopsD C r (s.put o.dst (.grd gs (unbid v))) (hl + 1) chg A R K) else False
      | none => (match glistD C (.fn f [] []) (ress s.own (args.map (gev gs s.env))) with
       | some (cs, v) => gobl gs cs (gopsD C r ((s.make (C.off + o.dst.getD 0) .dead).put o.dst (.grd gs v)) (hl + 1) hl ((hl - 1, none) :: A) (R.map fun r => (r.1, none)) K)
       | none => False))))
   | .callV f args => (match o.guard with
    | none => gdcall C (C.off + o.dst.getD 0) ((ress s.own [gev [] s.env f]).getD 0 .any) (ress s.own (args.map (gev [] s.env))) s fun ts v s' => gopsD C r (s'.put o.dst v) (hl + 1) (bif ts.isEmpty then chg else hl) (ts.map (fun t => (hl - 1, some t)) ++ A) (bif ts.isEmpty then R else R.map fun r => (r.1, none)) K
    | some _ => False)
   | op => (match o.guard with
    | none => bif isDeep C (o.dst.getD 0) op (gev [] s.env) then
      (bif rdAll (isMake op) R hl (dtouch (C.off + o.dst.getD 0) op (gev [] s.env)) then
       gnd C (C.off + o.dst.getD 0) op (gev [] s.env) s fun v s' => gopsD C r (s'.put o.dst v) (hl + 1) hl ((dtouch (C.off + o.dst.getD 0) op (gev [] s.env)).map (fun t => (hl - 1, some t)) ++ A) R K else False)
     else bif (isMake op && rdKeep R hl (gtouch (C.off + o.dst.getD 0) op (gev [] s.env))) || rdFree R hl (gtouch (C.off + o.dst.getD 0) op (gev [] s.env)) then
      gn C (C.off + o.dst.getD 0) op (gev [] s.env) s fun v s' => gopsD C r (s'.put o.dst v) (hl + 1) hl ((hl - 1, some (gtouch (C.off + o.dst.getD 0) op (gev [] s.env))) :: A) R K else False
    | some _ => False))
  else if o.kind = 1 then
   (match o.guard with
   | none => bif rdRo o.op (gev [] s.env) && noFz A o.kmin then gd1 C o s fun s' => gopsD C r s' hl chg A R K
    else bif Nat.ble chg o.kmin || rdStay A o.kmin (rdThing o.op (gev [] s.env) s.own) then gd1 C o s fun s' => gopsD C r s' hl chg A ((o.kmax, rdThing o.op (gev [] s.env) s.own) :: R) K else False
   | some (j, want) => bif rdRoG s j want o.op && noFz A o.kmin then gd1 C o s fun s' => gopsD C r s' hl chg A R K
    else bif Nat.ble chg o.kmin then gd1 C o s fun s' => gopsD C r s' hl chg A ((o.kmax, none) :: R) K else False)
  else gd1 C o s fun s' => gopsD C r s' hl chg A R K
inductive Src where
 | slot (j : Nat)
 | cell (t off : Nat)
 | key (k : Nat)
structure LoopAnn where
 E : Type
 D : Type
 sl : List Nat
 vs : E → D → List SV
 own : E → D → List (Nat × Src × OB)
def zipG : List Nat → List SV → List (Nat × SV)
 | [], _ => []
 | j :: js, [] => (j, .any) :: zipG js []
 | j :: js, v :: vs => (j, v) :: zipG js vs
def LoopAnn.st (A : LoopAnn) (p : A.E) (d : A.D) : List (Nat × SV) := zipG A.sl (A.vs p d)
def LoopP {D : Type} (F : D → (D → Prop) → Prop) (d0 : D) : Prop :=
 ∃ (I : D → Prop) (μ : D → Nat), I d0 ∧ ∀ d, I d → F d fun d' => I d' ∧ μ d' < μ d
def gsrc (s : St) (mp : List (Nat × Option Nat)) : Src → Option (Option Nat)
 | .slot j => match s.env.getD j .any with
  | .lst a => some (some a)
  | .sub a _ _ _ => some (some a)
  | .dd a _ => some (some a)
  | .box a _ => some (some a)
  | .map a => some (some a)
  | .nilS => some none
  | _ => none
 | .cell t off => match alook mp t with
  | some (some a) => (match oget s.own a with
   | .cells l _ => (match l.getD off .any with
    | .lst a => some (some a)
    | .box a _ => some (some a)
    | .map a => some (some a)
    | .nilS => some none
    | _ => none)
   | _ => none)
  | _ => none
 | .key k => some (some k)
def gmap (s : St) : List (Nat × Src) → List (Nat × Option Nat) → Option (List (Nat × Option Nat))
 | [], mp => some mp
 | (t, src) :: r, mp => match gsrc s mp src with
  | some (some a) => if (mp.any fun p => p.2 == some a) || (alook mp t).isSome then none else gmap s r (mp ++ [(t, some a)])
  | some none => if (alook mp t).isSome then none else gmap s r (mp ++ [(t, none)])
  | none => none
def castEq {k : Kind} (x : k.T) {k' : Kind} (y : k'.T) : Prop := match castK y k with | some y => y = x | none => False
mutual
def svEq (mp : List (Nat × Option Nat)) : SV → SV → Prop
 | .any, _ => True
 | .val k x, v => match v with
  | .val _k' y => castEq x y
  | .bid _ c => castEq (k := k) x (k' := .bo) c
  | .nilS => match k, x with | .list _, x => x = [] | _, _ => False
  | _ => False
 | .lst t, v => match v with
  | .lst a => if alook mp t = some (some a) then True else False
  | .nilS => if alook mp t = some none then True else False
  | _ => False
 | .box t off, v => match v with
  | .box a off' => if alook mp t = some (some a) ∧ off = off' then True else False
  | _ => False
 | .map t, v => match v with
  | .map a => if alook mp t = some (some a) then True else False
  | _ => False
 | .dd t w, v => (match w with
  | .obx c => (match v with
   | .nilP => c = false
   | .box a f => if alook mp t = some (some a) ∧ f = 0 then c = true else False
   | .dd a w' => (match w' with | .obx c' => if alook mp t = some (some a) then c' = c else False | _ => False)
   | _ => False)
  | .out => (match v with
   | .dd a w' => (match w' with | .out => if alook mp t = some (some a) then True else False | _ => False)
   | .nilS => if alook mp t = some none then True else False
   | _ => False)
  | _ => False)
 | .agg l, v => match v with | .agg l' => svEqs mp l l' | _ => False
 | .tup l, v => match v with | .tup l' => svEqs mp l l' | _ => False
 | .fn f a b, v => match v with | .fn f' a' b' => if f = f' then svEqs mp a a' ∧ svEqs mp b b' else False | _ => False
 | .nilS, v => match v with | .nilS => True | _ => False
 | .nilP, v => match v with | .nilP => True | _ => False
 | .nilM, v => match v with | .nilM => True | _ => False
 | .nilF, v => match v with | .nilF => True | _ => False
 | .cp l off, v => .cp l off = v ∧ SVs.pure l = true
 | .pf ks r dom p, v => .pf ks r dom p = v
 | .sub t lo n sz, v => match v with
  | .sub a lo' n' sz' => if alook mp t = some (some a) then lo' = lo ∧ n' = n ∧ sz' = sz else False
  | _ => False
 | .elp _ _ _ _, _ | .grd _ _, _ | .bid _ _, _ | .rop _ _ _ _, _ => False
def svEqs (mp : List (Nat × Option Nat)) : List SV → List SV → Prop
 | [], l => l = []
 | s :: ss, l => match l with | v :: vs => svEq mp s v ∧ svEqs mp ss vs | [] => False
def SV.pure : SV → Bool
 | .lst _ | .sub _ _ _ _ | .elp _ _ _ _ | .box _ _ | .map _ | .grd _ _ | .bid _ _ | .dd _ _ => false
 | .agg l => SVs.pure l
 | .tup l => SVs.pure l
 | .cp l _ => SVs.pure l
 | .fn _ a b => SVs.pure a && SVs.pure b
 | .any | .val _ _ | .nilS | .nilP | .nilM | .nilF | .rop _ _ _ _ | .pf _ _ _ _ => true
def SVs.pure : List SV → Bool
 | [] => true
 | s :: ss => SV.pure s && SVs.pure ss
end
def obEq (s : St) (mp : List (Nat × Option Nat)) (t : Nat) (b : OB) : Prop :=
 match alook mp t with
 | some (some a) => (match b, oget s.own a with
  | .dead, _ => True
  | .lst ty k xs nl, .lst ty' k' xs' nl' => if ty = ty' then castEq (k := .list k) xs (k' := .list k') xs' ∧ nl' = nl else False
  | .cells l u, .cells l' u' => if u = u' then svEqs mp l l' else False
  | .map kk vk m, .map kk' vk' m' => if kk = kk' then castEq (k := .list (.pair kk vk)) m (k' := .list (.pair kk' vk')) m' else False
  | .stk l vals, .stk l' vals' => vals = vals' ∧ svEqs mp l l'
  | .deep ty q k xs nl h, .deep ty' q' k' xs' nl' h' => if ty = ty' ∧ q = q' then (match h, h' with | none, none => castEq (k := .list k) xs (k' := .list k') xs' ∧ nl' = nl | _, _ => False) else False
  | _, _ => False)
 | some none => (match b with
  | .lst _ _ xs nl => xs = [] ∧ nl = true
  | .deep _ _ _ xs nl h => (match h with | none => xs = [] ∧ nl = true | some _ => False)
  | _ => False)
 | none => False
def gmatch (s : St) (st : List (Nat × SV)) (ow : List (Nat × Src × OB)) : Prop :=
 match gmap s (ow.map fun p => (p.1, p.2.1)) [] with
 | some mp => slots mp st ∧ obs mp ow
 | none => False
 where
 slots (mp : List (Nat × Option Nat)) : List (Nat × SV) → Prop
  | [] => True
  | (j, v) :: r => svEq mp v (s.env.getD j .any) ∧ slots mp r
 obs (mp : List (Nat × Option Nat)) : List (Nat × Src × OB) → Prop
  | [] => True
  | (t, _, b) :: r => obEq s mp t b ∧ obs mp r
def gstate (len : Nat) (st : List (Nat × SV)) (ow : List (Nat × Src × OB)) : St :=
 ⟨st.foldl (fun e p => e.set p.1 p.2) (List.replicate len .any), ow.foldl (fun o p => oset o p.1 p.2.2) [], 0⟩
def patV : SV → SV
 | .bid _ c => .val .bo c
 | .grd _ _ => .any
 | .elp _ _ _ _ => .any
 | .rop _ _ _ _ => .any
 | .dd o w => (match w with | .out => .dd o .out | .obx c => .dd o (.obx c) | _ => .any)
 | v => v
def gjst (jn : List Nat) (s : St) : List (Nat × SV) := jn.map fun j => (j, patV (s.env.getD j .any))
def gjow : Own → List (Nat × Src × OB)
 | [] => []
 | (t, b) :: r => (match b with | .dead => gjow r | b => (t, .key t, b) :: gjow r)
def gmatchN (n : Nat) (s : St) (st : List (Nat × SV)) (ow : List (Nat × Src × OB)) : Prop := bif Nat.beq s.env.length n then gmatch s st ow else False
def galts (C : Cx) : List (List DOper) → St → List (Nat × SV) → List (Nat × Src × OB) → Prop → Prop
 | [], _, _, _, Q => Q
 | l :: ls, s, st, ow, Q => (gopsD C l s 1 0 [] [] fun s' => gmatchN s.env.length s' st ow) ∧ galts C ls s st ow Q
def gsegs (C : Cx) : List DSeg → St → (St → Prop) → Prop
 | [], s, K => K s
 | .one o :: r, s, K => gop C o s fun s' => gsegs C r s' K
 | .alts [l] :: r, s, K => bif dquiet l then gops C (l.map dv) s fun s' => gsegs C r s' K else bif l.all (fun o => o.kind == o.op.kind) then gopsD C l s 1 0 [] [] fun s' => gsegs C r s' K else False
 | .alts (l :: l2 :: ls) :: r, s, K => bif (l :: l2 :: ls).all (fun l => l.all fun o => o.kind == o.op.kind) then
   gopsD C l s 1 0 [] [] fun s0 => gmatchN s.env.length s0 (gjst C.jn s0) (gjow s0.own) ∧ galts C (l2 :: ls) s (gjst C.jn s0) (gjow s0.own) (gsegs C r (gstate s.env.length (gjst C.jn s0) (gjow s0.own)) K) else False
 | .alts [] :: _, _, _ => False
def gseqK (R : St → Prop) (K : Exit → St → Prop) : Exit → St → Prop
 | .normal, s => R s
 | e, s => K e s
def gblockK (id : Nat) (K : Exit → St → Prop) : Exit → St → Prop
 | .exit id', s => if id' = id then K .normal s else K (.exit id') s
 | e, s => K e s
def gloopK (A : LoopAnn) (p : A.E) (next : A.D → Prop) (K : Exit → St → Prop) : Exit → St → Prop
 | .normal, s => ∃ d, gmatch s (A.st p d) (A.own p d) ∧ next d
 | e, s => K e s
def RangeP {D : Type} (m : Nat) (F : Nat → D → (D → Prop) → Prop) (After : D → Prop) (d0 : D) : Prop :=
 ∃ I : Nat → D → Prop, I 0 d0 ∧ (∀ k d, k < m → I k d → F k d fun d' => I (k + 1) d') ∧ ∀ d, I m d → After d
def gfrz : St → List SV → Option (St × List SV)
 | s, [] => some (s, [])
 | s, v :: vs => match v with
  | .box o 0 => (match oget s.own o with
   | .cells l _ => bif SVs.pure l then (match gfrz ⟨s.env, oset s.own o .dead, s.nx⟩ vs with | some (s', r) => some (s', .cp l 0 :: r) | none => none) else none
   | _ => none)
  | v => bif v.pure then (match gfrz s vs with | some (s', r) => some (s', v :: r) | none => none) else none
def gstk (key : Nat) (vals : List Value) (s : St) : St := s.make key (.stk (SVs.kill key s.env) vals)
def gsetPs : List SV → List Nat → List SV → List SV
 | env, p :: ps, v :: vs => gsetPs (env.set p v) ps vs
 | env, _, _ => env
def grangeK (key : Nat) (A : LoopAnn) (p : A.E) (vals : List Value) (next : A.D → Prop) (K : Exit → St → Prop) (e : Exit) (s : St) : Prop :=
 match oget s.own key with
 | .stk l vs => vs = vals ∧ (match e with
  | .normal => ∃ d, gmatch ⟨l, s.own, s.nx⟩ (A.st p d) (A.own p d) ∧ next d
  | .ret => K .ret ⟨l, s.own, s.nx⟩
  | .exit id => K (.exit id) ⟨l, s.own, s.nx⟩
  | _ => False)
 | _ => False
def gwp (C : Cx) (L : List (Nat × LoopAnn)) : VCode → Nat → (Exit → St → Prop) → St → Prop
 | .skip, _, K, s => K .normal s
 | .region ops, _, K, s => gops C ops s fun s' => K .normal s'
 | .regionD segs, _, K, s => gsegs C segs s fun s' => K .normal s'
 | .seq a b, n, K, s => gwp C L a n (gseqK (fun s' => gwp C L b n K s') K) s
 | .cond c a b, n, K, s => match asB (gev [] s.env c) with
  | some t => (t = true → gwp C L a n K s) ∧ (t = false → gwp C L b n K s)
  | none => False
 | .block id b, _, K, s => gwp C L b id (gblockK id K) s
 | .loop b, n, K, s => match alook L n with
  | some A => ∃ (p : A.E) (d0 : A.D), gmatch s (A.st p d0) (A.own p d0) ∧ LoopP (fun d next => gwp C L b n (gloopK A p next K) (gstate s.env.length (A.st p d) (A.own p d))) d0
  | none => False
 | .rangeF g ps a b, n, K, s => match gev [] s.env g with
  | .fn f [] caps => (match alook C.it f, gfrz s caps, alook L n with
   | some it, some (s1, caps'), some A => (match it caps' with
    | some (c, m, ar, xs) => (bif Nat.beq ps.length ar then c ∧ ∃ (p : A.E) (d0 : A.D), gmatch s1 (A.st p d0) (A.own p d0) ∧
      RangeP m (fun k d next => ∀ vals, gwp C L a n (gseqK (fun s3 => gwp C L b n (grangeK (2000000 + n) A p vals next K) s3) fun _ _ => False)
       ⟨gsetPs (gstk (2000000 + n) vals (gstate s.env.length (A.st p d) (A.own p d))).env ps (xs k), (gstk (2000000 + n) vals (gstate s.env.length (A.st p d) (A.own p d))).own, 0⟩)
       (fun d => K .normal (gstate s.env.length (A.st p d) (A.own p d))) d0 else False)
    | none => False)
   | _, _, _ => False)
  | _ => False
 | .exit id, _, K, s => K (.exit id) s
 | .ret, _, K, s => K .ret s
 | .bad, _, _, _ => False
end Go.V
namespace Go.V
open Go
section
variable {P : Program}
theorem beq_ne {a b : Nat} (h : ¬ a = b) : Nat.beq a b = false := by
 cases e : Nat.beq a b with
 | false => rfl
 | true => exact absurd (Nat.eq_of_beq_eq_true e) h
theorem PfRel.mono {B B' : Heap} (hB : B.Le B') {ks : List Kind} {r : Kind} {dom : AT ks → Prop} {p : AT ks → r.T} {v : Value} (h : PfRel P B ks r dom p v) : PfRel P B' ks r dom p v := by
 obtain ⟨g, first, cap, hv, hx⟩ := h
 exact ⟨g, first, cap, hv, fun x hd σ vs hs ha => hx x hd σ vs (hB.trans hs) ha⟩
theorem gtb_mono {tb tb' : Nat → Option Bool} (ht : ∀ n c, tb n = some c → tb' n = some c) {v : SV} (h : gtb tb v) : gtb tb' v := by
 cases v <;> first | trivial | exact ht _ _ h
theorem gtb_kill {tb tb' : Nat → Option Bool} {o : Nat} (ht : ∀ n c, tb n = some c → tb' n = some c) {v : SV} (h : gtb tb v) : gtb tb' (v.kill o) := by
 cases v
 case bid n c => exact ht _ _ h
 all_goals (simp only [SV.kill]; first | trivial | (split <;> trivial) | (cases Nat.beq _ _ <;> trivial))
mutual
theorem SR.upd {B B' : Heap} {pl pl' : Nat → Value} {tb tb' : Nat → Option Bool} {o : Nat} (hB : B.Le B') (ht : ∀ n c, tb n = some c → tb' n = some c) (hp : ∀ d, d ≠ o → pl' d = pl d) :
  ∀ (s : SV) (v : Value), SR P B pl tb s v → SR P B' pl' tb' (s.kill o) v
 | .any, _, _ => trivial
 | .val k x, v, h => by simp only [SV.kill, SR] at h ⊢; exact KC.mono hB h
 | .bid n c, v, h => by simp only [SV.kill, SR] at h ⊢; exact ⟨h.1, ht _ _ h.2⟩
 | .grd gs s, v, h => by
  simp only [SV.kill, SR] at h ⊢
  exact ⟨⟨fun g hg => ht _ _ (h.1.1 g hg), gtb_kill ht h.1.2⟩, fun hg => SR.upd hB ht hp s v (h.2.1 hg), h.2.2⟩
 | .nilS, v, h => h
 | .nilP, v, h => h
 | .nilM, v, h => h
 | .nilF, v, h => h
 | .lst o', v, h => by
  by_cases e : o' = o
  ·subst e; simp [SV.kill, SR]
  ·simp only [SV.kill, beq_ne e, cond_false]
   simp only [SR] at h ⊢; rw [hp _ e]; exact h
 | .sub o' lo n sz, v, h => by
  by_cases e : o' = o
  ·subst e; simp [SV.kill, SR]
  ·simp only [SV.kill, beq_ne e, cond_false]
   simp only [SR] at h ⊢; rw [hp _ e]; exact h
 | .elp o' i off sz, v, h => by
  by_cases e : o' = o
  ·subst e; simp [SV.kill, SR]
  ·simp only [SV.kill, beq_ne e, cond_false]
   simp only [SR] at h ⊢; rw [hp _ e]; exact h
 | .box o' off, v, h => by
  by_cases e : o' = o
  ·subst e; simp [SV.kill, SR]
  ·simp only [SV.kill, beq_ne e, cond_false]
   simp only [SR] at h ⊢; rw [hp _ e]; exact h
 | .map o', v, h => by
  by_cases e : o' = o
  ·subst e; simp [SV.kill, SR]
  ·simp only [SV.kill, beq_ne e, cond_false]
   simp only [SR] at h ⊢; rw [hp _ e]; exact h
 | .dd o' w, v, h => by
  by_cases e : o' = o
  ·subst e; simp [SV.kill, SR]
  ·simp only [SV.kill, beq_ne e, cond_false]
   simp only [SR] at h ⊢; rw [hp _ e]; exact h
 | .rop k l i off, v, h => by
  simp only [SV.kill, SR] at h ⊢
  obtain ⟨b, o, c, e, wr, t, h1, h2, h3, h4, h5, h6⟩ := h
  exact ⟨b, o, c, e, wr, t, h1, h2, hB.2 _ _ h3, h4, h5, h6.mono fun _ _ => KC.mono hB⟩
 | .cp l off, v, h => by
  simp only [SV.kill, SR] at h ⊢
  obtain ⟨b, c, e, wr, t, h1, h2, h3⟩ := h
  exact ⟨b, c, e, wr, t, hB.2 _ _ h1, h2, SRs.upd hB ht hp l c h3⟩
 | .agg l, v, h => by
  simp only [SV.kill, SR] at h ⊢
  obtain ⟨cs, h1, h2⟩ := h
  exact ⟨cs, h1, SRs.upd hB ht hp l cs h2⟩
 | .tup l, v, h => by
  simp only [SV.kill, SR] at h ⊢
  obtain ⟨cs, h1, h2⟩ := h
  exact ⟨cs, h1, SRs.upd hB ht hp l cs h2⟩
 | .fn f a b, v, h => by
  simp only [SV.kill, SR] at h ⊢
  obtain ⟨x, y, h1, h2, h3⟩ := h
  exact ⟨x, y, h1, SRs.upd hB ht hp a x h2, SRs.upd hB ht hp b y h3⟩
 | .pf ks r dom p, v, h => by simp only [SV.kill, SR] at h ⊢; exact h.mono hB
theorem SRs.upd {B B' : Heap} {pl pl' : Nat → Value} {tb tb' : Nat → Option Bool} {o : Nat} (hB : B.Le B') (ht : ∀ n c, tb n = some c → tb' n = some c) (hp : ∀ d, d ≠ o → pl' d = pl d) :
  ∀ (s : List SV) (v : List Value), SRs P B pl tb s v → SRs P B' pl' tb' (SVs.kill o s) v
 | [], v, h => h
 | s :: ss, v, h => by
  simp only [SVs.kill, SRs] at h ⊢
  obtain ⟨x, y, h1, h2, h3⟩ := h
  exact ⟨x, y, h1, SR.upd hB ht hp s x h2, SRs.upd hB ht hp ss y h3⟩
end
mutual
theorem SR.mono {B B' : Heap} {pl : Nat → Value} {tb tb' : Nat → Option Bool} (hB : B.Le B') (ht : ∀ n c, tb n = some c → tb' n = some c) :
  ∀ (s : SV) (v : Value), SR P B pl tb s v → SR P B' pl tb' s v
 | .any, _, _ => trivial
 | .val k x, v, h => by simp only [SR] at h ⊢; exact KC.mono hB h
 | .bid n c, v, h => by simp only [SR] at h ⊢; exact ⟨h.1, ht _ _ h.2⟩
 | .grd gs s, v, h => by
  simp only [SR] at h ⊢
  exact ⟨⟨fun g hg => ht _ _ (h.1.1 g hg), gtb_mono ht h.1.2⟩, fun hg => SR.mono hB ht s v (h.2.1 hg), h.2.2⟩
 | .nilS, v, h | .nilP, v, h | .nilM, v, h | .nilF, v, h => by simp only [SR] at h ⊢; exact h
 | .lst _, v, h | .sub _ _ _ _, v, h | .elp _ _ _ _, v, h | .box _ _, v, h | .map _, v, h | .dd _ _, v, h => by simp only [SR] at h ⊢; exact h
 | .rop k l i off, v, h => by
  simp only [SR] at h ⊢
  obtain ⟨b, o, c, e, wr, t, h1, h2, h3, h4, h5, h6⟩ := h
  exact ⟨b, o, c, e, wr, t, h1, h2, hB.2 _ _ h3, h4, h5, h6.mono fun _ _ => KC.mono hB⟩
 | .cp l off, v, h => by
  simp only [SR] at h ⊢
  obtain ⟨b, c, e, wr, t, h1, h2, h3⟩ := h
  exact ⟨b, c, e, wr, t, hB.2 _ _ h1, h2, SRs.mono hB ht l c h3⟩
 | .agg l, v, h => by
  simp only [SR] at h ⊢
  obtain ⟨cs, h1, h2⟩ := h
  exact ⟨cs, h1, SRs.mono hB ht l cs h2⟩
 | .tup l, v, h => by
  simp only [SR] at h ⊢
  obtain ⟨cs, h1, h2⟩ := h
  exact ⟨cs, h1, SRs.mono hB ht l cs h2⟩
 | .fn f a b, v, h => by
  simp only [SR] at h ⊢
  obtain ⟨x, y, h1, h2, h3⟩ := h
  exact ⟨x, y, h1, SRs.mono hB ht a x h2, SRs.mono hB ht b y h3⟩
 | .pf ks r dom p, v, h => by simp only [SR] at h ⊢; exact h.mono hB
theorem SRs.mono {B B' : Heap} {pl : Nat → Value} {tb tb' : Nat → Option Bool} (hB : B.Le B') (ht : ∀ n c, tb n = some c → tb' n = some c) :
  ∀ (s : List SV) (v : List Value), SRs P B pl tb s v → SRs P B' pl tb' s v
 | [], v, h => h
 | s :: ss, v, h => by
  simp only [SRs] at h ⊢
  obtain ⟨x, y, h1, h2, h3⟩ := h
  exact ⟨x, y, h1, SR.mono hB ht s x h2, SRs.mono hB ht ss y h3⟩
end
mutual
theorem SR.frz {B : Heap} {pl : Nat → Value} {tb : Nat → Option Bool} {o : Nat} {k : Kind} {xs : List k.T} (hk : KC B (.list k) xs [pl o]) :
  ∀ (s : SV) (v : Value), SR P B pl tb s v → SR P B pl tb (s.frz o k xs) v
 | .any, _, _ => trivial
 | .val k' x, v, h => by simp only [SV.frz]; exact h
 | .bid n c, v, h => by simp only [SV.frz]; exact h
 | .grd gs s, v, h => by
  simp only [SV.frz, SR] at h ⊢
  refine ⟨⟨h.1.1, ?_⟩, fun hg => SR.frz hk s v (h.2.1 hg), h.2.2⟩
  have h2 := h.1.2
  cases s <;> first | exact h2 | trivial | (simp only [SV.frz]; cases Nat.beq _ _ <;> trivial)
 | .nilS, v, h | .nilP, v, h | .nilM, v, h | .nilF, v, h => h
 | .lst o', v, h => by
  by_cases e : o' = o
  ·subst e
   simp only [SV.frz, Nat.beq_refl, _root_.cond_true]
   simp only [SR] at h ⊢
   rw [h.1]; exact hk
  ·simp only [SV.frz, beq_ne e, cond_false]; exact h
 | .sub o' lo n sz, v, h => by
  simp only [SV.frz]
  cases Nat.beq o' o with
  | true => trivial
  | false => exact h
 | .elp o' i off sz, v, h => by
  simp only [SV.frz]
  cases Nat.beq o' o with
  | true => trivial
  | false => exact h
 | .box o' off, v, h => by
  simp only [SV.frz]
  cases Nat.beq o' o with
  | true => trivial
  | false => exact h
 | .map o', v, h => by
  simp only [SV.frz]
  cases Nat.beq o' o with
  | true => trivial
  | false => exact h
 | .dd o' w, v, h => by
  simp only [SV.frz]
  cases Nat.beq o' o with
  | true => trivial
  | false => exact h
 | .rop k l i off, v, h => by simp only [SV.frz]; exact h
 | .cp l off, v, h => by
  simp only [SV.frz, SR] at h ⊢
  obtain ⟨b, c, e, wr, t, h1, h2, h3⟩ := h
  exact ⟨b, c, e, wr, t, h1, h2, SRs.frz hk l c h3⟩
 | .agg l, v, h => by
  simp only [SV.frz, SR] at h ⊢
  obtain ⟨cs, h1, h2⟩ := h
  exact ⟨cs, h1, SRs.frz hk l cs h2⟩
 | .tup l, v, h => by
  simp only [SV.frz, SR] at h ⊢
  obtain ⟨cs, h1, h2⟩ := h
  exact ⟨cs, h1, SRs.frz hk l cs h2⟩
 | .fn f a b, v, h => by
  simp only [SV.frz, SR] at h ⊢
  obtain ⟨x, y, h1, h2, h3⟩ := h
  exact ⟨x, y, h1, SRs.frz hk a x h2, SRs.frz hk b y h3⟩
 | .pf ks r dom p, v, h => by simp only [SV.frz]; exact h
theorem SRs.frz {B : Heap} {pl : Nat → Value} {tb : Nat → Option Bool} {o : Nat} {k : Kind} {xs : List k.T} (hk : KC B (.list k) xs [pl o]) :
  ∀ (s : List SV) (v : List Value), SRs P B pl tb s v → SRs P B pl tb (SVs.frz o k xs s) v
 | [], v, h => h
 | s :: ss, v, h => by
  simp only [SVs.frz, SRs] at h ⊢
  obtain ⟨x, y, h1, h2, h3⟩ := h
  exact ⟨x, y, h1, SR.frz hk s x h2, SRs.frz hk ss y h3⟩
end
theorem SRs.length {B : Heap} {pl : Nat → Value} {tb : Nat → Option Bool} : ∀ {s : List SV} {v : List Value}, SRs P B pl tb s v → s.length = v.length
 | [], v, h => by simp only [SRs] at h; subst h; rfl
 | s :: ss, v, h => by
  simp only [SRs] at h
  obtain ⟨x, y, rfl, _, h3⟩ := h
  simp [SRs.length h3]
theorem SRs.get {B : Heap} {pl : Nat → Value} {tb : Nat → Option Bool} : ∀ {s : List SV} {v : List Value}, SRs P B pl tb s v → ∀ {i : Nat} {a : SV}, s[i]? = some a → ∃ c, v[i]? = some c ∧ SR P B pl tb a c
 | [], v, h, i, a, hi => by simp at hi
 | s :: ss, v, h, i, a, hi => by
  simp only [SRs] at h
  obtain ⟨x, y, rfl, h2, h3⟩ := h
  cases i with
  | zero => simp at hi; subst hi; exact ⟨x, rfl, h2⟩
  | succ i => simp at hi; simpa using SRs.get h3 hi
theorem SRs.of {B : Heap} {pl : Nat → Value} {tb : Nat → Option Bool} : ∀ {s : List SV} {v : List Value}, s.length = v.length → (∀ (i : Nat) (a : SV) (c : Value), s[i]? = some a → v[i]? = some c → SR P B pl tb a c) → SRs P B pl tb s v
 | [], v, hl, _ => by simp only [SRs]; exact List.length_eq_zero_iff.1 (by simpa using hl.symm)
 | s :: ss, [], hl, _ => by simp at hl
 | s :: ss, x :: y, hl, h => by
  simp only [SRs]
  exact ⟨x, y, rfl, h 0 s x rfl rfl, SRs.of (by simpa using hl) fun i a c ha hc => h (i + 1) a c (by simpa using ha) (by simpa using hc)⟩
theorem SRs.getD {B : Heap} {pl : Nat → Value} {tb : Nat → Option Bool} {s : List SV} {v : List Value} (h : SRs P B pl tb s v) (i : Nat) (d : Value) : SR P B pl tb (s.getD i .any) (v.getD i d) := by
 by_cases hi : i < s.length
 ·obtain ⟨c, h1, h2⟩ := h.get (List.getElem?_eq_getElem hi)
  rw [List.getD_eq_getElem?_getD, List.getD_eq_getElem?_getD, h1, List.getElem?_eq_getElem hi]; exact h2
 ·rw [List.getD_eq_getElem?_getD, List.getElem?_eq_none (by omega)]; simp [SR]
theorem SRs.set {B : Heap} {pl : Nat → Value} {tb : Nat → Option Bool} {s : List SV} {v : List Value} (h : SRs P B pl tb s v) (i : Nat) {a : SV} {c : Value} (ha : SR P B pl tb a c) : SRs P B pl tb (s.set i a) (v.set i c) := by
 refine SRs.of (by simp [h.length]) fun j a' c' h1 h2 => ?_
 rw [List.getElem?_set] at h1 h2
 by_cases hij : i = j
 ·subst hij
  simp only [if_true] at h1 h2
  split at h1 <;> split at h2 <;> simp at h1 h2
  subst h1; subst h2; exact ha
 ·simp only [hij, if_false] at h1 h2
  obtain ⟨c, h3, h4⟩ := h.get h1
  rw [h3] at h2; obtain rfl := Option.some.inj h2; exact h4
theorem SRs.append {B : Heap} {pl : Nat → Value} {tb : Nat → Option Bool} : ∀ {s : List SV} {v : List Value} {s' : List SV} {v' : List Value}, SRs P B pl tb s v → SRs P B pl tb s' v' → SRs P B pl tb (s ++ s') (v ++ v')
 | [], v, s', v', h, h' => by simp only [SRs] at h; subst h; exact h'
 | s :: ss, v, s', v', h, h' => by
  simp only [SRs, List.cons_append] at h ⊢
  obtain ⟨x, y, rfl, h2, h3⟩ := h
  exact ⟨x, y ++ v', rfl, h2, SRs.append h3 h'⟩
theorem SRs.take {B : Heap} {pl : Nat → Value} {tb : Nat → Option Bool} : ∀ {s : List SV} {v : List Value}, SRs P B pl tb s v → ∀ n, SRs P B pl tb (s.take n) (v.take n)
 | [], v, h, n => by simp only [SRs] at h; subst h; simp [SRs]
 | s :: ss, v, h, 0 => by simp [SRs]
 | s :: ss, v, h, n + 1 => by
  simp only [SRs] at h
  obtain ⟨x, y, rfl, h2, h3⟩ := h
  simp only [List.take_succ_cons, SRs]
  exact ⟨x, _, rfl, h2, SRs.take h3 n⟩
theorem SRs.drop {B : Heap} {pl : Nat → Value} {tb : Nat → Option Bool} : ∀ {s : List SV} {v : List Value}, SRs P B pl tb s v → ∀ n, SRs P B pl tb (s.drop n) (v.drop n)
 | [], v, h, n => by simp only [SRs] at h; subst h; simp [SRs]
 | s :: ss, v, h, 0 => by simpa using h
 | s :: ss, v, h, n + 1 => by
  simp only [SRs] at h
  obtain ⟨x, y, rfl, h2, h3⟩ := h
  simpa using SRs.drop h3 n
theorem SRs.map {B : Heap} {pl : Nat → Value} {tb : Nat → Option Bool} {α : Type} {f : α → SV} {g : α → Value} : ∀ {l : List α}, (∀ x ∈ l, SR P B pl tb (f x) (g x)) → SRs P B pl tb (l.map f) (l.map g)
 | [], _ => by simp [SRs]
 | x :: l, h => by
  simp only [List.map_cons, SRs]
  exact ⟨_, _, rfl, h x (by simp), SRs.map fun y hy => h y (by simp [hy])⟩
def OB.live : OB → Bool
 | .dead => false
 | .stk _ _ => false
 | _ => true
def oid : Value → Option Nat
 | .slice (some a) _ _ => some a.block
 | .pointer (some a) => some a.block
 | .map m => m
 | _ => none
def Oid (p : Value) (i : Nat) : Prop := match p with
 | .tuple l => ∃ b, (pheap (.tuple l)).get i = some b
 | v => oid v = some i
theorem oid_Oid {p : Value} {i : Nat} (h : oid p = some i) : Oid p i := by
 cases p <;> first | exact h | cases h
theorem Oid_inj {p : Value} {n i : Nat} (hp : oid p = some n) (hi : Oid p i) : i = n := by
 cases p <;> first | exact Option.some.inj (hi.symm.trans hp) | cases hp
def RowsH {α : Type} (R : α → List Value → List Nat → Prop) (sz : Nat) (h : Option Nat) : Nat → List α → List Value → List Nat → Prop
 | _, [], cs, is => cs = [] ∧ is = []
 | j, x :: xs, cs, is => ∃ c cs' i1 i2, cs = c ++ cs' ∧ is = i1 ++ i2 ∧ (if h = some j then c.length = sz ∧ i1 = [] else R x c i1) ∧ RowsH R sz h (j + 1) xs cs' i2
def DO (H : Heap) (ty : Nat) (q : Option Nat) (k : Kind) (xs : List k.T) (h : Option Nat) (v : Value) (is : List Nat) : Prop :=
 (xs = [] ∧ v = .slice none 0 0 ∧ is = []) ∨ ∃ i cap c t js, v = .slice (some ⟨i, 0, none⟩) xs.length cap ∧ is = i :: js ∧ xs.length ≤ cap ∧ H.get i = some (.cells c ⟨k.size, ty⟩ true t) ∧ cap * k.size ≤ c.length ∧
  RowsH (KO H q k) k.size h 0 xs (c.take (xs.length * k.size)) js
def DP (σ : Heap) (p : Value) (ty : Nat) (q : Option Nat) (k : Kind) (xs : List k.T) (nl : Bool) (h : Option Nat) : Prop :=
 ∃ is, (∀ i, Oid p i ↔ ∃ b, (pheap p).get i = some b) ∧ is.Nodup ∧ DO (pheap p) ty q k xs h (phd p) is ∧ (∀ i, (∃ b, (pheap p).get i = some b) ↔ i ∈ is) ∧ (∀ i b, (pheap p).get i = some b → σ.get i = some b) ∧ (nl = true ↔ phd p = .slice none 0 0)
theorem DP.mono {σ σ' : Heap} {p : Value} {ty : Nat} {q : Option Nat} {k : Kind} {xs : List k.T} {nl : Bool} {h : Option Nat} (hd : DP σ p ty q k xs nl h) (hg : ∀ i, Oid p i → σ'.get i = σ.get i) : DP σ' p ty q k xs nl h := by
 obtain ⟨is, hO, h1, h2, h3, h4, h5⟩ := hd
 exact ⟨is, hO, h1, h2, h3, fun i b hb => by rw [hg i ((hO i).2 ⟨b, hb⟩)]; exact h4 i b hb, h5⟩
def MR (B : Heap) (kk vk : Kind) : List (kk.T × vk.T) → List MEnt → Prop
 | [], es => es = []
 | m :: ms, es => ∃ e es', es = e :: es' ∧ KC B kk m.1 [e.1] ∧ KC B vk m.2 [e.2.1] ∧ MR B kk vk ms es'
def OR (P : Program) (B : Heap) (pl : Nat → Value) (tb : Nat → Option Bool) (σ : Heap) (p : Value) : OB → Prop
 | .dead => True
 | .lst ty k xs nl => (nl = true ∧ xs = [] ∧ p = .slice none 0 0) ∨ (nl = false ∧ ∃ i cap c t, p = .slice (some ⟨i, 0, none⟩) xs.length cap ∧ xs.length ≤ cap ∧ σ.get i = some (.cells c ⟨k.size, ty⟩ true t) ∧ cap * k.size ≤ c.length ∧ Rows (KC B k) xs (c.take (xs.length * k.size)))
 | .cells l u => ∃ i c e t, p = .pointer (some ⟨i, 0, none⟩) ∧ σ.get i = some (.cells c e true t) ∧ SRs P B pl tb l c ∧ (∀ y, u = some y → e.ty = y ∧ t = true)
 | .map kk vk m => ∃ i es clock, p = .map (some i) ∧ σ.get i = some (.obj (.map es clock) true) ∧ MR B kk vk m es
 | .stk l vals => SRs P B pl tb l vals
 | .deep ty q k xs nl h => DP σ p ty q k xs nl h
theorem MR.mono {B B' : Heap} (hB : B.Le B') {kk vk : Kind} : ∀ {m : List (kk.T × vk.T)} {es : List MEnt}, MR B kk vk m es → MR B' kk vk m es
 | [], es, h => h
 | m :: ms, es, h => by
  obtain ⟨e, es', h1, h2, h3, h4⟩ := h
  exact ⟨e, es', h1, h2.mono hB, h3.mono hB, h4.mono hB⟩
theorem OR.upd {B B' : Heap} {pl pl' : Nat → Value} {tb tb' : Nat → Option Bool} {o : Nat} (hB : B.Le B') (ht : ∀ n c, tb n = some c → tb' n = some c) (hp : ∀ d, d ≠ o → pl' d = pl d) {σ σ' : Heap} {p : Value} {b : OB}
  (h : OR P B pl tb σ p b) (hg : b.live = true → ∀ i, Oid p i → σ'.get i = σ.get i) : OR P B' pl' tb' σ' p (b.kill o) := by
 cases b with
 | dead => trivial
 | lst ty k xs nl =>
  rcases h with h | ⟨h0, i, cap, c, t, h1, h2, h3, h4, h5⟩
  ·exact .inl h
  ·exact .inr ⟨h0, i, cap, c, t, h1, h2, by rw [hg rfl i (by rw [h1]; rfl)]; exact h3, h4, h5.mono fun _ _ => KC.mono hB⟩
 | cells l u =>
  obtain ⟨i, c, e, t, h1, h2, h3, h4⟩ := h
  exact ⟨i, c, e, t, h1, by rw [hg rfl i (by rw [h1]; rfl)]; exact h2, SRs.upd hB ht hp l c h3, h4⟩
 | map kk vk m =>
  obtain ⟨i, es, clock, h1, h2, h3⟩ := h
  exact ⟨i, es, clock, h1, by rw [hg rfl i (by rw [h1]; rfl)]; exact h2, h3.mono hB⟩
 | stk l vals => exact SRs.upd hB ht hp l vals h
 | deep ty q k xs nl hh => exact DP.mono h (hg rfl)
theorem OR.mono {B B' : Heap} {pl : Nat → Value} {tb tb' : Nat → Option Bool} (hB : B.Le B') (ht : ∀ n c, tb n = some c → tb' n = some c) {σ σ' : Heap} {p : Value} {b : OB}
  (h : OR P B pl tb σ p b) (hg : b.live = true → ∀ i, Oid p i → σ'.get i = σ.get i) : OR P B' pl tb' σ' p b := by
 cases b with
 | dead => trivial
 | lst ty k xs nl =>
  rcases h with h | ⟨h0, i, cap, c, t, h1, h2, h3, h4, h5⟩
  ·exact .inl h
  ·exact .inr ⟨h0, i, cap, c, t, h1, h2, by rw [hg rfl i (by rw [h1]; rfl)]; exact h3, h4, h5.mono fun _ _ => KC.mono hB⟩
 | cells l u =>
  obtain ⟨i, c, e, t, h1, h2, h3, h4⟩ := h
  exact ⟨i, c, e, t, h1, by rw [hg rfl i (by rw [h1]; rfl)]; exact h2, SRs.mono hB ht l c h3, h4⟩
 | map kk vk m =>
  obtain ⟨i, es, clock, h1, h2, h3⟩ := h
  exact ⟨i, es, clock, h1, by rw [hg rfl i (by rw [h1]; rfl)]; exact h2, h3.mono hB⟩
 | stk l vals => exact SRs.mono hB ht l vals h
 | deep ty q k xs nl hh => exact DP.mono h (hg rfl)
theorem oget_oset (own : Own) (d : Nat) (b : OB) (d' : Nat) : oget (oset own d b) d' = if d' = d then b else oget own d' := by
 induction own with
 | nil =>
  simp only [oset, oget]
  by_cases h : d' = d
  ·subst h; simp
  ·rw [if_neg h, beq_ne fun e => h e.symm]; rfl
 | cons p r ih =>
  obtain ⟨k, c⟩ := p
  simp only [oset]
  by_cases h1 : k = d
  ·subst h1
   simp only [Nat.beq_refl, _root_.cond_true, oget]
   by_cases h : d' = k
   ·subst h; simp
   ·rw [if_neg h, beq_ne fun e => h e.symm]; rfl
  ·rw [beq_ne h1, cond_false]
   cases Nat.blt d k with
   | true =>
    simp only [_root_.cond_true, oget]
    by_cases h : d' = d
    ·subst h; simp
    ·rw [if_neg h, beq_ne fun e => h e.symm]; rfl
   | false =>
    simp only [cond_false, oget, ih]
    by_cases h : k = d'
    ·subst h; simp [h1]
    ·rw [beq_ne h]; rfl
theorem oget_okill (own : Own) (o d : Nat) : oget (okill o own) d = if d = o then .dead else (oget own d).kill o := by
 induction own with
 | nil => simp [okill, oget, OB.kill]
 | cons p r ih =>
  obtain ⟨k, c⟩ := p
  simp only [okill]
  by_cases h1 : k = o
  ·subst h1
   simp only [Nat.beq_refl, _root_.cond_true, ih, oget]
   by_cases h : d = k
   ·simp [h]
   ·rw [if_neg h, if_neg h, beq_ne fun e => h e.symm]; rfl
  ·rw [beq_ne h1, cond_false]
   simp only [oget, ih]
   by_cases h : k = d
   ·subst h; simp [h1]
   ·rw [beq_ne h]; simp
theorem OR.frz {B : Heap} {pl : Nat → Value} {tb : Nat → Option Bool} {o : Nat} {k : Kind} {xs : List k.T} (hk : KC B (.list k) xs [pl o]) {σ : Heap} {p : Value} {b : OB}
  (h : OR P B pl tb σ p b) : OR P B pl tb σ p (b.frz o k xs) := by
 cases b with
 | cells l u =>
  obtain ⟨i, c, e, t, h1, h2, h3, h4⟩ := h
  exact ⟨i, c, e, t, h1, h2, SRs.frz hk l c h3, h4⟩
 | stk l vals => exact SRs.frz hk l vals h
 | _ => exact h
theorem oget_ofrz (own : Own) (o : Nat) (k : Kind) (xs : List k.T) (d : Nat) : oget (ofrz o k xs own) d = if d = o then .dead else (oget own d).frz o k xs := by
 induction own with
 | nil => simp [ofrz, oget, OB.frz]
 | cons p r ih =>
  obtain ⟨j, c⟩ := p
  simp only [ofrz]
  by_cases h1 : j = o
  ·subst h1
   simp only [Nat.beq_refl, _root_.cond_true, ih, oget]
   by_cases h : d = j
   ·simp [h]
   ·rw [if_neg h, if_neg h, beq_ne fun e => h e.symm]; rfl
  ·rw [beq_ne h1, cond_false]
   simp only [oget, ih]
   by_cases h : j = d
   ·subst h; simp [h1]
   ·rw [beq_ne h]; simp
theorem OB.live_frz (b : OB) (o : Nat) (k : Kind) (xs : List k.T) : (b.frz o k xs).live = b.live := by cases b <;> rfl
structure Gam (P : Program) (B F : Heap) (pl : Nat → Value) (tb : Nat → Option Bool) (s : St) (env : Env) (σ : Heap) : Prop where
 bf : B.Le F
 le : F.Le σ
 env : SRs P B pl tb s.env env
 obj : ∀ d, OR P B pl tb σ (pl d) (oget s.own d)
 fresh : ∀ d i, (oget s.own d).live = true → Oid (pl d) i → F.get i = none
 sep : ∀ d d' i, d ≠ d' → (oget s.own d).live = true → (oget s.own d').live = true → Oid (pl d) i → Oid (pl d') i → False
 free : ∀ n, s.nx ≤ n → tb n = none
theorem Gam.leB {B F : Heap} {pl : Nat → Value} {tb : Nat → Option Bool} {s : St} {env : Env} {σ : Heap} (h : Gam P B F pl tb s env σ) : B.Le σ := h.bf.trans h.le
def updP (pl : Nat → Value) (d : Nat) (p : Value) : Nat → Value := fun j => if j = d then p else pl j
theorem OB.live_kill (b : OB) (o : Nat) : (b.kill o).live = b.live := by cases b <;> rfl
theorem Gam.make {B F : Heap} {pl : Nat → Value} {tb : Nat → Option Bool} {s : St} {env : Env} {σ σ' : Heap} (h : Gam P B F pl tb s env σ) (d : Nat) (b : OB) (p : Value) (hle : F.Le σ')
  (hfr : ∀ j i, j ≠ d → (oget s.own j).live = true → Oid (pl j) i → σ'.get i = σ.get i) (hb : OR P B (updP pl d p) tb σ' p b)
  (hid : ∀ i, b.live = true → Oid p i → F.get i = none ∧ ∀ j, j ≠ d → (oget s.own j).live = true → ¬ Oid (pl j) i) : Gam P B F (updP pl d p) tb (s.make d b) env σ' := by
 have hp : ∀ j, j ≠ d → updP pl d p j = pl j := fun j hj => by simp [updP, hj]
 have hg : ∀ j, oget (s.make d b).own j = if j = d then b else (oget s.own j).kill d := fun j => by
  simp only [St.make, St.kill, oget_oset, oget_okill]
  split <;> rfl
 refine ⟨h.bf, hle, SRs.upd (Heap.Le.refl B) (fun _ _ h => h) hp _ _ h.env, fun j => ?_, fun j i hl hi => ?_, fun j j' i hne hl hl' hi hi' => ?_, h.free⟩
 ·rw [hg]
  by_cases hj : j = d
  ·subst hj; rw [if_pos rfl]; simpa [updP] using hb
  ·rw [if_neg hj, hp j hj]
   exact (h.obj j).upd (Heap.Le.refl B) (fun _ _ h => h) hp fun hl i hi => hfr j i hj hl hi
 ·rw [hg] at hl
  by_cases hj : j = d
  ·subst hj; rw [if_pos rfl] at hl; simp only [updP, if_true] at hi; exact (hid i hl hi).1
  ·rw [if_neg hj, OB.live_kill] at hl; rw [hp j hj] at hi; exact h.fresh j i hl hi
 ·rw [hg] at hl hl'
  by_cases hj : j = d
  ·subst hj
   rw [if_pos rfl] at hl
   have hj' : j' ≠ j := fun e => hne e.symm
   rw [if_neg hj', OB.live_kill] at hl'
   rw [hp j' hj'] at hi'
   simp only [updP, if_true] at hi
   exact (hid i hl hi).2 j' hj' hl' hi'
  ·rw [if_neg hj, OB.live_kill] at hl
   rw [hp j hj] at hi
   by_cases hj' : j' = d
   ·subst hj'
    rw [if_pos rfl] at hl'
    simp only [updP, if_true] at hi'
    exact (hid i hl' hi').2 j hj hl hi
   ·rw [if_neg hj', OB.live_kill] at hl'
    rw [hp j' hj'] at hi'
    exact h.sep j j' i hne hl hl' hi hi'
theorem Gam.write {B F : Heap} {pl : Nat → Value} {tb : Nat → Option Bool} {s : St} {env : Env} {σ σ' : Heap} (h : Gam P B F pl tb s env σ) (d : Nat) (b : OB) (hle : F.Le σ') (hlive : (oget s.own d).live = true)
  (hfr : ∀ j i, j ≠ d → (oget s.own j).live = true → Oid (pl j) i → σ'.get i = σ.get i) (hb : OR P B pl tb σ' (pl d) b) : Gam P B F pl tb ⟨s.env, oset s.own d b, s.nx⟩ env σ' := by
 refine ⟨h.bf, hle, h.env, fun j => ?_, fun j i hl hi => ?_, fun j j' i hne hl hl' hi hi' => ?_, h.free⟩
 ·simp only [oget_oset]
  by_cases hj : j = d
  ·subst hj; rw [if_pos rfl]; exact hb
  ·rw [if_neg hj]; exact (h.obj j).mono (Heap.Le.refl B) (fun _ _ h => h) fun hl i hi => hfr j i hj hl hi
 ·simp only [oget_oset] at hl
  by_cases hj : j = d
  ·subst hj; exact h.fresh j i hlive hi
  ·rw [if_neg hj] at hl; exact h.fresh j i hl hi
 ·simp only [oget_oset] at hl hl'
  have k1 : (oget s.own j).live = true := by
   by_cases hj : j = d
   ·subst hj; exact hlive
   ·rwa [if_neg hj] at hl
  have k2 : (oget s.own j').live = true := by
   by_cases hj : j' = d
   ·subst hj; exact hlive
   ·rwa [if_neg hj] at hl'
  exact h.sep j j' i hne k1 k2 hi hi'
theorem Gam.put {B F : Heap} {pl : Nat → Value} {tb : Nat → Option Bool} {s : St} {env : Env} {σ : Heap} (h : Gam P B F pl tb s env σ) (d : Option Nat) {v : SV} {u : Value} (hv : SR P B pl tb v u) : Gam P B F pl tb (s.put d v) (putE env d u) σ := by
 cases d with
 | none => exact h
 | some d => exact ⟨h.bf, h.le, h.env.set d hv, h.obj, h.fresh, h.sep, h.free⟩
end
end Go.V