/- A framework for walks, contracts of functions, and their proofs: part 6. -/
import Derived.Deep.Slices
import Derived.Test.YtmmimffgljppkaaGreatDoorR5
namespace Go.V
open Go Go.ChangeShapes Go.WideShapes Go.RowKit Go.Deep Go.Joins
def KFs (T:Kind→TypeId→Bool) (sz:TypeId→Nat):Kind→List (TypeId × Nat)→Nat→Bool
 | _,[],_=>false
 | k,[p],off=>p.2 == off && (sz p.1 == k.size && T k p.1)
 | .pair a b,p :: q :: r,off=>p.2 == off && (sz p.1 == a.size && (T a p.1 && KFs T sz b (q :: r) (off + a.size)))
 | _,_ :: _ :: _,_=>false
def KTy (P:Program):Nat→Kind→TypeId→Bool
 | 0,_,_=>false
 | n + 1,k,t=>match P.underlying t with
  | some (.struct fs)=>P.cellsOf t == k.size && KFs (KTy P n) P.cellsOf k (fs.toList.map fun f=>(f.type,f.offset)) 0
  | some (.array m e)=>P.cellsOf t == k.size && KFs (KTy P n) P.cellsOf k ((List.range m).map fun i=>(e,i * P.cellsOf e)) 0
  | some (.int ik)=>(match k with | .i k'=>decide (k'=ik) | _=>false)
  | some .bool=>(match k with | .bo=>true | _=>false)
  | some .string=>(match k with | .st=>true | _=>false)
  | some (.slice e)=>(match k with | .list k'=>P.cellsOf e == k'.size && (k'.flat && KTy P n k' e) | _=>false)
  | _=>false
def KWf:(k:Kind)→k.T→Prop
 | .i ik,x=>InK ik x
 | .bo,_=>True
 | .st,s=>s.length ≤ maxLen
 | .list k,l=>l.length ≤ maxLen∧∀ x ∈ l,KWf k x
 | .pair a b,x=>KWf a x.1∧KWf b x.2
theorem More.le {ρ ρ':Plc} {σ σ':Heap} (h:More ρ σ ρ' σ'):σ.Le σ':=⟨h.n,fun i b hb=>by rw [h.ag i (σ.lt hb)]; exact hb⟩
def ArgIs (w:World) (ρ:Plc) (σ:Heap) (k:Kind) (cs:List Value):Prop :=
 ∃ ρ' σ' vs x,View w ρ' σ'∧More ρ σ ρ' σ'∧LRel ρ' σ'.n vs cs∧KC σ' k x vs∧KWf k x
theorem ArgIs.pair {w:World} {ρ:Plc} {σ:Heap} {a b:Kind} {cs ds:List Value} (h1:ArgIs w ρ σ a cs) (h2:∀ ρ σ,View w ρ σ→ArgIs w ρ σ b ds):ArgIs w ρ σ (.pair a b) (cs++ds):=by
 obtain ⟨ρ1,σ1,vs1,x1,k1,k2,k3,k4,k5⟩:=h1
 obtain ⟨ρ2,σ2,vs2,x2,m1,m2,m3,m4,m5⟩:=h2 ρ1 σ1 k1
 exact ⟨ρ2,σ2,vs1++vs2,(x1,x2),m1,k2.trans m2,(k3.mono m2.n m2.pl).append m3,⟨vs1,vs2,rfl,k4.mono m2.le,m4⟩,k5,m5⟩
section
variable {H:Type} {enc:TypeId × Value→H} {P:Program} {w:World} {r:Reach} {base:Nat}
def okc (P:Program) (w:World) (r:Reach) (base:Nat) (ts:List TypeId) (cs:List Value):Prop:=∀ (i:Nat) v u,cs[i]?=some v→ts[i]?=some u→Cell.okWide P w r base u v
theorem KFs_len {T:Kind→TypeId→Bool} {sz:TypeId→Nat} {g:TypeId→Option (List TypeId)} (hT:∀ k t ts,T k t=true→g t=some ts→ts.length=k.size) :
  ∀ {k:Kind} {L:List (TypeId × Nat)} {off:Nat} {tss:List (List TypeId)},KFs T sz k L off=true→L.mapM (fun p=>g p.1)=some tss→tss.flatten.length=k.size
 | k,[],_,_,h,_=>by simp [KFs] at h
 | k,[p],off,tss,h,hm=>by
  simp only [KFs,Bool.and_eq_true] at h
  cases hg:g p.1 with
  | none=>simp [hg] at hm
  | some ts =>
   simp [hg] at hm
   subst hm
   simpa using hT _ _ _ h.2.2 hg
 | .pair a b,p :: q :: r,off,tss,h,hm=>by
  simp only [KFs,Bool.and_eq_true] at h
  rw [List.mapM_cons] at hm
  cases hg:g p.1 with
  | none=>simp [hg] at hm
  | some ts =>
   cases hr:(q :: r).mapM (fun p=>g p.1) with
   | none=>simp [hg,hr] at hm
   | some tr =>
    simp [hg,hr] at hm
    subst hm
    have:=KFs_len hT h.2.2.2 hr
    simp only [List.flatten_cons,List.length_append,this,hT _ _ _ h.2.2.1 hg,Kind.size]
 | .i _,_ :: _ :: _,_,_,h,_ | .bo,_ :: _ :: _,_,_,h,_ | .st,_ :: _ :: _,_,_,h,_ | .list _,_ :: _ :: _,_,_,h,_=>by cases h
theorem mapM_map {α β γ:Type} {f:α→β} {g:β→Option γ}:∀ (l:List α),(l.map f).mapM g=l.mapM (fun x=>g (f x))
 | []=>rfl
 | a :: l=>by simp only [List.map_cons,List.mapM_cons,mapM_map l]
theorem mapM_const {β:Type} {x:β} {f:Nat→Option β} (h:∀ i,f i=some x):∀ l:List Nat,l.mapM f=some (List.replicate l.length x)
 | []=>rfl
 | a :: l=>by simp [List.mapM_cons,h,mapM_const h l,List.replicate_succ]
theorem KTy_len:∀ {n:Nat} {k:Kind} {t:TypeId} {d:Nat} {ts:List TypeId},KTy P n k t=true→P.cellTypes d t=some ts→ts.length=k.size
 | 0,_,_,_,_,h,_=>by cases h
 | _ + 1,_,_,0,_,_,h=>by cases h
 | n + 1,k,t,d + 1,ts,h,ht=>by
  have ih:∀ k t ts,KTy P n k t=true→P.cellTypes d t=some ts→ts.length=k.size:=fun k t ts h1 h2=>KTy_len h1 h2
  unfold Program.cellTypes at ht
  unfold KTy at h
  cases hu:P.underlying t with
  | none=>rw [hu] at h; cases h
  | some u =>
   rw [hu] at h ht
   cases u <;> first | (cases h; done) | skip
   all_goals simp only at h ht
   ·split at h <;> first | (cases h; done) | (obtain rfl:=Option.some.inj ht; rfl)
   ·split at h <;> first | (cases h; done) | (obtain rfl:=Option.some.inj ht; rfl)
   ·split at h <;> first | (cases h; done) | (obtain rfl:=Option.some.inj ht; rfl)
   ·split at h <;> first | (cases h; done) | (obtain rfl:=Option.some.inj ht; rfl)
   ·rename_i m e
    rw [Bool.and_eq_true] at h
    cases hc:P.cellTypes d e with
    | none=>rw [hc] at ht; cases ht
    | some te =>
     rw [hc] at ht
     obtain rfl:=Option.some.inj ht
     refine KFs_len (g:=fun t=>P.cellTypes d t) ih h.2 ?_
     rw [mapM_map,mapM_const (x:=te) (fun _=>hc)]
     simp
   ·rename_i fs
    rw [Bool.and_eq_true] at h
    cases hc:fs.toList.mapM fun f=>P.cellTypes d f.type with
    | none=>rw [hc] at ht; cases ht
    | some tss =>
     rw [hc] at ht
     obtain rfl:=Option.some.inj ht
     refine KFs_len (g:=fun t=>P.cellTypes d t) ih h.2 ?_
     rw [mapM_map]; exact hc
theorem KFs_read {T:Kind→TypeId→Bool} {sz:TypeId→Nat} {Q:TypeId→List Value→Prop} {R:Kind→List Value→Prop} (hT:∀ k t cs,T k t=true→Q t cs→R k cs) (hR:∀ a b cs ds,R a cs→R b ds→R (.pair a b) (cs++ds)) (cs:List Value) :
  ∀ {k:Kind} {L:List (TypeId × Nat)} {off:Nat},KFs T sz k L off=true→(∀ p ∈ L,Q p.1 ((cs.drop p.2).take (sz p.1)))→R k ((cs.drop off).take k.size)
 | k,[],_,h,_=>by simp [KFs] at h
 | k,[p],off,h,hq=>by
  simp only [KFs,Bool.and_eq_true,beq_iff_eq] at h
  have:=hq p (by simp)
  rw [h.1,h.2.1] at this
  exact hT _ _ _ h.2.2 this
 | .pair a b,p :: q :: r,off,h,hq=>by
  simp only [KFs,Bool.and_eq_true,beq_iff_eq] at h
  have h1:=hq p (by simp)
  rw [h.1,h.2.1] at h1
  have h2:=KFs_read hT hR cs h.2.2.2 fun x hx=>hq x (List.mem_cons_of_mem _ hx)
  have e:(cs.drop off).take (Kind.pair a b).size=(cs.drop off).take a.size++(cs.drop (off + a.size)).take b.size:=by
   rw [Kind.size,List.take_add,List.drop_drop]
  rw [e]
  exact hR _ _ _ _ (hT _ _ _ h.2.2.1 h1) h2
 | .i _,_ :: _ :: _,_,h,_ | .bo,_ :: _ :: _,_,h,_ | .st,_ :: _ :: _,_,h,_ | .list _,_ :: _ :: _,_,h,_=>by cases h
def FlatIs (k:Kind) (cs:List Value):Prop:=∃ y:k.T,(∀ h,KC h k y cs)∧KWf k y∧∀ ρ m,LRel ρ m cs cs
theorem FlatIs.pair {a b:Kind} {cs ds:List Value} (h1:FlatIs a cs) (h2:FlatIs b ds):FlatIs (.pair a b) (cs++ds):=by
 obtain ⟨x,k1,k2,k3⟩:=h1
 obtain ⟨y,m1,m2,m3⟩:=h2
 exact ⟨(x,y),fun h=>⟨cs,ds,rfl,k1 h,m1 h⟩,⟨k2,m2⟩,fun ρ m=>(k3 ρ m).append (m3 ρ m)⟩
theorem LRel.one {ρ:Plc} {n:Nat} {v c:Value} (h:VRel ρ n v c):LRel ρ n [v] [c]:=.cons h (.nil _ _)
theorem range_mem_get {fs:Array Field} {f:Field} (h:f ∈ fs.toList):∃ i:Nat,fs[i]?=some f:=by
 obtain ⟨i,hi,rfl⟩:=List.mem_iff_getElem.1 h
 exact ⟨i,by simp at hi; simp [hi]⟩
theorem KTy_flat {sp:Nat→Bool} {held:Bool}:∀ {n:Nat} {k:Kind} {t:TypeId} {fuel:Nat} {cs:List Value} {x:DataW H × List MemPlace},KTy P n k t=true→k.flat=true→DataW.trod enc P w base sp held fuel t cs=some x→FlatIs k cs
 | 0,_,_,_,_,_,h,_,_=>by cases h
 | n + 1,k,t,fuel,cs,x,h,hf,hx=>by
  unfold KTy at h
  cases hu:P.underlying t with
  | none=>rw [hu] at h; cases h
  | some u =>
   rw [hu] at h
   have hR:∀ a b cs ds,((a.flat=true→FlatIs a cs)∧True)→((b.flat=true→FlatIs b ds)∧True)→(((Kind.pair a b).flat=true→FlatIs (.pair a b) (cs++ds))∧True):=fun a b cs ds h1 h2=>⟨fun hf=>by
    simp only [Kind.flat,Bool.and_eq_true] at hf
    exact (h1.1 hf.1).pair (h2.1 hf.2),trivial⟩
   have hT:∀ k t cs,KTy P n k t=true→(∃ fuel x,DataW.trod enc P w base sp held fuel t cs=some x)→((k.flat=true→FlatIs k cs)∧True):=fun k t cs h1 ⟨fuel,x,h2⟩=>⟨fun hf=>KTy_flat h1 hf h2,trivial⟩
   cases u <;> first | (cases h; done) | skip
   all_goals simp only at h
   ·split at h <;> first | (cases h; done) | skip
    obtain ⟨b,rfl,_⟩:=DataW.trod_bool hu hx
    exact ⟨b,fun _=>rfl,trivial,fun _ _=>.one (.bool _)⟩
   ·split at h <;> first | (cases h; done) | skip
    obtain rfl:=of_decide_eq_true h
    obtain ⟨z,rfl,_,hw⟩:=DataW.trod_int hu hx
    exact ⟨z,fun _=>rfl,int_wf hw,fun _ _=>.one (.int _ _)⟩
   ·split at h <;> first | (cases h; done) | skip
    obtain ⟨s,rfl,_,hs⟩:=DataW.trod_string hu hx
    exact ⟨s.data.toList,fun _=>rfl,hs,fun _ _=>.one (.string _)⟩
   ·split at h <;> first | (cases h; done) | (cases hf; done)
   ·rename_i m e
    simp only [Bool.and_eq_true,beq_iff_eq] at h
    obtain ⟨xs,m',_,_,hl,hxl,hx⟩:=DataW.trod_array hu hx
    have:=(KFs_read (R:=fun k cs=>(k.flat=true→FlatIs k cs)∧True) hT hR cs h.2 fun p hp=>by
     simp only [List.mem_map,List.mem_range] at hp
     obtain ⟨i,hi,rfl⟩:=hp
     have:=hx i hi
     rw [List.getElem?_eq_getElem (by omega)] at this
     exact ⟨_,_,this⟩).1 hf
    rwa [List.drop_zero,List.take_of_length_le (by omega)] at this
   ·rename_i fs
    simp only [Bool.and_eq_true,beq_iff_eq] at h
    obtain ⟨xs,m',_,_,hl,hxl,hx⟩:=DataW.trod_struct hu hx
    have:=(KFs_read (R:=fun k cs=>(k.flat=true→FlatIs k cs)∧True) hT hR cs h.2 fun p hp=>by
     simp only [List.mem_map] at hp
     obtain ⟨f,hf',rfl⟩:=hp
     obtain ⟨i,hi⟩:=range_mem_get hf'
     have:=hx i f hi
     have hil:i < fs.size:=(Array.getElem?_eq_some_iff.1 hi).1
     rw [List.getElem?_eq_getElem (by omega)] at this
     exact ⟨_,_,this⟩).1 hf
    rwa [List.drop_zero,List.take_of_length_le (by omega)] at this
theorem Rows.range {α:Type} {R:α→List Value→Prop} {n:Nat} {c:List Value} {x:Nat→α}:∀ (m:Nat),(∀ i,i < m→R (x i) ((c.drop (i * n)).take n))→Rows R ((List.range m).map x) (c.take (m * n))
 | 0,_=>by simp; exact .nil
 | m + 1,h=>by
  have e:c.take ((m + 1) * n)=c.take (m * n)++(c.drop (m * n)).take n:=by rw [Nat.add_mul,Nat.one_mul,List.take_add]
  rw [List.range_succ,List.map_append,e]
  exact (Rows.range m fun i hi=>h i (by omega)).append (by simpa using Rows.cons (h m (by omega)) .nil)
theorem choose_below {α:Type} [Inhabited α] {m:Nat} {p:Nat→α→Prop} (h:∀ i,i < m→∃ x,p i x):∃ f:Nat→α,∀ i,i < m→p i (f i) :=
 ⟨fun i=>if hi:i < m then (h i hi).choose else default,fun i hi=>by simp only [hi,dif_pos]; exact (h i hi).choose_spec⟩
instance KInh (k:Kind):Inhabited k.T:=⟨k.dflt⟩
theorem View.list {ρ:Plc} {σ:Heap} (h:View w ρ σ) {n:Nat} {k:Kind} {t e:TypeId} {fuel:Nat} {cs:List Value} {x:DataW H × List MemPlace} (hu:P.underlying t=some (.slice e)) (hs:P.cellsOf e=k.size) (hf:k.flat=true) (hk:KTy P n k e=true)
  (hx:DataW.trod enc P w 0 (fun _=>true) true fuel t cs=some x) (hok:okc P w r base [t] cs):ArgIs w ρ σ (.list k) cs:=by
 rcases open_slice hu hx with ⟨rfl,_⟩ | ⟨a,len,cap,m,fu,D,Pl,rfl,hb,hl,hm,hmm,_,hel⟩
 ·exact ⟨ρ,σ,[.slice none 0 0],[],h,More.refl _ _,.one .nilSl,⟨_,rfl,.inl ⟨rfl,rfl⟩⟩,by simp [maxLen],fun _ hx=>by cases hx⟩
 simp only [if_true] at hmm
 subst hmm
 rw [hs] at hel
 have hhas:w.has P r base a e m:=by
  rcases okWide_slice hu (hok 0 _ t rfl rfl) with hh | ⟨a',len',cap',hh,h2⟩
  ·cases hh
  ·cases hh; exact h2
 obtain ⟨C,row,f,hblk,hoff,hsp⟩:=has_block hhas
 obtain ⟨blk,off,spot⟩:=a
 simp only at hblk hoff hsp
 subst hsp
 have hadd:∀ i,(⟨blk,off,none⟩:Addr).add i=⟨blk,off + i,none⟩:=fun i=>by unfold Addr.add; split <;> simp_all
 obtain ⟨X,hX⟩:=choose_below (α:=k.T × List Value) (m:=m) (p:=fun i p=>p.2.length=k.size∧(∀ j,j < k.size→w.cell? ⟨blk,off + i * k.size + j,none⟩=p.2[j]?)∧(∀ h,KC h k p.1 p.2)∧KWf k p.1∧∀ ρ m,LRel ρ m p.2 p.2) fun i hi=>by
  obtain ⟨cs',h1,h2⟩:=hel i hi
  obtain ⟨_,k1,k2⟩:=World.cells?_some h1
  obtain ⟨y,m1,m2,m3⟩:=KTy_flat hk hf h2
  refine ⟨(y,cs'),k1,fun j hj=>?_,m1,m2,m3⟩
  have:=k2 j hj
  rw [hadd] at this
  have e2:(⟨blk,off + i * k.size,none⟩:Addr).add j=⟨blk,off + i * k.size + j,none⟩:=by unfold Addr.add; split <;> simp_all
  rw [e2] at this
  exact this
 have hpos:=k.size_pos
 let c:List Value:=(List.range (m * k.size)).map fun j=>((X (j / k.size)).2[j % k.size]?).getD undef
 have hcl:c.length=m * k.size:=by simp [c]
 have hdiv:∀ j,j < m * k.size→j / k.size < m:=fun j hj=>Nat.div_lt_of_lt_mul (by rw [Nat.mul_comm]; exact hj)
 have hcell:∀ j,j < m * k.size→∃ v,c[j]?=some v∧w.cell? ⟨blk,off + j,none⟩=some v∧∀ ρ m,VRel ρ m v v:=fun j hj=>by
  have h1:=hX (j / k.size) (hdiv j hj)
  have hjm:j % k.size < k.size:=Nat.mod_lt _ hpos
  have h2:=h1.2.1 _ hjm
  have e:off + j / k.size * k.size + j % k.size=off + j:=by rw [Nat.add_assoc,Nat.div_add_mod']
  rw [e] at h2
  have h3:j % k.size < (X (j / k.size)).2.length:=by rw [h1.1]; exact hjm
  refine ⟨(X (j / k.size)).2[j % k.size],?_,?_,fun ρ m=>(h1.2.2.2.2 ρ m).2 _ _ _ (List.getElem?_eq_getElem h3) (List.getElem?_eq_getElem h3)⟩
  ·simp only [c,List.getElem?_map,List.getElem?_range hj,Option.map_some,List.getElem?_eq_getElem h3,Option.getD_some]
  ·rw [h2,List.getElem?_eq_getElem h3]
 have helt:∀ i,i < m→(c.drop (i * k.size)).take k.size=(X i).2:=fun i hi=>by
  have h1:=hX i hi
  have hle:i * k.size + k.size ≤ m * k.size:=by
   have:(i + 1) * k.size ≤ m * k.size:=Nat.mul_le_mul_right _ hi
   rw [Nat.add_mul] at this; omega
  apply List.ext_getElem?
  intro j
  by_cases hj:j < k.size
  ·rw [List.getElem?_take_of_lt hj,List.getElem?_drop]
   have hj2:i * k.size + j < m * k.size:=by omega
   have e1:(i * k.size + j) / k.size=i:=by rw [Nat.mul_comm,Nat.mul_add_div hpos,Nat.div_eq_of_lt hj,Nat.add_zero]
   have e2:(i * k.size + j) % k.size=j:=by rw [Nat.mul_comm,Nat.mul_add_mod,Nat.mod_eq_of_lt hj]
   have h3:j < (X i).2.length:=by rw [h1.1]; exact hj
   simp only [c,List.getElem?_map,List.getElem?_range hj2,Option.map_some,e1,e2,List.getElem?_eq_getElem h3,Option.getD_some]
  ·rw [List.getElem?_eq_none (by simp; omega),List.getElem?_eq_none (by omega)]
 have hsz:off + m * k.size ≤ C.size:=by
  rcases Nat.eq_zero_or_pos (m * k.size) with h0 | h0
  ·omega
  ·obtain ⟨v,_,h2,_⟩:=hcell (m * k.size - 1) (by omega)
   unfold World.cell? at h2
   simp only [hblk] at h2
   have:=(Array.getElem?_eq_some_iff.1 (by simpa using h2)).1
   omega
 obtain ⟨hv,hmo⟩:=h.add ⟨blk,off,m * k.size,⟨k.size,row⟩,false⟩ c hblk hsz (by simp [hcl]) rfl (fun j v hj=>by
  have hjl:j < m * k.size:=by rw [←hcl]; exact (List.getElem?_eq_some_iff.1 hj).1
  obtain ⟨v',h1,h2,h3⟩:=hcell j hjl
  obtain rfl:=Option.some.inj (hj.symm.trans h1)
  exact ⟨v,h2,h3 _ _⟩)
 have hlen:((List.range len).map fun i=>(X i).1).length=len:=by simp
 refine ⟨_,_,[.slice (some ⟨σ.n,0,none⟩) len m],(List.range len).map fun i=>(X i).1,hv,hmo,.one ?_,⟨_,rfl,.inr ⟨σ.n,0,m,c,⟨k.size,row⟩,false,false,by rw [hlen],by rw [hlen]; exact hl,Heap.get_push_self _ _,rfl,?_,?_⟩⟩,?_,fun y hy=>?_⟩
 ·refine .sl _ _ _ _ _ _ (by simp) fun p hp=>?_
  simp [Plc.put] at hp
  subst hp
  exact ⟨Nat.le_refl _,(fun h=>by cases h),0,by simp,by simp,.inl rfl⟩
 ·rw [hlen,hcl,Nat.zero_add]; exact Nat.mul_le_mul_right _ hl
 ·rw [hlen,List.drop_zero]
  refine Rows.range len fun i hi=>?_
  rw [helt i (by omega)]
  exact (hX i (by omega)).2.2.1 _
 ·rw [hlen]; exact Nat.le_trans hl hm
 ·obtain ⟨i,hi,rfl⟩:=List.mem_map.1 hy
  exact (hX i (by have:=List.mem_range.1 hi; omega)).2.2.2.1
def Kind.lev1:Kind→Bool
 | .list k=>k.flat
 | .pair a b=>a.lev1 && b.lev1
 | _=>true
theorem okc_part {ts:List TypeId} {cs:List Value} (h:okc P w r base ts cs) (o n:Nat):okc P w r base ((ts.drop o).take n) ((cs.drop o).take n):=fun i v u h1 h2=>by
 have hi:i < n:=by
  have:=(List.getElem?_eq_some_iff.1 h1).1
  rw [List.length_take] at this; omega
 rw [List.getElem?_take_of_lt hi,List.getElem?_drop] at h1 h2
 exact h _ v u h1 h2
theorem KFs_types {T:Kind→TypeId→Bool} {sz:TypeId→Nat} {g:TypeId→Option (List TypeId)} (hT:∀ k t ts,T k t=true→g t=some ts→ts.length=k.size) :
  ∀ {k:Kind} {L:List (TypeId × Nat)} {off:Nat} {tss:List (List TypeId)},KFs T sz k L off=true→L.mapM (fun p=>g p.1)=some tss→∀ p ∈ L,off ≤ p.2∧g p.1=some ((tss.flatten.drop (p.2 - off)).take (sz p.1))
 | k,[],_,_,h,_=>by simp [KFs] at h
 | k,[p],off,tss,h,hm=>by
  simp only [KFs,Bool.and_eq_true,beq_iff_eq] at h
  intro p' hp
  obtain rfl:=List.mem_singleton.1 hp
  cases hg:g p'.1 with
  | none=>simp [hg] at hm
  | some ts =>
   simp [hg] at hm
   subst hm
   refine ⟨by omega,?_⟩
   rw [h.1,Nat.sub_self,List.drop_zero,h.2.1,List.take_of_length_le]
   ·simp
   ·simp [hT _ _ _ h.2.2 hg]
 | .pair a b,p :: q :: r,off,tss,h,hm=>by
  simp only [KFs,Bool.and_eq_true,beq_iff_eq] at h
  rw [List.mapM_cons] at hm
  intro p' hp
  cases hg:g p.1 with
  | none=>simp [hg] at hm
  | some ts =>
   cases hr:(q :: r).mapM (fun p=>g p.1) with
   | none=>simp [hg,hr] at hm
   | some tr =>
    simp [hg,hr] at hm
    subst hm
    have hlen:=hT _ _ _ h.2.2.1 hg
    rcases List.mem_cons.1 hp with rfl | hp
    ·refine ⟨by omega,?_⟩
     rw [hg,h.1,Nat.sub_self,List.drop_zero,h.2.1,List.flatten_cons,List.take_append,←hlen,Nat.sub_self,List.take_zero,List.append_nil,List.take_length]
    ·obtain ⟨h1,h2⟩:=KFs_types hT h.2.2.2 hr p' hp
     refine ⟨by omega,?_⟩
     have e1:ts.drop (p'.2 - off)=[]:=List.drop_eq_nil_of_le (by omega)
     have e2:p'.2 - off - a.size=p'.2 - (off + a.size):=by omega
     rw [h2,List.flatten_cons,List.drop_append,hlen,e1,e2,List.nil_append]
 | .i _,_ :: _ :: _,_,_,h,_ | .bo,_ :: _ :: _,_,_,h,_ | .st,_ :: _ :: _,_,_,h,_ | .list _,_ :: _ :: _,_,_,h,_=>by cases h
theorem KTy_read:∀ {n:Nat} {k:Kind} {t:TypeId} {d:Nat} {ts:List TypeId} {fuel:Nat} {cs:List Value} {x:DataW H × List MemPlace},KTy P n k t=true→k.lev1=true→P.cellTypes d t=some ts→okc P w r base ts cs→DataW.trod enc P w 0 (fun _=>true) true fuel t cs=some x→∀ ρ σ,View w ρ σ→ArgIs w ρ σ k cs
 | 0,_,_,_,_,_,_,_,h,_,_,_,_=>by cases h
 | _ + 1,_,_,0,_,_,_,_,_,_,h,_,_=>by cases h
 | n + 1,k,t,d + 1,ts,fuel,cs,x,h,hf,hts,hok,hx=>by
  intro ρ σ hv
  by_cases hflat:k.flat=true
  ·obtain ⟨y,h1,h2,h3⟩:=KTy_flat h hflat hx
   exact ⟨ρ,σ,cs,y,hv,More.refl _ _,h3 _ _,h1 _,h2⟩
  unfold KTy at h
  cases hu:P.underlying t with
  | none=>rw [hu] at h; cases h
  | some u =>
   rw [hu] at h
   let Q:TypeId→List Value→Prop:=fun t cs=>(∃ fuel x,DataW.trod enc P w 0 (fun _=>true) true fuel t cs=some x)∧∃ ts,P.cellTypes d t=some ts∧okc P w r base ts cs
   let R:Kind→List Value→Prop:=fun k cs=>k.lev1=true→∀ ρ σ,View w ρ σ→ArgIs w ρ σ k cs
   have hR:∀ a b cs ds,R a cs→R b ds→R (.pair a b) (cs++ds):=fun a b cs ds h1 h2 hl ρ σ hv=>by
    simp only [Kind.lev1,Bool.and_eq_true] at hl
    exact (h1 hl.1 ρ σ hv).pair fun ρ σ hv=>h2 hl.2 ρ σ hv
   have hT:∀ k t cs,KTy P n k t=true→Q t cs→R k cs:=fun k t cs h1 ⟨⟨fuel,x,h2⟩,ts,h3,h4⟩ hl=>KTy_read h1 hl h3 h4 h2
   have hlen:∀ k t ts,KTy P n k t=true→P.cellTypes d t=some ts→ts.length=k.size:=fun k t ts h1 h2=>KTy_len h1 h2
   unfold Program.cellTypes at hts
   rw [hu] at hts
   cases u <;> first | (cases h; done) | skip
   all_goals simp only at h
   ·split at h <;> first | (cases h; done) | (exact absurd rfl hflat)
   ·split at h <;> first | (cases h; done) | (exact absurd rfl hflat)
   ·split at h <;> first | (cases h; done) | (exact absurd rfl hflat)
   ·rename_i e
    split at h <;> first | (cases h; done) | skip
    simp only [Bool.and_eq_true,beq_iff_eq] at h
    simp only [Option.some.injEq] at hts
    subst hts
    exact hv.list hu h.1 h.2.1 h.2.2 hx hok
   ·rename_i m e
    simp only [Bool.and_eq_true,beq_iff_eq] at h
    obtain ⟨xs,m',_,_,hl,hxl,hx⟩:=DataW.trod_array hu hx
    simp only at hts
    cases hc:P.cellTypes d e with
    | none=>rw [hc] at hts; cases hts
    | some te =>
     rw [hc] at hts
     obtain rfl:=Option.some.inj hts
     have htm:((List.range m).map fun i=>(e,i * P.cellsOf e)).mapM (fun p:TypeId × Nat=>P.cellTypes d p.1)=some (List.replicate m te):=by
      rw [mapM_map,mapM_const (x:=te) (fun _=>hc)]; simp
     have:=KFs_read (Q:=Q) (R:=R) hT hR cs h.2 (fun p hp=>by
      have hty:=KFs_types (g:=fun t=>P.cellTypes d t) hlen h.2 htm p hp
      simp only [List.mem_map,List.mem_range] at hp
      obtain ⟨i,hi,rfl⟩:=hp
      have:=hx i hi
      rw [List.getElem?_eq_getElem (by omega)] at this
      exact ⟨⟨_,_,this⟩,_,hty.2,okc_part hok _ _⟩) hf ρ σ hv
     rwa [List.drop_zero,List.take_of_length_le (by omega)] at this
   ·rename_i fs
    simp only [Bool.and_eq_true,beq_iff_eq] at h
    obtain ⟨xs,m',_,_,hl,hxl,hx⟩:=DataW.trod_struct hu hx
    simp only at hts
    cases hc:fs.toList.mapM fun f=>P.cellTypes d f.type with
    | none=>rw [hc] at hts; cases hts
    | some tss =>
     rw [hc] at hts
     obtain rfl:=Option.some.inj hts
     have htm:(fs.toList.map fun f=>(f.type,f.offset)).mapM (fun p:TypeId × Nat=>P.cellTypes d p.1)=some tss:=by
      rw [mapM_map]; exact hc
     have:=KFs_read (Q:=Q) (R:=R) hT hR cs h.2 (fun p hp=>by
      have hty:=KFs_types (g:=fun t=>P.cellTypes d t) hlen h.2 htm p hp
      simp only [List.mem_map] at hp
      obtain ⟨f,hf',rfl⟩:=hp
      obtain ⟨i,hi⟩:=range_mem_get hf'
      have:=hx i f hi
      have hil:i < fs.size:=(Array.getElem?_eq_some_iff.1 hi).1
      rw [List.getElem?_eq_getElem (by omega)] at this
      exact ⟨⟨_,_,this⟩,_,hty.2,okc_part hok _ _⟩) hf ρ σ hv
     rwa [List.drop_zero,List.take_of_length_le (by omega)] at this
def isAgg (P:Program) (t:TypeId):Bool:=match P.underlying t with
 | some (.struct _)=>true
 | some (.array _ _)=>true
 | _=>false
theorem View.arg {ρ:Plc} {σ:Heap} (h:View w ρ σ) {n:Nat} {k:Kind} {t:TypeId} {v:Value} {d:DataW H} {p:List MemPlace} (hk:KTy P n k t=true) (hl:k.lev1=true) (ha:isAgg P t=!k.one) (hok:Value.okWide P w r base t v) (hd:DataW.Trod enc P w 0 (fun _=>true) true t v d p) :
  ∃ ρ' σ' vv x,View w ρ' σ'∧More ρ σ ρ' σ'∧VRel ρ' σ'.n vv v∧KV σ' k x vv∧KWf k x:=by
 obtain ⟨fuel,hd⟩:=hd
 by_cases hagg:isAgg P t=true
 ·have hone:k.one=false:=by rw [hagg] at ha; simpa using ha.symm
  have:∃ cs,v=.agg cs∧cs.size=P.cellsOf t∧Row.okWide P w r base t cs:=by
   unfold isAgg at hagg
   unfold Value.okWide at hok
   split at hagg <;> first | (cases hagg; done) | skip
   ·rename_i hu; rw [hu] at hok; exact hok
   ·rename_i hu; rw [hu] at hok; exact hok
  obtain ⟨cs,rfl,hsz,ts,hts,_,hcells⟩:=this
  have hlen:=KTy_len hk hts
  have hcs:P.cellsOf t=k.size:=by
   unfold isAgg at hagg
   cases n with
   | zero=>cases hk
   | succ n =>
    unfold KTy at hk
    split at hagg <;> first | (cases hagg; done) | skip
    all_goals
     rename_i hu
     rw [hu] at hk
     simp only [Bool.and_eq_true,beq_iff_eq] at hk
     exact hk.1
  have hokc:okc P w r base ts cs.toList:=fun i v u h1 h2=>by
   have hi:i < ts.length:=(List.getElem?_eq_some_iff.1 h2).1
   obtain ⟨u',h3,h4⟩:=hcells i v (by simpa using h1)
   rw [Nat.mod_eq_of_lt hi] at h3
   obtain rfl:=Option.some.inj (h2.symm.trans h3)
   exact h4
  obtain ⟨ρ',σ',vs,x,k1,k2,k3,k4,k5⟩:=KTy_read hk hl hts hokc (show DataW.trod enc P w 0 _ true fuel t cs.toList=_ from hd) ρ σ h
  exact ⟨ρ',σ',.agg vs.toArray,x,k1,k2,VRel.agg_of (ds:=cs.toList) k3,.inr ⟨hone,vs,rfl,k4⟩,k5⟩
 ·have hone:k.one=true:=by
   have:isAgg P t=false:=by simpa using hagg
   rw [this] at ha; simpa using ha.symm
  have hsize:=Kind.one_size hone
  have hcell:Cell.okWide P w r base t v∧v.cells.toList=[v]:=by
   have h1:isAgg P t=false:=by simpa using hagg
   unfold isAgg at h1
   have h2:Cell.okWide P w r base t v:=by
    unfold Value.okWide at hok
    split at hok
    ·rename_i hu; rw [hu] at h1; cases h1
    ·rename_i hu; rw [hu] at h1; cases h1
    ·exact hok
   refine ⟨h2,?_⟩
   cases v <;> first | rfl | skip
   all_goals
    exfalso
    cases n with
    | zero=>cases hk
    | succ n =>
     unfold KTy at hk
     unfold Cell.okWide Cell.ok at h2
     cases hu:P.underlying t with
     | none=>rw [hu] at hk; cases hk
     | some u =>
      rw [hu] at hk h2 h1
      cases u <;> first | (cases hk; done) | (cases h1; done) | (cases h2; done) | (simp at h2; done)
  have hts:P.cellTypes 1 t=some [t]:=by
   have h1:isAgg P t=false:=by simpa using hagg
   unfold isAgg at h1
   unfold Program.cellTypes
   cases n with
   | zero=>cases hk
   | succ n =>
    unfold KTy at hk
    cases hu:P.underlying t with
    | none=>rw [hu] at hk; cases hk
    | some u =>
     rw [hu] at h1
     cases u <;> first | rfl | (cases h1; done)
  rw [hcell.2] at hd
  have hokc:okc P w r base [t] [v]:=fun i v' u h1 h2=>by
   cases i with
   | zero=>cases h1; cases h2; exact hcell.1
   | succ i=>simp at h1
  obtain ⟨ρ',σ',vs,x,k1,k2,k3,k4,k5⟩:=KTy_read hk hl hts hokc hd ρ σ h
  have:vs.length=1:=by rw [KC.length k4]; exact hsize
  obtain ⟨vv,rfl⟩:=List.length_eq_one_iff.1 this
  exact ⟨ρ',σ',vv,x,k1,k2,k3.2 0 _ _ rfl rfl,.inl ⟨hone,k4⟩,k5⟩
def AWf:(ks:List Kind)→AT ks→Prop
 | [],_=>True
 | [k],x=>KWf k x
 | k :: k' :: ks,x=>KWf k x.1∧AWf (k' :: ks) x.2
def ktys (P:Program):List Kind→List TypeId→Bool
 | [],[]=>true
 | k :: ks,t :: ts=>(KTy P 8 k t && (k.lev1 && (isAgg P t == !k.one))) && ktys P ks ts
 | _,_=>false
theorem View.args:∀ {ks:List Kind} {ts:List TypeId} {vs:List Value} {ds:List (DataW H)} {ps:List MemPlace} {ρ:Plc} {σ:Heap},View w ρ σ→ktys P ks ts=true→(∀ (j:Nat) t v,ts[j]?=some t→vs[j]?=some v→Value.okWide P w r base t v)→DataW.TrodAll enc P w 0 (fun _=>true) true ts vs ds ps →
  ∃ ρ' σ' vvs x,View w ρ' σ'∧More ρ σ ρ' σ'∧LRel ρ' σ'.n vvs vs∧atVals σ' ks x vvs∧AWf ks x
 | [],[],vs,ds,ps,ρ,σ,h,_,_,hA=>by
  obtain ⟨rfl,rfl,rfl⟩:=trodAll_nil hA
  exact ⟨ρ,σ,[],(),h,More.refl _ _,.nil _ _,rfl,trivial⟩
 | [k],[t],vs,ds,ps,ρ,σ,h,hk,hv,hA=>by
  obtain ⟨v,vs',d,ds',p,q,rfl,rfl,rfl,h1,h2⟩:=trodAll_cons hA
  obtain ⟨rfl,rfl,rfl⟩:=trodAll_nil h2
  simp only [ktys,Bool.and_eq_true,beq_iff_eq] at hk
  obtain ⟨ρ',σ',vv,x,k1,k2,k3,k4,k5⟩:=h.arg hk.1.1 hk.1.2.1 hk.1.2.2 (hv 0 t v rfl rfl) h1
  exact ⟨ρ',σ',[vv],x,k1,k2,.one k3,⟨vv,rfl,k4⟩,k5⟩
 | k :: k' :: ks,t :: ts,vs,ds,ps,ρ,σ,h,hk,hv,hA=>by
  obtain ⟨v,vs',d,ds',p,q,rfl,rfl,rfl,h1,h2⟩:=trodAll_cons hA
  simp only [ktys,Bool.and_eq_true,beq_iff_eq] at hk
  obtain ⟨ρ1,σ1,vv,x,k1,k2,k3,k4,k5⟩:=h.arg hk.1.1 hk.1.2.1 hk.1.2.2 (hv 0 t v rfl rfl) h1
  obtain ⟨ρ2,σ2,vvs,y,m1,m2,m3,m4,m5⟩:=k1.args (ks:=k' :: ks) hk.2 (fun j t v h1 h2=>hv (j + 1) t v h1 h2) h2
  exact ⟨ρ2,σ2,vv :: vvs,(x,y),m1,k2.trans m2,.cons (k3.mono m2.n m2.pl) m3,⟨vv,vvs,rfl,k4.vcall m2.le,m4⟩,k5,m5⟩
 | [],_ :: _,_,_,_,_,_,_,hk,_,_ | _ :: _,[],_,_,_,_,_,_,hk,_,_ | [_],_ :: _ :: _,_,_,_,_,_,_,hk,_,_=>by simp [ktys] at hk
theorem law_calls (hT:Tabs w) {f:Nat} {sp:CSp} (hsp:OkC P f sp) (he:Enterable P f) {ks:List Kind} {ts:List TypeId} {args:Array Value} {ds:List (DataW H)} {ps:List MemPlace} (hk:ktys P ks ts=true)
  (hv:∀ (j:Nat) t v,ts[j]?=some t→args.toList[j]?=some v→Value.okWide P w r base t v) (hA:DataW.TrodAll enc P w 0 (fun _=>true) true ts args.toList ds ps)
  (hs:∀ x:AT ks,AWf ks x→∃ c,sp (fun _ _=>none) (atSVs ks x)=some (c,.val .bo true,[])∧c):Calls P f args w fun e w'=>e=.returned (.bool true)∧Below w.heap.size w w':=by
 obtain ⟨ρ,σ,vvs,x,k1,k2,k3,k4,k5⟩:=(View.emptyT w hT).args hk hv hA
 obtain ⟨c,h1,h2⟩:=hs x k5
 exact k1.calls k3 (hsp.true he (atSVs_sound k4) h1 h2)
end
end Go.V
namespace Go.V
open Go
theorem trodAll_len {H:Type} {enc:TypeId × Value→H} {P:Program} {w:World} {b:Nat} {sp:Nat→Bool} {hd:Bool}:∀ {ts:List TypeId} {vs:List Value} {ds:List (DataW H)} {ps:List MemPlace},DataW.TrodAll enc P w b sp hd ts vs ds ps→ds.length=ts.length
 | [],[],[],_,_=>rfl
 | t :: ts,v :: vs,d :: ds,ps,h=>by
  obtain ⟨p,q,_,h2,_⟩:=h
  simp [trodAll_len h2]
 | [],[],_ :: _,_,h | [],_ :: _,_,_,h | _ :: _,[],_,_,h | _ :: _,_ :: _,[],_,h=>h.elim
end Go.V
namespace Go.Proofs.Tryz
open Go Go.V
noncomputable def tabT:List (Option FEnt):=[
 none,
 none,
 some (.code c2 [] 1),
 some (.code c3 [.tmp 4] 125),
 some (.code c4 [.tmp 4] 115),
 some (.code c5 [.tmp 4] 139),
 some (.code c6 [.tmp 0] 193),
 some (.code c7 [.tmp 2] 6),
 some (.code c8 [.tmp 2] 6),
 some (.code c9 [.tmp 2] 10),
 some (.codeJ c10 [.cell 4 true 2,.tmp 5] 52),
 some (.code c11 [.tmp 4] 26),
 some (.code c12 [.tmp 4] 26),
 some (.code c13 [.tmp 2] 44),
 some (.code c14 [.tmp 6] 15),
 some (.code c15 [.cell 4 true 2] 51),
 some (.code c16 [.tmp 2] 6),
 some (.codeJ c17 [.tmp 4,.tmp 5] 23),
 some (.code c18 [.tmp 6] 41),
 some (.codeJ c19 [.cell 6 true 2,.tmp 7,.tmp 8] 37),
 some (.code c20 [.tmp 2,.tmp 3,.tmp 4,.tmp 5,.tmp 6] 105),
 some (.codeJ c21 [.cell 8 true 2,.tmp 9] 103),
 some (.code c22 [.cell 10 true 2,.tmp 11] 97),
 some (.code c23 [.tmp 0] 10),
 some (.codeJ c24 [.tmp 4,.tmp 5] 15),
 some (.codeJ c25 [.tmp 4,.tmp 5] 18),
 some (.codeJ c26 [.tmp 6,.tmp 7] 29),
 some (.codeJ c27 [.tmp 4,.tmp 5,.tmp 6] 73),
 some (.code c28 [.tmp 2] 9),
 some (.code c29 [.cell 4 true 2] 8),
 some (.code c30 [.tmp 4] 9),
 some (.code c31 [.tmp 2] 6),
 some (.code c32 [.tmp 2] 32),
 some (.code c33 [.tmp 6] 11),
 some (.code c34 [.cell 2 true 2] 61),
 some (.code c35 [.tmp 4] 20),
 some (.code c36 [.tmp 4] 20),
 some (.code c37 [.cell 6 true 3,.tmp 7] 33),
 some (.code c38 [.tmp 4] 26),
 some (.code c39 [.tmp 4] 17),
 some (.codeJ c40 [.tmp 2,.tmp 3] 41),
 some (.code c41 [.cell 0 true 2] 2),
 some (.code c42 [.tmp 2] 4),
 some (.code c43 [.cell 6 true 2] 44),
 some (.code c44 [.cell 4 true 2] 16),
 some (.code c45 [.cell 4 true 2] 17),
 some (.code c46 [.tmp 4,.tmp 5,.tmp 6] 29),
 some (.code c47 [.cell 4 true 2,.tmp 5] 21),
 some (.code c48 [.tmp 2] 13),
 some (.codeJ c49 [.tmp 4,.tmp 5] 62),
 some (.code c50 [.tmp 4] 63),
 some (.codeJ c51 [.tmp 2] 15),
 some (.codeJ c52 [.tmp 6] 21),
 some (.code c53 [.tmp 4] 19),
 some (.code c54 [.tmp 4] 9),
 some (.code c55 [.tmp 4] 13),
 some (.code c56 [.tmp 2] 15),
 some (.code c57 [.tmp 4] 9),
 some (.code c58 [.cell 6 true 2] 44),
 some (.code c59 [] 19),
 some (.codeJ c60 [.tmp 2] 16),
 some (.code c61 [.tmp 2,.tmp 3] 64),
 some (.codeJ c62 [.tmp 4] 24),
 some (.codeJ c63 [.tmp 4] 38),
 some (.code c64 [.tmp 2] 18),
 some (.code c65 [.tmp 4] 20),
 some (.code c66 [.tmp 4] 36),
 some (.code c67 [.tmp 2] 8),
 some (.code c68 [.tmp 4] 19),
 some (.code c69 [.tmp 4] 19),
 some (.code c70 [] 9),
 some (.code c71 [.tmp 5] 36),
 some (.code c72 [] 11),
 some (.code c73 [] 14),
 some (.code c74 [.tmp 3] 11),
 some (.code c75 [.tmp 2] 6),
 some (.code c76 [.tmp 2] 14),
 some (.code c77 [.tmp 2] 14),
 some (.code c78 [] 63),
 some (.code c79 [] 134),
 some (.code c80 [.tmp 2] 8),
 some (.code c81 [] 148),
 some (.code c82 [] 53),
 some (.code c83 [] 220),
 some (.code c84 [] 49),
 some (.code c85 [] 56),
 some (.code c86 [] 65),
 some (.code c87 [.tmp 6,.tmp 7] 57),
 some (.code c88 [] 32),
 some (.code c89 [.tmp 6] 133),
 some (.code c90 [.tmp 4] 17),
 some (.code c91 [.tmp 8] 84),
 some (.code c92 [.tmp 8,.tmp 9] 168),
 some (.code c93 [.tmp 2] 19),
 some (.code c94 [.tmp 2] 25),
 some (.code c95 [] 53),
 some (.code c96 [] 60),
 some (.code c97 [] 67),
 some (.code c98 [.tmp 8,.tmp 9] 63),
 some (.code c99 [] 34),
 some (.code c100 [.tmp 8] 141),
 some (.code c101 [.tmp 10] 90),
 some (.code c102 [.tmp 10,.tmp 11] 178),
 some (.code c103 [] 58),
 some (.code c104 [] 76),
 some (.code c105 [.tmp 2] 7),
 some (.code c106 [.tmp 2] 33),
 some (.code c107 [.tmp 6] 15),
 some (.code c108 [.tmp 10] 36),
 some (.code c109 [] 82),
 some (.code c110 [.tmp 8] 18),
 some (.code c111 [.tmp 12] 41),
 some (.code c112 [] 38),
 some (.code c113 [.tmp 8,.tmp 9] 28),
 some (.code c114 [.tmp 10,.tmp 11] 32)]
noncomputable def tabt:Tab:=fun f=>(tabT[f]?).join
theorem tabT_ok:EntsOk Tryz.prog 0 tabT:=⟨trivial,trivial,fun2,fun3,fun4,fun5,fun6,fun7,fun8,fun9,fun10,fun11,fun12,fun13,fun14,fun15,fun16,fun17,fun18,fun19,fun20,fun21,fun22,fun23,fun24,fun25,fun26,fun27,fun28,fun29,fun30,fun31,fun32,fun33,fun34,fun35,fun36,fun37,fun38,fun39,fun40,fun41,fun42,fun43,fun44,fun45,fun46,fun47,fun48,fun49,fun50,fun51,fun52,fun53,fun54,fun55,fun56,fun57,fun58,fun59,fun60,fun61,fun62,fun63,fun64,fun65,fun66,fun67,fun68,fun69,fun70,fun71,fun72,fun73,fun74,fun75,fun76,fun77,fun78,fun79,fun80,fun81,fun82,fun83,fun84,fun85,fun86,fun87,fun88,fun89,fun90,fun91,fun92,fun93,fun94,fun95,fun96,fun97,fun98,fun99,fun100,fun101,fun102,fun103,fun104,fun105,fun106,fun107,fun108,fun109,fun110,fun111,fun112,fun113,fun114,trivial⟩
theorem tabt_ok:TabOk Tryz.prog tabt:=tabOk_of tabT_ok
end Go.Proofs.Tryz
namespace Go.Proofs.Tryz
open Go Go.V
def mA1:Memo:=⟨[.int .u64 1],[],.slice (some ⟨0,0,none⟩) 1 1,[⟨[.int .i64 0],⟨1,3⟩,false⟩]⟩
theorem mA1_ok:MemoOk Tryz.prog 51 mA1:=memo_run mixed tabt_ok 200 (by kernel_rfl) (by kernel_rfl)
def mA2:Memo:=⟨[.int .u64 2],[],.slice (some ⟨0,0,none⟩) 1 1,[⟨[.int .i64 1],⟨1,3⟩,false⟩]⟩
theorem mA2_ok:MemoOk Tryz.prog 51 mA2:=memo_run mixed tabt_ok 200 (by kernel_rfl) (by kernel_rfl)
def mA3:Memo:=⟨[.int .u64 3],[],.slice (some ⟨0,0,none⟩) 2 2,[⟨[.int .i64 0,.int .i64 1],⟨1,3⟩,false⟩]⟩
theorem mA3_ok:MemoOk Tryz.prog 51 mA3:=memo_run mixed tabt_ok 200 (by kernel_rfl) (by kernel_rfl)
def mA4:Memo:=⟨[.int .u64 4],[],.slice (some ⟨0,0,none⟩) 1 1,[⟨[.int .i64 2],⟨1,3⟩,false⟩]⟩
theorem mA4_ok:MemoOk Tryz.prog 51 mA4:=memo_run mixed tabt_ok 200 (by kernel_rfl) (by kernel_rfl)
def mA5:Memo:=⟨[.int .u64 5],[],.slice (some ⟨0,0,none⟩) 2 2,[⟨[.int .i64 0,.int .i64 2],⟨1,3⟩,false⟩]⟩
theorem mA5_ok:MemoOk Tryz.prog 51 mA5:=memo_run mixed tabt_ok 200 (by kernel_rfl) (by kernel_rfl)
def mA6:Memo:=⟨[.int .u64 6],[],.slice (some ⟨0,0,none⟩) 2 2,[⟨[.int .i64 1,.int .i64 2],⟨1,3⟩,false⟩]⟩
theorem mA6_ok:MemoOk Tryz.prog 51 mA6:=memo_run mixed tabt_ok 200 (by kernel_rfl) (by kernel_rfl)
def mA7:Memo:=⟨[.int .u64 7],[],.slice (some ⟨0,0,none⟩) 3 3,[⟨[.int .i64 0,.int .i64 1,.int .i64 2],⟨1,3⟩,false⟩]⟩
theorem mA7_ok:MemoOk Tryz.prog 51 mA7:=memo_run mixed tabt_ok 200 (by kernel_rfl) (by kernel_rfl)
def mA8:Memo:=⟨[.int .u64 8],[],.slice (some ⟨0,0,none⟩) 1 1,[⟨[.int .i64 3],⟨1,3⟩,false⟩]⟩
theorem mA8_ok:MemoOk Tryz.prog 51 mA8:=memo_run mixed tabt_ok 200 (by kernel_rfl) (by kernel_rfl)
def mA9:Memo:=⟨[.int .u64 9],[],.slice (some ⟨0,0,none⟩) 2 2,[⟨[.int .i64 0,.int .i64 3],⟨1,3⟩,false⟩]⟩
theorem mA9_ok:MemoOk Tryz.prog 51 mA9:=memo_run mixed tabt_ok 200 (by kernel_rfl) (by kernel_rfl)
def mA10:Memo:=⟨[.int .u64 10],[],.slice (some ⟨0,0,none⟩) 2 2,[⟨[.int .i64 1,.int .i64 3],⟨1,3⟩,false⟩]⟩
theorem mA10_ok:MemoOk Tryz.prog 51 mA10:=memo_run mixed tabt_ok 200 (by kernel_rfl) (by kernel_rfl)
def mA11:Memo:=⟨[.int .u64 11],[],.slice (some ⟨0,0,none⟩) 3 3,[⟨[.int .i64 0,.int .i64 1,.int .i64 3],⟨1,3⟩,false⟩]⟩
theorem mA11_ok:MemoOk Tryz.prog 51 mA11:=memo_run mixed tabt_ok 200 (by kernel_rfl) (by kernel_rfl)
def mA12:Memo:=⟨[.int .u64 12],[],.slice (some ⟨0,0,none⟩) 2 2,[⟨[.int .i64 2,.int .i64 3],⟨1,3⟩,false⟩]⟩
theorem mA12_ok:MemoOk Tryz.prog 51 mA12:=memo_run mixed tabt_ok 200 (by kernel_rfl) (by kernel_rfl)
def mA13:Memo:=⟨[.int .u64 13],[],.slice (some ⟨0,0,none⟩) 3 3,[⟨[.int .i64 0,.int .i64 2,.int .i64 3],⟨1,3⟩,false⟩]⟩
theorem mA13_ok:MemoOk Tryz.prog 51 mA13:=memo_run mixed tabt_ok 200 (by kernel_rfl) (by kernel_rfl)
def mA14:Memo:=⟨[.int .u64 14],[],.slice (some ⟨0,0,none⟩) 3 3,[⟨[.int .i64 1,.int .i64 2,.int .i64 3],⟨1,3⟩,false⟩]⟩
theorem mA14_ok:MemoOk Tryz.prog 51 mA14:=memo_run mixed tabt_ok 200 (by kernel_rfl) (by kernel_rfl)
def mA15:Memo:=⟨[.int .u64 15],[],.slice (some ⟨0,0,none⟩) 4 4,[⟨[.int .i64 0,.int .i64 1,.int .i64 2,.int .i64 3],⟨1,3⟩,false⟩]⟩
theorem mA15_ok:MemoOk Tryz.prog 51 mA15:=memo_run mixed tabt_ok 200 (by kernel_rfl) (by kernel_rfl)
end Go.Proofs.Tryz
namespace Go.Proofs.Tryz
open Go Go.V
def mL1_20:Memo:=⟨[.agg #[.slice (some ⟨0,0,none⟩) 4 4,.int .i64 20],.int .u64 1],[⟨[.int .i64 1,.int .i64 100,.int .i64 110,.int .i64 500,.int .i64 1,.int .i64 105,.int .i64 112,.int .i64 300,.int .i64 1,.int .i64 108,.int .i64 125,.int .i64 400,.int .i64 1,.int .i64 120,.int .i64 130,.int .i64 600],⟨4,74⟩,true⟩],.bool true,[]⟩
theorem mL1_20_ok:MemoOk Tryz.prog 63 mL1_20:=memo_run mixed tabt_ok 200 (by kernel_rfl) (by kernel_rfl)
def mL2_20:Memo:=⟨[.agg #[.slice (some ⟨0,0,none⟩) 4 4,.int .i64 20],.int .u64 2],[⟨[.int .i64 1,.int .i64 100,.int .i64 110,.int .i64 500,.int .i64 1,.int .i64 105,.int .i64 112,.int .i64 300,.int .i64 1,.int .i64 108,.int .i64 125,.int .i64 400,.int .i64 1,.int .i64 120,.int .i64 130,.int .i64 600],⟨4,74⟩,true⟩],.bool true,[]⟩
theorem mL2_20_ok:MemoOk Tryz.prog 63 mL2_20:=memo_run mixed tabt_ok 200 (by kernel_rfl) (by kernel_rfl)
def mL3_20:Memo:=⟨[.agg #[.slice (some ⟨0,0,none⟩) 4 4,.int .i64 20],.int .u64 3],[⟨[.int .i64 1,.int .i64 100,.int .i64 110,.int .i64 500,.int .i64 1,.int .i64 105,.int .i64 112,.int .i64 300,.int .i64 1,.int .i64 108,.int .i64 125,.int .i64 400,.int .i64 1,.int .i64 120,.int .i64 130,.int .i64 600],⟨4,74⟩,true⟩],.bool true,[]⟩
theorem mL3_20_ok:MemoOk Tryz.prog 63 mL3_20:=memo_run mixed tabt_ok 200 (by kernel_rfl) (by kernel_rfl)
def mL4_20:Memo:=⟨[.agg #[.slice (some ⟨0,0,none⟩) 4 4,.int .i64 20],.int .u64 4],[⟨[.int .i64 1,.int .i64 100,.int .i64 110,.int .i64 500,.int .i64 1,.int .i64 105,.int .i64 112,.int .i64 300,.int .i64 1,.int .i64 108,.int .i64 125,.int .i64 400,.int .i64 1,.int .i64 120,.int .i64 130,.int .i64 600],⟨4,74⟩,true⟩],.bool true,[]⟩
theorem mL4_20_ok:MemoOk Tryz.prog 63 mL4_20:=memo_run mixed tabt_ok 200 (by kernel_rfl) (by kernel_rfl)
def mL5_20:Memo:=⟨[.agg #[.slice (some ⟨0,0,none⟩) 4 4,.int .i64 20],.int .u64 5],[⟨[.int .i64 1,.int .i64 100,.int .i64 110,.int .i64 500,.int .i64 1,.int .i64 105,.int .i64 112,.int .i64 300,.int .i64 1,.int .i64 108,.int .i64 125,.int .i64 400,.int .i64 1,.int .i64 120,.int .i64 130,.int .i64 600],⟨4,74⟩,true⟩],.bool false,[]⟩
theorem mL5_20_ok:MemoOk Tryz.prog 63 mL5_20:=memo_run mixed tabt_ok 200 (by kernel_rfl) (by kernel_rfl)
def mL6_20:Memo:=⟨[.agg #[.slice (some ⟨0,0,none⟩) 4 4,.int .i64 20],.int .u64 6],[⟨[.int .i64 1,.int .i64 100,.int .i64 110,.int .i64 500,.int .i64 1,.int .i64 105,.int .i64 112,.int .i64 300,.int .i64 1,.int .i64 108,.int .i64 125,.int .i64 400,.int .i64 1,.int .i64 120,.int .i64 130,.int .i64 600],⟨4,74⟩,true⟩],.bool true,[]⟩
theorem mL6_20_ok:MemoOk Tryz.prog 63 mL6_20:=memo_run mixed tabt_ok 200 (by kernel_rfl) (by kernel_rfl)
def mL7_20:Memo:=⟨[.agg #[.slice (some ⟨0,0,none⟩) 4 4,.int .i64 20],.int .u64 7],[⟨[.int .i64 1,.int .i64 100,.int .i64 110,.int .i64 500,.int .i64 1,.int .i64 105,.int .i64 112,.int .i64 300,.int .i64 1,.int .i64 108,.int .i64 125,.int .i64 400,.int .i64 1,.int .i64 120,.int .i64 130,.int .i64 600],⟨4,74⟩,true⟩],.bool false,[]⟩
theorem mL7_20_ok:MemoOk Tryz.prog 63 mL7_20:=memo_run mixed tabt_ok 200 (by kernel_rfl) (by kernel_rfl)
def mL8_20:Memo:=⟨[.agg #[.slice (some ⟨0,0,none⟩) 4 4,.int .i64 20],.int .u64 8],[⟨[.int .i64 1,.int .i64 100,.int .i64 110,.int .i64 500,.int .i64 1,.int .i64 105,.int .i64 112,.int .i64 300,.int .i64 1,.int .i64 108,.int .i64 125,.int .i64 400,.int .i64 1,.int .i64 120,.int .i64 130,.int .i64 600],⟨4,74⟩,true⟩],.bool true,[]⟩
theorem mL8_20_ok:MemoOk Tryz.prog 63 mL8_20:=memo_run mixed tabt_ok 200 (by kernel_rfl) (by kernel_rfl)
def mL9_20:Memo:=⟨[.agg #[.slice (some ⟨0,0,none⟩) 4 4,.int .i64 20],.int .u64 9],[⟨[.int .i64 1,.int .i64 100,.int .i64 110,.int .i64 500,.int .i64 1,.int .i64 105,.int .i64 112,.int .i64 300,.int .i64 1,.int .i64 108,.int .i64 125,.int .i64 400,.int .i64 1,.int .i64 120,.int .i64 130,.int .i64 600],⟨4,74⟩,true⟩],.bool false,[]⟩
theorem mL9_20_ok:MemoOk Tryz.prog 63 mL9_20:=memo_run mixed tabt_ok 200 (by kernel_rfl) (by kernel_rfl)
def mL10_20:Memo:=⟨[.agg #[.slice (some ⟨0,0,none⟩) 4 4,.int .i64 20],.int .u64 10],[⟨[.int .i64 1,.int .i64 100,.int .i64 110,.int .i64 500,.int .i64 1,.int .i64 105,.int .i64 112,.int .i64 300,.int .i64 1,.int .i64 108,.int .i64 125,.int .i64 400,.int .i64 1,.int .i64 120,.int .i64 130,.int .i64 600],⟨4,74⟩,true⟩],.bool false,[]⟩
theorem mL10_20_ok:MemoOk Tryz.prog 63 mL10_20:=memo_run mixed tabt_ok 200 (by kernel_rfl) (by kernel_rfl)
def mL11_20:Memo:=⟨[.agg #[.slice (some ⟨0,0,none⟩) 4 4,.int .i64 20],.int .u64 11],[⟨[.int .i64 1,.int .i64 100,.int .i64 110,.int .i64 500,.int .i64 1,.int .i64 105,.int .i64 112,.int .i64 300,.int .i64 1,.int .i64 108,.int .i64 125,.int .i64 400,.int .i64 1,.int .i64 120,.int .i64 130,.int .i64 600],⟨4,74⟩,true⟩],.bool false,[]⟩
theorem mL11_20_ok:MemoOk Tryz.prog 63 mL11_20:=memo_run mixed tabt_ok 200 (by kernel_rfl) (by kernel_rfl)
def mL12_20:Memo:=⟨[.agg #[.slice (some ⟨0,0,none⟩) 4 4,.int .i64 20],.int .u64 12],[⟨[.int .i64 1,.int .i64 100,.int .i64 110,.int .i64 500,.int .i64 1,.int .i64 105,.int .i64 112,.int .i64 300,.int .i64 1,.int .i64 108,.int .i64 125,.int .i64 400,.int .i64 1,.int .i64 120,.int .i64 130,.int .i64 600],⟨4,74⟩,true⟩],.bool false,[]⟩
theorem mL12_20_ok:MemoOk Tryz.prog 63 mL12_20:=memo_run mixed tabt_ok 200 (by kernel_rfl) (by kernel_rfl)
def mL13_20:Memo:=⟨[.agg #[.slice (some ⟨0,0,none⟩) 4 4,.int .i64 20],.int .u64 13],[⟨[.int .i64 1,.int .i64 100,.int .i64 110,.int .i64 500,.int .i64 1,.int .i64 105,.int .i64 112,.int .i64 300,.int .i64 1,.int .i64 108,.int .i64 125,.int .i64 400,.int .i64 1,.int .i64 120,.int .i64 130,.int .i64 600],⟨4,74⟩,true⟩],.bool false,[]⟩
theorem mL13_20_ok:MemoOk Tryz.prog 63 mL13_20:=memo_run mixed tabt_ok 200 (by kernel_rfl) (by kernel_rfl)
def mL14_20:Memo:=⟨[.agg #[.slice (some ⟨0,0,none⟩) 4 4,.int .i64 20],.int .u64 14],[⟨[.int .i64 1,.int .i64 100,.int .i64 110,.int .i64 500,.int .i64 1,.int .i64 105,.int .i64 112,.int .i64 300,.int .i64 1,.int .i64 108,.int .i64 125,.int .i64 400,.int .i64 1,.int .i64 120,.int .i64 130,.int .i64 600],⟨4,74⟩,true⟩],.bool false,[]⟩
theorem mL14_20_ok:MemoOk Tryz.prog 63 mL14_20:=memo_run mixed tabt_ok 200 (by kernel_rfl) (by kernel_rfl)
def mL15_20:Memo:=⟨[.agg #[.slice (some ⟨0,0,none⟩) 4 4,.int .i64 20],.int .u64 15],[⟨[.int .i64 1,.int .i64 100,.int .i64 110,.int .i64 500,.int .i64 1,.int .i64 105,.int .i64 112,.int .i64 300,.int .i64 1,.int .i64 108,.int .i64 125,.int .i64 400,.int .i64 1,.int .i64 120,.int .i64 130,.int .i64 600],⟨4,74⟩,true⟩],.bool false,[]⟩
theorem mL15_20_ok:MemoOk Tryz.prog 63 mL15_20:=memo_run mixed tabt_ok 200 (by kernel_rfl) (by kernel_rfl)
def mL1_25:Memo:=⟨[.agg #[.slice (some ⟨0,0,none⟩) 4 4,.int .i64 25],.int .u64 1],[⟨[.int .i64 1,.int .i64 100,.int .i64 110,.int .i64 500,.int .i64 1,.int .i64 105,.int .i64 112,.int .i64 300,.int .i64 1,.int .i64 108,.int .i64 125,.int .i64 400,.int .i64 1,.int .i64 120,.int .i64 130,.int .i64 600],⟨4,74⟩,true⟩],.bool true,[]⟩
theorem mL1_25_ok:MemoOk Tryz.prog 63 mL1_25:=memo_run mixed tabt_ok 200 (by kernel_rfl) (by kernel_rfl)
def mL2_25:Memo:=⟨[.agg #[.slice (some ⟨0,0,none⟩) 4 4,.int .i64 25],.int .u64 2],[⟨[.int .i64 1,.int .i64 100,.int .i64 110,.int .i64 500,.int .i64 1,.int .i64 105,.int .i64 112,.int .i64 300,.int .i64 1,.int .i64 108,.int .i64 125,.int .i64 400,.int .i64 1,.int .i64 120,.int .i64 130,.int .i64 600],⟨4,74⟩,true⟩],.bool true,[]⟩
theorem mL2_25_ok:MemoOk Tryz.prog 63 mL2_25:=memo_run mixed tabt_ok 200 (by kernel_rfl) (by kernel_rfl)
def mL3_25:Memo:=⟨[.agg #[.slice (some ⟨0,0,none⟩) 4 4,.int .i64 25],.int .u64 3],[⟨[.int .i64 1,.int .i64 100,.int .i64 110,.int .i64 500,.int .i64 1,.int .i64 105,.int .i64 112,.int .i64 300,.int .i64 1,.int .i64 108,.int .i64 125,.int .i64 400,.int .i64 1,.int .i64 120,.int .i64 130,.int .i64 600],⟨4,74⟩,true⟩],.bool true,[]⟩
theorem mL3_25_ok:MemoOk Tryz.prog 63 mL3_25:=memo_run mixed tabt_ok 200 (by kernel_rfl) (by kernel_rfl)
def mL4_25:Memo:=⟨[.agg #[.slice (some ⟨0,0,none⟩) 4 4,.int .i64 25],.int .u64 4],[⟨[.int .i64 1,.int .i64 100,.int .i64 110,.int .i64 500,.int .i64 1,.int .i64 105,.int .i64 112,.int .i64 300,.int .i64 1,.int .i64 108,.int .i64 125,.int .i64 400,.int .i64 1,.int .i64 120,.int .i64 130,.int .i64 600],⟨4,74⟩,true⟩],.bool true,[]⟩
theorem mL4_25_ok:MemoOk Tryz.prog 63 mL4_25:=memo_run mixed tabt_ok 200 (by kernel_rfl) (by kernel_rfl)
def mL5_25:Memo:=⟨[.agg #[.slice (some ⟨0,0,none⟩) 4 4,.int .i64 25],.int .u64 5],[⟨[.int .i64 1,.int .i64 100,.int .i64 110,.int .i64 500,.int .i64 1,.int .i64 105,.int .i64 112,.int .i64 300,.int .i64 1,.int .i64 108,.int .i64 125,.int .i64 400,.int .i64 1,.int .i64 120,.int .i64 130,.int .i64 600],⟨4,74⟩,true⟩],.bool true,[]⟩
theorem mL5_25_ok:MemoOk Tryz.prog 63 mL5_25:=memo_run mixed tabt_ok 200 (by kernel_rfl) (by kernel_rfl)
def mL6_25:Memo:=⟨[.agg #[.slice (some ⟨0,0,none⟩) 4 4,.int .i64 25],.int .u64 6],[⟨[.int .i64 1,.int .i64 100,.int .i64 110,.int .i64 500,.int .i64 1,.int .i64 105,.int .i64 112,.int .i64 300,.int .i64 1,.int .i64 108,.int .i64 125,.int .i64 400,.int .i64 1,.int .i64 120,.int .i64 130,.int .i64 600],⟨4,74⟩,true⟩],.bool true,[]⟩
theorem mL6_25_ok:MemoOk Tryz.prog 63 mL6_25:=memo_run mixed tabt_ok 200 (by kernel_rfl) (by kernel_rfl)
def mL8_25:Memo:=⟨[.agg #[.slice (some ⟨0,0,none⟩) 4 4,.int .i64 25],.int .u64 8],[⟨[.int .i64 1,.int .i64 100,.int .i64 110,.int .i64 500,.int .i64 1,.int .i64 105,.int .i64 112,.int .i64 300,.int .i64 1,.int .i64 108,.int .i64 125,.int .i64 400,.int .i64 1,.int .i64 120,.int .i64 130,.int .i64 600],⟨4,74⟩,true⟩],.bool true,[]⟩
theorem mL8_25_ok:MemoOk Tryz.prog 63 mL8_25:=memo_run mixed tabt_ok 200 (by kernel_rfl) (by kernel_rfl)
def mL9_25:Memo:=⟨[.agg #[.slice (some ⟨0,0,none⟩) 4 4,.int .i64 25],.int .u64 9],[⟨[.int .i64 1,.int .i64 100,.int .i64 110,.int .i64 500,.int .i64 1,.int .i64 105,.int .i64 112,.int .i64 300,.int .i64 1,.int .i64 108,.int .i64 125,.int .i64 400,.int .i64 1,.int .i64 120,.int .i64 130,.int .i64 600],⟨4,74⟩,true⟩],.bool false,[]⟩
theorem mL9_25_ok:MemoOk Tryz.prog 63 mL9_25:=memo_run mixed tabt_ok 200 (by kernel_rfl) (by kernel_rfl)
def mL10_25:Memo:=⟨[.agg #[.slice (some ⟨0,0,none⟩) 4 4,.int .i64 25],.int .u64 10],[⟨[.int .i64 1,.int .i64 100,.int .i64 110,.int .i64 500,.int .i64 1,.int .i64 105,.int .i64 112,.int .i64 300,.int .i64 1,.int .i64 108,.int .i64 125,.int .i64 400,.int .i64 1,.int .i64 120,.int .i64 130,.int .i64 600],⟨4,74⟩,true⟩],.bool true,[]⟩
theorem mL10_25_ok:MemoOk Tryz.prog 63 mL10_25:=memo_run mixed tabt_ok 200 (by kernel_rfl) (by kernel_rfl)
def mL12_25:Memo:=⟨[.agg #[.slice (some ⟨0,0,none⟩) 4 4,.int .i64 25],.int .u64 12],[⟨[.int .i64 1,.int .i64 100,.int .i64 110,.int .i64 500,.int .i64 1,.int .i64 105,.int .i64 112,.int .i64 300,.int .i64 1,.int .i64 108,.int .i64 125,.int .i64 400,.int .i64 1,.int .i64 120,.int .i64 130,.int .i64 600],⟨4,74⟩,true⟩],.bool true,[]⟩
theorem mL12_25_ok:MemoOk Tryz.prog 63 mL12_25:=memo_run mixed tabt_ok 200 (by kernel_rfl) (by kernel_rfl)
def mL1_16:Memo:=⟨[.agg #[.slice (some ⟨0,0,none⟩) 4 4,.int .i64 16],.int .u64 1],[⟨[.int .i64 1,.int .i64 100,.int .i64 110,.int .i64 500,.int .i64 1,.int .i64 105,.int .i64 112,.int .i64 300,.int .i64 1,.int .i64 108,.int .i64 125,.int .i64 400,.int .i64 1,.int .i64 120,.int .i64 130,.int .i64 600],⟨4,74⟩,true⟩],.bool true,[]⟩
theorem mL1_16_ok:MemoOk Tryz.prog 63 mL1_16:=memo_run mixed tabt_ok 200 (by kernel_rfl) (by kernel_rfl)
def mL2_16:Memo:=⟨[.agg #[.slice (some ⟨0,0,none⟩) 4 4,.int .i64 16],.int .u64 2],[⟨[.int .i64 1,.int .i64 100,.int .i64 110,.int .i64 500,.int .i64 1,.int .i64 105,.int .i64 112,.int .i64 300,.int .i64 1,.int .i64 108,.int .i64 125,.int .i64 400,.int .i64 1,.int .i64 120,.int .i64 130,.int .i64 600],⟨4,74⟩,true⟩],.bool true,[]⟩
theorem mL2_16_ok:MemoOk Tryz.prog 63 mL2_16:=memo_run mixed tabt_ok 200 (by kernel_rfl) (by kernel_rfl)
def mL4_16:Memo:=⟨[.agg #[.slice (some ⟨0,0,none⟩) 4 4,.int .i64 16],.int .u64 4],[⟨[.int .i64 1,.int .i64 100,.int .i64 110,.int .i64 500,.int .i64 1,.int .i64 105,.int .i64 112,.int .i64 300,.int .i64 1,.int .i64 108,.int .i64 125,.int .i64 400,.int .i64 1,.int .i64 120,.int .i64 130,.int .i64 600],⟨4,74⟩,true⟩],.bool false,[]⟩
theorem mL4_16_ok:MemoOk Tryz.prog 63 mL4_16:=memo_run mixed tabt_ok 200 (by kernel_rfl) (by kernel_rfl)
def mL8_16:Memo:=⟨[.agg #[.slice (some ⟨0,0,none⟩) 4 4,.int .i64 16],.int .u64 8],[⟨[.int .i64 1,.int .i64 100,.int .i64 110,.int .i64 500,.int .i64 1,.int .i64 105,.int .i64 112,.int .i64 300,.int .i64 1,.int .i64 108,.int .i64 125,.int .i64 400,.int .i64 1,.int .i64 120,.int .i64 130,.int .i64 600],⟨4,74⟩,true⟩],.bool true,[]⟩
theorem mL8_16_ok:MemoOk Tryz.prog 63 mL8_16:=memo_run mixed tabt_ok 200 (by kernel_rfl) (by kernel_rfl)
end Go.Proofs.Tryz
namespace Go.Proofs.Tryz
open Go Go.V
def mG1:Memo:=⟨[.agg #[.slice (some ⟨0,0,none⟩) 4 4,.int .i64 20],.int .u64 1],[⟨[.int .i64 1,.int .i64 100,.int .i64 110,.int .i64 500,.int .i64 1,.int .i64 105,.int .i64 112,.int .i64 300,.int .i64 1,.int .i64 108,.int .i64 125,.int .i64 400,.int .i64 1,.int .i64 120,.int .i64 130,.int .i64 600],⟨4,74⟩,true⟩],.int .i64 500,[]⟩
theorem mG1_ok:MemoOk Tryz.prog 62 mG1:=memo_run mixed tabt_ok 200 (by kernel_rfl) (by kernel_rfl)
def mG2:Memo:=⟨[.agg #[.slice (some ⟨0,0,none⟩) 4 4,.int .i64 20],.int .u64 2],[⟨[.int .i64 1,.int .i64 100,.int .i64 110,.int .i64 500,.int .i64 1,.int .i64 105,.int .i64 112,.int .i64 300,.int .i64 1,.int .i64 108,.int .i64 125,.int .i64 400,.int .i64 1,.int .i64 120,.int .i64 130,.int .i64 600],⟨4,74⟩,true⟩],.int .i64 300,[]⟩
theorem mG2_ok:MemoOk Tryz.prog 62 mG2:=memo_run mixed tabt_ok 200 (by kernel_rfl) (by kernel_rfl)
def mG3:Memo:=⟨[.agg #[.slice (some ⟨0,0,none⟩) 4 4,.int .i64 20],.int .u64 3],[⟨[.int .i64 1,.int .i64 100,.int .i64 110,.int .i64 500,.int .i64 1,.int .i64 105,.int .i64 112,.int .i64 300,.int .i64 1,.int .i64 108,.int .i64 125,.int .i64 400,.int .i64 1,.int .i64 120,.int .i64 130,.int .i64 600],⟨4,74⟩,true⟩],.int .i64 800,[]⟩
theorem mG3_ok:MemoOk Tryz.prog 62 mG3:=memo_run mixed tabt_ok 200 (by kernel_rfl) (by kernel_rfl)
def mG4:Memo:=⟨[.agg #[.slice (some ⟨0,0,none⟩) 4 4,.int .i64 20],.int .u64 4],[⟨[.int .i64 1,.int .i64 100,.int .i64 110,.int .i64 500,.int .i64 1,.int .i64 105,.int .i64 112,.int .i64 300,.int .i64 1,.int .i64 108,.int .i64 125,.int .i64 400,.int .i64 1,.int .i64 120,.int .i64 130,.int .i64 600],⟨4,74⟩,true⟩],.int .i64 400,[]⟩
theorem mG4_ok:MemoOk Tryz.prog 62 mG4:=memo_run mixed tabt_ok 200 (by kernel_rfl) (by kernel_rfl)
def mG5:Memo:=⟨[.agg #[.slice (some ⟨0,0,none⟩) 4 4,.int .i64 20],.int .u64 5],[⟨[.int .i64 1,.int .i64 100,.int .i64 110,.int .i64 500,.int .i64 1,.int .i64 105,.int .i64 112,.int .i64 300,.int .i64 1,.int .i64 108,.int .i64 125,.int .i64 400,.int .i64 1,.int .i64 120,.int .i64 130,.int .i64 600],⟨4,74⟩,true⟩],.int .i64 900,[]⟩
theorem mG5_ok:MemoOk Tryz.prog 62 mG5:=memo_run mixed tabt_ok 200 (by kernel_rfl) (by kernel_rfl)
def mG6:Memo:=⟨[.agg #[.slice (some ⟨0,0,none⟩) 4 4,.int .i64 20],.int .u64 6],[⟨[.int .i64 1,.int .i64 100,.int .i64 110,.int .i64 500,.int .i64 1,.int .i64 105,.int .i64 112,.int .i64 300,.int .i64 1,.int .i64 108,.int .i64 125,.int .i64 400,.int .i64 1,.int .i64 120,.int .i64 130,.int .i64 600],⟨4,74⟩,true⟩],.int .i64 700,[]⟩
theorem mG6_ok:MemoOk Tryz.prog 62 mG6:=memo_run mixed tabt_ok 200 (by kernel_rfl) (by kernel_rfl)
def mG7:Memo:=⟨[.agg #[.slice (some ⟨0,0,none⟩) 4 4,.int .i64 20],.int .u64 7],[⟨[.int .i64 1,.int .i64 100,.int .i64 110,.int .i64 500,.int .i64 1,.int .i64 105,.int .i64 112,.int .i64 300,.int .i64 1,.int .i64 108,.int .i64 125,.int .i64 400,.int .i64 1,.int .i64 120,.int .i64 130,.int .i64 600],⟨4,74⟩,true⟩],.int .i64 1200,[]⟩
theorem mG7_ok:MemoOk Tryz.prog 62 mG7:=memo_run mixed tabt_ok 200 (by kernel_rfl) (by kernel_rfl)
def mG8:Memo:=⟨[.agg #[.slice (some ⟨0,0,none⟩) 4 4,.int .i64 20],.int .u64 8],[⟨[.int .i64 1,.int .i64 100,.int .i64 110,.int .i64 500,.int .i64 1,.int .i64 105,.int .i64 112,.int .i64 300,.int .i64 1,.int .i64 108,.int .i64 125,.int .i64 400,.int .i64 1,.int .i64 120,.int .i64 130,.int .i64 600],⟨4,74⟩,true⟩],.int .i64 600,[]⟩
theorem mG8_ok:MemoOk Tryz.prog 62 mG8:=memo_run mixed tabt_ok 200 (by kernel_rfl) (by kernel_rfl)
def mG9:Memo:=⟨[.agg #[.slice (some ⟨0,0,none⟩) 4 4,.int .i64 20],.int .u64 9],[⟨[.int .i64 1,.int .i64 100,.int .i64 110,.int .i64 500,.int .i64 1,.int .i64 105,.int .i64 112,.int .i64 300,.int .i64 1,.int .i64 108,.int .i64 125,.int .i64 400,.int .i64 1,.int .i64 120,.int .i64 130,.int .i64 600],⟨4,74⟩,true⟩],.int .i64 1100,[]⟩
theorem mG9_ok:MemoOk Tryz.prog 62 mG9:=memo_run mixed tabt_ok 200 (by kernel_rfl) (by kernel_rfl)
def mG10:Memo:=⟨[.agg #[.slice (some ⟨0,0,none⟩) 4 4,.int .i64 20],.int .u64 10],[⟨[.int .i64 1,.int .i64 100,.int .i64 110,.int .i64 500,.int .i64 1,.int .i64 105,.int .i64 112,.int .i64 300,.int .i64 1,.int .i64 108,.int .i64 125,.int .i64 400,.int .i64 1,.int .i64 120,.int .i64 130,.int .i64 600],⟨4,74⟩,true⟩],.int .i64 900,[]⟩
theorem mG10_ok:MemoOk Tryz.prog 62 mG10:=memo_run mixed tabt_ok 200 (by kernel_rfl) (by kernel_rfl)
def mG11:Memo:=⟨[.agg #[.slice (some ⟨0,0,none⟩) 4 4,.int .i64 20],.int .u64 11],[⟨[.int .i64 1,.int .i64 100,.int .i64 110,.int .i64 500,.int .i64 1,.int .i64 105,.int .i64 112,.int .i64 300,.int .i64 1,.int .i64 108,.int .i64 125,.int .i64 400,.int .i64 1,.int .i64 120,.int .i64 130,.int .i64 600],⟨4,74⟩,true⟩],.int .i64 1400,[]⟩
theorem mG11_ok:MemoOk Tryz.prog 62 mG11:=memo_run mixed tabt_ok 200 (by kernel_rfl) (by kernel_rfl)
def mG12:Memo:=⟨[.agg #[.slice (some ⟨0,0,none⟩) 4 4,.int .i64 20],.int .u64 12],[⟨[.int .i64 1,.int .i64 100,.int .i64 110,.int .i64 500,.int .i64 1,.int .i64 105,.int .i64 112,.int .i64 300,.int .i64 1,.int .i64 108,.int .i64 125,.int .i64 400,.int .i64 1,.int .i64 120,.int .i64 130,.int .i64 600],⟨4,74⟩,true⟩],.int .i64 1000,[]⟩
theorem mG12_ok:MemoOk Tryz.prog 62 mG12:=memo_run mixed tabt_ok 200 (by kernel_rfl) (by kernel_rfl)
def mG13:Memo:=⟨[.agg #[.slice (some ⟨0,0,none⟩) 4 4,.int .i64 20],.int .u64 13],[⟨[.int .i64 1,.int .i64 100,.int .i64 110,.int .i64 500,.int .i64 1,.int .i64 105,.int .i64 112,.int .i64 300,.int .i64 1,.int .i64 108,.int .i64 125,.int .i64 400,.int .i64 1,.int .i64 120,.int .i64 130,.int .i64 600],⟨4,74⟩,true⟩],.int .i64 1500,[]⟩
theorem mG13_ok:MemoOk Tryz.prog 62 mG13:=memo_run mixed tabt_ok 200 (by kernel_rfl) (by kernel_rfl)
def mG14:Memo:=⟨[.agg #[.slice (some ⟨0,0,none⟩) 4 4,.int .i64 20],.int .u64 14],[⟨[.int .i64 1,.int .i64 100,.int .i64 110,.int .i64 500,.int .i64 1,.int .i64 105,.int .i64 112,.int .i64 300,.int .i64 1,.int .i64 108,.int .i64 125,.int .i64 400,.int .i64 1,.int .i64 120,.int .i64 130,.int .i64 600],⟨4,74⟩,true⟩],.int .i64 1300,[]⟩
theorem mG14_ok:MemoOk Tryz.prog 62 mG14:=memo_run mixed tabt_ok 200 (by kernel_rfl) (by kernel_rfl)
def mG15:Memo:=⟨[.agg #[.slice (some ⟨0,0,none⟩) 4 4,.int .i64 20],.int .u64 15],[⟨[.int .i64 1,.int .i64 100,.int .i64 110,.int .i64 500,.int .i64 1,.int .i64 105,.int .i64 112,.int .i64 300,.int .i64 1,.int .i64 108,.int .i64 125,.int .i64 400,.int .i64 1,.int .i64 120,.int .i64 130,.int .i64 600],⟨4,74⟩,true⟩],.int .i64 1800,[]⟩
theorem mG15_ok:MemoOk Tryz.prog 62 mG15:=memo_run mixed tabt_ok 200 (by kernel_rfl) (by kernel_rfl)
end Go.Proofs.Tryz
namespace Go.Proofs.Tryz
open Go Go.V
def memos1:List Memo:=[mA1,mA2,mA3,mA4,mA5,mA6,mA7,mA8,mA9,mA10,mA11,mA12,mA13,mA14,mA15]
theorem memos1_ok:∀ m ∈ memos1,MemoOk Tryz.prog 51 m:=by
 intro m hm
 simp only [memos1,List.mem_cons,List.not_mem_nil,or_false] at hm
 rcases hm with rfl | rfl | rfl | rfl | rfl | rfl | rfl | rfl | rfl | rfl | rfl | rfl | rfl | rfl | rfl
 ·exact mA1_ok
 ·exact mA2_ok
 ·exact mA3_ok
 ·exact mA4_ok
 ·exact mA5_ok
 ·exact mA6_ok
 ·exact mA7_ok
 ·exact mA8_ok
 ·exact mA9_ok
 ·exact mA10_ok
 ·exact mA11_ok
 ·exact mA12_ok
 ·exact mA13_ok
 ·exact mA14_ok
 ·exact mA15_ok
def memos2:List Memo:=[mL1_20,mL2_20,mL3_20,mL4_20,mL5_20,mL6_20,mL7_20,mL8_20,mL9_20,mL10_20,mL11_20,mL12_20,mL13_20,mL14_20,mL15_20,mL1_25,mL2_25,mL3_25,mL4_25,mL5_25,mL6_25,mL8_25,mL9_25,mL10_25,mL12_25,mL1_16,mL2_16,mL4_16,mL8_16]
theorem memos2_ok:∀ m ∈ memos2,MemoOk Tryz.prog 63 m:=by
 intro m hm
 simp only [memos2,List.mem_cons,List.not_mem_nil,or_false] at hm
 rcases hm with rfl | rfl | rfl | rfl | rfl | rfl | rfl | rfl | rfl | rfl | rfl | rfl | rfl | rfl | rfl | rfl | rfl | rfl | rfl | rfl | rfl | rfl | rfl | rfl | rfl | rfl | rfl | rfl | rfl
 ·exact mL1_20_ok
 ·exact mL2_20_ok
 ·exact mL3_20_ok
 ·exact mL4_20_ok
 ·exact mL5_20_ok
 ·exact mL6_20_ok
 ·exact mL7_20_ok
 ·exact mL8_20_ok
 ·exact mL9_20_ok
 ·exact mL10_20_ok
 ·exact mL11_20_ok
 ·exact mL12_20_ok
 ·exact mL13_20_ok
 ·exact mL14_20_ok
 ·exact mL15_20_ok
 ·exact mL1_25_ok
 ·exact mL2_25_ok
 ·exact mL3_25_ok
 ·exact mL4_25_ok
 ·exact mL5_25_ok
 ·exact mL6_25_ok
 ·exact mL8_25_ok
 ·exact mL9_25_ok
 ·exact mL10_25_ok
 ·exact mL12_25_ok
 ·exact mL1_16_ok
 ·exact mL2_16_ok
 ·exact mL4_16_ok
 ·exact mL8_16_ok
def memos3:List Memo:=[mG1,mG2,mG3,mG4,mG5,mG6,mG7,mG8,mG9,mG10,mG11,mG12,mG13,mG14,mG15]
theorem memos3_ok:∀ m ∈ memos3,MemoOk Tryz.prog 62 m:=by
 intro m hm
 simp only [memos3,List.mem_cons,List.not_mem_nil,or_false] at hm
 rcases hm with rfl | rfl | rfl | rfl | rfl | rfl | rfl | rfl | rfl | rfl | rfl | rfl | rfl | rfl | rfl
 ·exact mG1_ok
 ·exact mG2_ok
 ·exact mG3_ok
 ·exact mG4_ok
 ·exact mG5_ok
 ·exact mG6_ok
 ·exact mG7_ok
 ·exact mG8_ok
 ·exact mG9_ok
 ·exact mG10_ok
 ·exact mG11_ok
 ·exact mG12_ok
 ·exact mG13_ok
 ·exact mG14_ok
 ·exact mG15_ok
noncomputable def tabL:List (Option FEnt):=[
 none,
 none,
 some (.code c2 [] 1),
 some (.code c3 [.tmp 4] 125),
 some (.code c4 [.tmp 4] 115),
 some (.code c5 [.tmp 4] 139),
 some (.code c6 [.tmp 0] 193),
 some (.code c7 [.tmp 2] 6),
 some (.code c8 [.tmp 2] 6),
 some (.code c9 [.tmp 2] 10),
 some (.codeJ c10 [.cell 4 true 2,.tmp 5] 52),
 some (.code c11 [.tmp 4] 26),
 some (.code c12 [.tmp 4] 26),
 some (.code c13 [.tmp 2] 44),
 some (.code c14 [.tmp 6] 15),
 some (.code c15 [.cell 4 true 2] 51),
 some (.code c16 [.tmp 2] 6),
 some (.codeJ c17 [.tmp 4,.tmp 5] 23),
 some (.code c18 [.tmp 6] 41),
 some (.codeJ c19 [.cell 6 true 2,.tmp 7,.tmp 8] 37),
 some (.code c20 [.tmp 2,.tmp 3,.tmp 4,.tmp 5,.tmp 6] 105),
 some (.codeJ c21 [.cell 8 true 2,.tmp 9] 103),
 some (.code c22 [.cell 10 true 2,.tmp 11] 97),
 some (.code c23 [.tmp 0] 10),
 some (.codeJ c24 [.tmp 4,.tmp 5] 15),
 some (.codeJ c25 [.tmp 4,.tmp 5] 18),
 some (.codeJ c26 [.tmp 6,.tmp 7] 29),
 some (.codeJ c27 [.tmp 4,.tmp 5,.tmp 6] 73),
 some (.code c28 [.tmp 2] 9),
 some (.code c29 [.cell 4 true 2] 8),
 some (.code c30 [.tmp 4] 9),
 some (.code c31 [.tmp 2] 6),
 some (.code c32 [.tmp 2] 32),
 some (.code c33 [.tmp 6] 11),
 some (.code c34 [.cell 2 true 2] 61),
 some (.code c35 [.tmp 4] 20),
 some (.code c36 [.tmp 4] 20),
 some (.code c37 [.cell 6 true 3,.tmp 7] 33),
 some (.code c38 [.tmp 4] 26),
 some (.code c39 [.tmp 4] 17),
 some (.codeJ c40 [.tmp 2,.tmp 3] 41),
 some (.code c41 [.cell 0 true 2] 2),
 some (.code c42 [.tmp 2] 4),
 some (.code c43 [.cell 6 true 2] 44),
 some (.code c44 [.cell 4 true 2] 16),
 some (.code c45 [.cell 4 true 2] 17),
 some (.code c46 [.tmp 4,.tmp 5,.tmp 6] 29),
 some (.code c47 [.cell 4 true 2,.tmp 5] 21),
 some (.code c48 [.tmp 2] 13),
 some (.codeJ c49 [.tmp 4,.tmp 5] 62),
 some (.code c50 [.tmp 4] 63),
 some (.codeM c51 [.tmp 2] 15 memos1),
 some (.codeJ c52 [.tmp 6] 21),
 some (.code c53 [.tmp 4] 19),
 some (.code c54 [.tmp 4] 9),
 some (.code c55 [.tmp 4] 13),
 some (.code c56 [.tmp 2] 15),
 some (.code c57 [.tmp 4] 9),
 some (.code c58 [.cell 6 true 2] 44),
 some (.code c59 [] 19),
 some (.codeJ c60 [.tmp 2] 16),
 some (.code c61 [.tmp 2,.tmp 3] 64),
 some (.codeM c62 [.tmp 4] 24 memos3),
 some (.codeM c63 [.tmp 4] 38 memos2),
 some (.code c64 [.tmp 2] 18),
 some (.code c65 [.tmp 4] 20),
 some (.code c66 [.tmp 4] 36),
 some (.code c67 [.tmp 2] 8),
 some (.code c68 [.tmp 4] 19),
 some (.code c69 [.tmp 4] 19),
 some (.code c70 [] 9),
 some (.code c71 [.tmp 5] 36),
 some (.code c72 [] 11),
 some (.code c73 [] 14),
 some (.code c74 [.tmp 3] 11),
 some (.code c75 [.tmp 2] 6),
 some (.code c76 [.tmp 2] 14),
 some (.code c77 [.tmp 2] 14),
 some (.code c78 [] 63),
 some (.code c79 [] 134),
 some (.code c80 [.tmp 2] 8),
 some (.code c81 [] 148),
 some (.code c82 [] 53),
 some (.code c83 [] 220),
 some (.code c84 [] 49),
 some (.code c85 [] 56),
 some (.code c86 [] 65),
 some (.code c87 [.tmp 6,.tmp 7] 57),
 some (.code c88 [] 32),
 some (.code c89 [.tmp 6] 133),
 some (.code c90 [.tmp 4] 17),
 some (.code c91 [.tmp 8] 84),
 some (.code c92 [.tmp 8,.tmp 9] 168),
 some (.code c93 [.tmp 2] 19),
 some (.code c94 [.tmp 2] 25),
 some (.code c95 [] 53),
 some (.code c96 [] 60),
 some (.code c97 [] 67),
 some (.code c98 [.tmp 8,.tmp 9] 63),
 some (.code c99 [] 34),
 some (.code c100 [.tmp 8] 141),
 some (.code c101 [.tmp 10] 90),
 some (.code c102 [.tmp 10,.tmp 11] 178),
 some (.code c103 [] 58),
 some (.code c104 [] 76),
 some (.code c105 [.tmp 2] 7),
 some (.code c106 [.tmp 2] 33),
 some (.code c107 [.tmp 6] 15),
 some (.code c108 [.tmp 10] 36),
 some (.code c109 [] 82),
 some (.code c110 [.tmp 8] 18),
 some (.code c111 [.tmp 12] 41),
 some (.code c112 [] 38),
 some (.code c113 [.tmp 8,.tmp 9] 28),
 some (.code c114 [.tmp 10,.tmp 11] 32)]
noncomputable def tab:Tab:=fun f=>(tabL[f]?).join
theorem tabL_ok:EntsOk Tryz.prog 0 tabL:=⟨trivial,trivial,fun2,fun3,fun4,fun5,fun6,fun7,fun8,fun9,fun10,fun11,fun12,fun13,fun14,fun15,fun16,fun17,fun18,fun19,fun20,fun21,fun22,fun23,fun24,fun25,fun26,fun27,fun28,fun29,fun30,fun31,fun32,fun33,fun34,fun35,fun36,fun37,fun38,fun39,fun40,fun41,fun42,fun43,fun44,fun45,fun46,fun47,fun48,fun49,fun50,⟨fun51,memos1_ok⟩,fun52,fun53,fun54,fun55,fun56,fun57,fun58,fun59,fun60,fun61,⟨fun62,memos3_ok⟩,⟨fun63,memos2_ok⟩,fun64,fun65,fun66,fun67,fun68,fun69,fun70,fun71,fun72,fun73,fun74,fun75,fun76,fun77,fun78,fun79,fun80,fun81,fun82,fun83,fun84,fun85,fun86,fun87,fun88,fun89,fun90,fun91,fun92,fun93,fun94,fun95,fun96,fun97,fun98,fun99,fun100,fun101,fun102,fun103,fun104,fun105,fun106,fun107,fun108,fun109,fun110,fun111,fun112,fun113,fun114,trivial⟩
theorem tab_ok:TabOk Tryz.prog tab:=tabOk_of tabL_ok
theorem known_run:veval tab 300 boolOps [] c6 none (ET.of [] 193) CH.empty (eend false [.tmp 0] fun v _=>isTrue v)=true:=by kernel_rfl
theorem known_ok {σ:Heap} {K:Value→Heap→Prop} (hK:K (.bool true) σ):VCalled Tryz.prog 6 [] σ K:=run_true mixed tab_ok 300 fun6 (by decide) known_run hK
end Go.Proofs.Tryz
set_option linter.unusedVariables false
namespace Go.Proofs.Tryz
open Go Go.V Go.Proofs
def al_law09_known:AL (Unit):=.nil
def pre_law09_known (d:Unit):Prop:=True
def res_law09_known (d:Unit):SV:=.val .bo true
def obs_law09_known (d:Unit):List OB:=[]
def s_law09_known:CSp:=mkSp al_law09_known pre_law09_known res_law09_known obs_law09_known
abbrev Ok_law09_known:Prop:=OkC Tryz.prog 6 s_law09_known
theorem ok_law09_known:Ok_law09_known:=okC_true fun _ _ h=>known_ok h
end Go.Proofs.Tryz
set_option linter.unusedVariables false
namespace Go.Proofs.Tryz
open Go Go.V Go.Proofs
def al_ref09_In:AL (Int × Int × Int):=(.cons (.k (.i .i64)) (.cons (.k (.i .i64)) (.one (.k (.i .i64)))))
def pre_ref09_In (d:Int × Int × Int):Prop:=True
def res_ref09_In (d:Int × Int × Int):SV:=.val .bo (inI d.1 d.2.1 d.2.2)
def obs_ref09_In (d:Int × Int × Int):List OB:=[]
def s_ref09_In:CSp:=mkSp al_ref09_In pre_ref09_In res_ref09_In obs_ref09_In
def vc_ref09_In (n:Int) (a:Int) (b:Int):Prop :=
 (((decide (n ≥ a)) && (decide (n ≤ b)))=(inI n a b)∧(True))
def cx_ref09_In:Cx:=⟨[],[],15,[],0,[],[],[],[],false,[],[],[]⟩
def lp_ref09_In (n:Int) (a:Int) (b:Int):List (Nat × LoopAnn):=[]
set_option maxRecDepth 100000 in
theorem vq_ref09_In (d:Int × Int × Int):gwp (cx_ref09_In) (lp_ref09_In d.1 d.2.1 d.2.2) c14 0 (gend [.tmp 6] (res_ref09_In d) (obs_ref09_In d)) (gstart 15 (AL.can al_ref09_In d))=vc_ref09_In d.1 d.2.1 d.2.2:=by kernel_rfl
abbrev Ok_ref09_In:Prop:=OkC Tryz.prog 14 s_ref09_In
theorem mk_ref09_In (h:∀ (n:Int) (a:Int) (b:Int),(True)→vc_ref09_In n a b):OkC Tryz.prog 14 s_ref09_In :=
 okC_vc fun14 mixed (C:=cx_ref09_In) (V:=fun (d:Int × Int × Int)=>vc_ref09_In d.1 d.2.1 d.2.2) ⟨.nil,XsOk.nil,ItsOk.nil,YlOk.nil,IysOk.nil⟩ (vq_ref09_In) fun d hp=>h d.1 d.2.1 d.2.2 hp
theorem ok_ref09_In:Ok_ref09_In:=mk_ref09_In fun n a b _=>by
 simp [vc_ref09_In,inI]
def al_ref09_Entries:AL (Int × Int × List (Int × Int)):=(.cons (.k (.i .i64)) (.cons (.k (.i .i64)) (.one (.k (.list (.pair (.i .i64) (.i .i64)))))))
def pre_ref09_Entries (d:Int × Int × List (Int × Int)):Prop:=d.2.2.length ≤ 1000
def res_ref09_Entries (d:Int × Int × List (Int × Int)):SV:=.val (.i .i64) (entErr d.1 d.2.1 d.2.2)
def obs_ref09_Entries (d:Int × Int × List (Int × Int)):List OB:=[]
def s_ref09_Entries:CSp:=mkSp al_ref09_Entries pre_ref09_Entries res_ref09_Entries obs_ref09_Entries
def vc_ref09_Entries (g:Int) (s:Int) (l:List (Int × Int)):Prop :=
 (True)∧((!(inI g (1:Int) (1000000:Int)))=false→True)∧(((!(inI g (1:Int) (1000000:Int))) || (!(inI s (0:Int) (1000:Int))))=true →
  ((2:Int)=(entErr g s l)∧(True))) ∧
 (((!(inI g (1:Int) (1000000:Int))) || (!(inI s (0:Int) (1000:Int))))=false →
  ((decide ((lI l) > (40:Int)))=true →
   ((5:Int)=(entErr g s l)∧(True))) ∧
  ((decide ((lI l) > (40:Int)))=false →
   ∃ (e2:Unit) (d20:Int),((l=l∧(0:Int)=d20∧True)∧(True)) ∧
   LoopP (fun (d2:Int) (q2:(Int)→Prop) =>
    ((decide (d2 < (lI l)))=true →
     (0 ≤ d2)∧(d2 < (List.length l))∧(True)∧((!(inI ((gD l d2 (0,0)).1) (1:Int) (3:Int)))=false→0 ≤ d2)∧((!(inI ((gD l d2 (0,0)).1) (1:Int) (3:Int)))=false→d2 < (List.length l))∧((!(inI ((gD l d2 (0,0)).1) (1:Int) (3:Int)))=false→True)∧(((!(inI ((gD l d2 (0,0)).1) (1:Int) (3:Int))) || (!(inI ((gD l d2 (0,0)).2) (0:Int) (12000000:Int))))=true →
      ((2:Int)=(entErr g s l)∧(True))) ∧
     (((!(inI ((gD l d2 (0,0)).1) (1:Int) (3:Int))) || (!(inI ((gD l d2 (0,0)).2) (0:Int) (12000000:Int))))=false →
      (I64 (d2 + (1:Int)))∧(∃ d3:Int,((l=l∧(d2 + (1:Int))=d3∧True)∧(True))∧q2 d3))) ∧
    ((decide (d2 < (lI l)))=false →
     ((0:Int)=(entErr g s l)∧(True)))) d20))
def cx_ref09_Entries:Cx:=⟨[],[(14,s_ref09_In)],41,[],0,[],[],[],[],false,[],[],[]⟩
def lp_ref09_Entries (g:Int) (s:Int) (l:List (Int × Int)):List (Nat × LoopAnn):=[(0,⟨Unit,Int,[2,7],fun e x=>[.val (.list (.pair (.i .i64) (.i .i64))) l,.val (.i .i64) x],fun e x=>[]⟩)]
set_option maxRecDepth 100000 in
theorem vq_ref09_Entries (d:Int × Int × List (Int × Int)):gwp (cx_ref09_Entries) (lp_ref09_Entries d.1 d.2.1 d.2.2) c18 0 (gend [.tmp 6] (res_ref09_Entries d) (obs_ref09_Entries d)) (gstart 41 (AL.can al_ref09_Entries d))=vc_ref09_Entries d.1 d.2.1 d.2.2:=by kernel_rfl
abbrev Ok_ref09_Entries:Prop:=OkC Tryz.prog 18 s_ref09_Entries
theorem mk_ref09_Entries (h:∀ (g:Int) (s:Int) (l:List (Int × Int)),(l.length ≤ 1000)→vc_ref09_Entries g s l):OkC Tryz.prog 18 s_ref09_Entries :=
 okC_vc fun18 mixed (C:=cx_ref09_Entries) (V:=fun (d:Int × Int × List (Int × Int))=>vc_ref09_Entries d.1 d.2.1 d.2.2) ⟨(.cons ok_ref09_In .nil),XsOk.nil,ItsOk.nil,YlOk.nil,IysOk.nil⟩ (vq_ref09_Entries) fun d hp=>h d.1 d.2.1 d.2.2 hp
theorem ok_ref09_Entries:Ok_ref09_Entries:=mk_ref09_Entries fun g s l hl=>by
 unfold vc_ref09_Entries; (try delta lI gD sT I64)
 (try simp only [decide_eq_true_eq,decide_eq_false_iff_not])
 refine ⟨trivial,fun _=>trivial,fun h1=>⟨?_,trivial⟩,fun h1=>⟨fun h2=>⟨?_,trivial⟩,fun h2=>⟨(),0,(by and_intros <;> first | rfl | trivial | simp),?_⟩⟩⟩
 ·unfold entErr; rw [if_pos h1]
 ·unfold entErr; rw [if_neg (by rw [h1]; decide),if_pos (by omega)]
 refine LoopP.count l.length (fun k=>∀ j,j < k→(!inI (l.getD j (0,0)).1 1 3 || !inI (l.getD j (0,0)).2 0 12000000)=false) (fun j hj=>by omega) fun k hk hJ q hq=>?_
 simp only [Int.toNat_natCast]
 refine ⟨fun hlt=>⟨by omega,hlt,trivial,fun _=>by omega,fun _=>hlt,fun _=>trivial,fun hx=>⟨?_,trivial⟩,fun hx=>⟨by rw [InK_i64]; omega,_,(by and_intros <;> first | rfl | trivial | simp),hq (by omega) fun j hj=>?_⟩⟩,fun hge=>⟨?_,trivial⟩⟩
 ·have hkl:k < l.length:=by omega
  rw [getD_nat hkl] at hx
  unfold entErr; rw [if_neg (by rw [h1]; decide),if_neg (by omega),if_pos (List.any_eq_true.2 ⟨_,List.getElem_mem hkl,hx⟩)]
 ·rcases Nat.lt_succ_iff_lt_or_eq.1 hj with hj | rfl
  ·exact hJ j hj
  ·exact hx
 ·have hf:(l.any fun x=>!inI x.1 1 3 || !inI x.2 0 12000000)=false:=by
   rw [List.any_eq_false]
   intro x hx
   obtain ⟨i,hi,rfl⟩:=List.getElem_of_mem hx
   have:=hJ i (by omega)
   rw [getD_nat hi] at this
   rw [this]; decide
  unfold entErr; rw [if_neg (by rw [h1]; decide),if_neg (by omega),hf,if_neg (by decide)]
def al_law09_ShadeScales:AL (Int × List (Int × Int)):=(.cons (.k (.i .i64)) (.one (.k (.list (.pair (.i .i64) (.i .i64))))))
def pre_law09_ShadeScales (d:Int × List (Int × Int)):Prop:=True
def res_law09_ShadeScales (d:Int × List (Int × Int)):SV:=.val .bo true
def obs_law09_ShadeScales (d:Int × List (Int × Int)):List OB:=[]
def s_law09_ShadeScales:CSp:=mkSp al_law09_ShadeScales pre_law09_ShadeScales res_law09_ShadeScales obs_law09_ShadeScales
def vc_law09_ShadeScales (g:Int) (l:List (Int × Int)):Prop :=
 ((decide ((lI l) > (50:Int)))=true →
  (True)∧(true=true∧(True))) ∧
 ((decide ((lI l) > (50:Int)))=false →
  (l.length ≤ 1000)∧(l.length ≤ 1000)∧∃ (e3:Unit) (d30:Int),((g=g∧l=l∧True∧(scaleV g l)=(scaleV g l)∧(scaleErr g l)=(scaleErr g l)∧(0:Int)=d30∧True)∧((l=l∧false=false)∧True)) ∧
  LoopP (fun (d3:Int) (q3:(Int)→Prop) =>
   ((decide (d3 < (lI l)))=true →
    (0 ≤ d3)∧(d3 < (List.length l))∧(0 ≤ d3)∧(d3 < (List.length l))∧((!(((gD l d3 (0,0)).1 == (gD l d3 (0,0)).1) && ((gD l d3 (0,0)).2 == (gD l d3 (0,0)).2)))=true →
     (false=true∧(True))) ∧
    ((!(((gD l d3 (0,0)).1 == (gD l d3 (0,0)).1) && ((gD l d3 (0,0)).2 == (gD l d3 (0,0)).2)))=false →
     (I64 (d3 + (1:Int)))∧(∃ d4:Int,((g=g∧l=l∧True∧(scaleV g l)=(scaleV g l)∧(scaleErr g l)=(scaleErr g l)∧(d3 + (1:Int))=d4∧True)∧((l=l∧false=false)∧True))∧q3 d4))) ∧
   ((decide (d3 < (lI l)))=false →
    (l.length ≤ 1000)∧(((entErr g (0:Int) l) != (0:Int))=true →
     ((((scaleErr g l) == (entErr g (0:Int) l)) && ((scaleV g l) == (0:Int)))=true→True)∧(((((scaleErr g l) == (entErr g (0:Int) l)) && ((scaleV g l) == (0:Int))) && true)=true∧(True))) ∧
    (((entErr g (0:Int) l) != (0:Int))=false →
     (((scaleErr g l) != (0:Int))=true →
      (l.length ≤ 1000)∧(((((scaleErr g l) == (90:Int)) && ((scaleV g l) == (0:Int))) && ((bookErr g (1000:Int) l) == (90:Int)))=true→True)∧((((((scaleErr g l) == (90:Int)) && ((scaleV g l) == (0:Int))) && ((bookErr g (1000:Int) l) == (90:Int))) && true)=true∧(True))) ∧
     (((scaleErr g l) != (0:Int))=false →
      (((decide ((scaleV g l) < (0:Int))) || (decide ((scaleV g l) > (1000:Int))))=true →
       (false=true∧(True))) ∧
      (((decide ((scaleV g l) < (0:Int))) || (decide ((scaleV g l) > (1000:Int))))=false →
       (l.length ≤ 1000)∧((decide ((scaleV g l) > (0:Int)))=true →
        (I64 ((scaleV g l) - (1:Int)))∧(l.length ≤ 1000)∧(((bookErr g ((scaleV g l) - (1:Int)) l) != (90:Int))=true →
         (false=true∧(True))) ∧
        (((bookErr g ((scaleV g l) - (1:Int)) l) != (90:Int))=false →
         (((bookErr g (scaleV g l) l) == (0:Int))=true→True)∧((((bookErr g (scaleV g l) l) == (0:Int)) && true)=true∧(True)))) ∧
       ((decide ((scaleV g l) > (0:Int)))=false →
        (((bookErr g (scaleV g l) l) == (0:Int))=true→True)∧((((bookErr g (scaleV g l) l) == (0:Int)) && true)=true∧(True)))))))) d30)
def cx_law09_ShadeScales:Cx:=⟨[],[(6,s_law09_known),(16,s_law09_entries),(17,s_shade_Scale),(18,s_ref09_Entries),(19,s_shade_Book)],115,[],0,[],[],[],[],false,[],[],[]⟩
def lp_law09_ShadeScales (g:Int) (l:List (Int × Int)):List (Nat × LoopAnn):=[(0,⟨Unit,Int,[0,1,5,6,7,8],fun e x=>[.val (.i .i64) g,.val (.list (.pair (.i .i64) (.i .i64))) l,.lst 24,.val (.i .i64) (scaleV g l),.val (.i .i64) (scaleErr g l),.val (.i .i64) x],fun e x=>[(24,.slot 5,.lst 44 (.pair (.i .i64) (.i .i64)) l false)]⟩)]
set_option maxRecDepth 100000 in
theorem vq_law09_ShadeScales (d:Int × List (Int × Int)):gwp (cx_law09_ShadeScales) (lp_law09_ShadeScales d.1 d.2) c4 0 (gend [.tmp 4] (res_law09_ShadeScales d) (obs_law09_ShadeScales d)) (gstart 115 (AL.can al_law09_ShadeScales d))=vc_law09_ShadeScales d.1 d.2:=by kernel_rfl
abbrev Ok_law09_ShadeScales:Prop:=OkC Tryz.prog 4 s_law09_ShadeScales
theorem mk_law09_ShadeScales (h:∀ (g:Int) (l:List (Int × Int)),(True)→vc_law09_ShadeScales g l):OkC Tryz.prog 4 s_law09_ShadeScales :=
 okC_vc fun4 mixed (C:=cx_law09_ShadeScales) (V:=fun (d:Int × List (Int × Int))=>vc_law09_ShadeScales d.1 d.2) ⟨(.cons ok_law09_known (.cons ok_law09_entries (.cons ok_shade_Scale (.cons ok_ref09_Entries (.cons ok_shade_Book .nil))))),XsOk.nil,ItsOk.nil,YlOk.nil,IysOk.nil⟩ (vq_law09_ShadeScales) fun d hp=>h d.1 d.2 hp
theorem ok_law09_ShadeScales:Ok_law09_ShadeScales:=mk_law09_ShadeScales fun g l _=>by
 unfold vc_law09_ShadeScales; (try delta lI gD sT I64)
 simp only [beq_self_eq_true,Bool.and_self,Bool.and_true,decide_eq_true_eq,decide_eq_false_iff_not,bne_iff_ne,bne_eq_false_iff_eq,ne_eq,Bool.or_eq_true,Bool.or_eq_false_iff]
 refine ⟨fun _=>(by and_intros <;> first | rfl | trivial | simp),fun hle=>⟨by omega,by omega,(),0,(by and_intros <;> first | rfl | trivial | simp),?_⟩⟩
 refine LoopP.count l.length (fun _=>True) trivial fun k hk _ q hq=>⟨fun hlt=>⟨by omega,hlt,by omega,hlt,fun h=>by simp at h,fun _=>⟨by rw [InK_i64]; omega,_,(by and_intros <;> first | rfl | trivial | simp),hq (by omega) trivial⟩⟩,fun hge=>?_⟩
 have hE:entErr g 0 l ≠ 0→scaleErr g l=entErr g 0 l∧scaleV g l=0:=fun h=>by
  have a:scaleErr g l=entErr g 0 l:=by unfold scaleErr; rw [if_pos h]
  exact ⟨a,by unfold scaleV; rw [a,if_neg h]⟩
 refine ⟨by omega,fun h1=>?_,fun h1=>⟨fun h2=>?_,fun h2=>?_⟩⟩
 ·obtain ⟨a,b⟩:=hE h1
  rw [a,b]; simp
 ·obtain ⟨a,b⟩:=(scale_law h1).1 h2
  have c:scaleV g l=0:=by unfold scaleV; rw [if_neg h2]
  rw [a,b,c]; simp; omega
 ·obtain ⟨a,b,c,d⟩:=(scale_law h1).2 h2
  have e:scaleV g l=scaleN g l:=by unfold scaleV; rw [if_pos h2]
  rw [e]
  refine ⟨fun h3=>by omega,fun h3=>⟨by omega,fun h4=>⟨by rw [InK_i64]; omega,by omega,fun h5=>(h5 (d h4)).elim,fun _=>?_⟩,fun _=>?_⟩⟩ <;> rw [c] <;> simp
end Go.Proofs.Tryz