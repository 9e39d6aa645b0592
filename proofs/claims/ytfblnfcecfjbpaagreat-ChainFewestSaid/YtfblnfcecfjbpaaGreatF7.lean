/- A framework for walks, contracts of functions, and their proofs: part 7. -/
import Derived.Test.YtfblnfcecfjbpaaGreatF6J
noncomputable section
set_option linter.unusedVariables false
set_option maxRecDepth 100000
namespace Go.Proofs.Tryz
open Go Go.V Go.Proofs
def JS (hk:Int) (cs:List VQ) (cl:List Int) (fa:Int):List Int :=
 ((List.range cs.length).map λ(a:Nat)=>(a:Int)).filter λa=>(List.range (fa.toNat+1)).any λf=>!(wyK cs.length fa.toNat (λk=>wvB hk cs cl k) cl.length (a,(f:Int))==0)
theorem TT {hk:Int}{cs:List VQ}{cl:List Int}{fa:Int}(hn:0<cs.length) {a:Int}:a∈JS hk cs cl fa<->∃ f,wyK cs.length fa.toNat (λk=>wvB hk cs cl k) cl.length (a,f)≠0:=by
 unfold JS;rw[zy,zq,xi];constructor
 .rintro⟨_,f,_,h⟩;exact⟨(f:Int),by simpa using h⟩
 .rintro⟨f,h⟩;have hg:=Xv.1 (RW _ _ _ hn _ _ h);dsimp only at hg;refine⟨⟨a.toNat,zr.2 (by omega),by omega⟩,f.toNat,zr.2 (by omega),?_⟩;rw[show ((f.toNat:Nat):Int)=f by omega];simpa using h
theorem Dq (hk:Int) (cs:List VQ) (cl:List Int) (fa:Int):(JS hk cs cl fa).Pairwise (·<·):=by
 unfold JS;refine List.Pairwise.filter _ (xI.2 (List.pairwise_lt_range.imp λh=>by omega))
theorem DU:∀ {l m:List Int},l.Pairwise (·<·)->m.Pairwise (·<·)->(∀ x,x∈l<->x∈m)->l=m
 |[],[],_,_,_=>rfl
 |[],y::m,_,_,h=>by have:=(h y).2 (ze ..);cases this
 |x::l,[],_,_,h=>by have:=(h x).1 (ze ..);cases this
 |x::l,y::m,hl,hm,h=>by
  rw[xw] at hl hm;have e:x=y:=by
   rcases zf.1 ((h x).1 (ze ..)) with e|e
   .exact e
   .rcases zf.1 ((h y).2 (ze ..)) with e2|e2
    .exact e2.symm
    .have:=hm.1 x e;have:=hl.1 y e2;omega
  subst e;have:l=m:=DU hl.2 hm.2 λz=>by
   have hz:=h z;rw[zf,zf] at hz;constructor
   .intro ft;rcases hz.1 (.inr ft) with e|e
    .have:=hl.1 z ft;omega
    .exact e
   .intro sB;rcases hz.2 (.inr sB) with e|e
    .have:=hm.1 z sB;omega
    .exact e
  rw[this]
theorem SI (k:Int):∀ (m:List (Int×Bool)),(m.map (·.1)).Nodup->((UI (.i .i64) m k true).map (·.1)).Nodup/\∀ x,x∈(UI (.i .i64) m k true).map (·.1)<->x=k\/x∈m.map (·.1)
 |[],_=>⟨List.pairwise_singleton _ _,λx=>by show x∈[k]<->_;simp⟩
 |(a,b)::m,hn=>by
  rw[zF,zU] at hn;obtain⟨h1,h2⟩:=SI k m hn.2;by_cases hk:k=a
  .subst hk;have e:UI (.i .i64) ((k,b)::m) k true=(k,true)::m:=by
    show (if gq.keq (.i .i64) k k=true then (k,true)::m else _)=_;rw[z0 (show gq.keq (.i .i64) k k=true from by show ((k:Int)==k)=true;simp)]
   rw[e,zF,zF];refine⟨zU.2 hn,λx=>?_⟩;simp only[zf];constructor
   .rintro (h|h)
    .exact .inl h
    .exact .inr (.inr h)
   .rintro (h|h|h)
    .exact .inl h
    .exact .inl h
    .exact .inr h
  .have e:UI (.i .i64) ((a,b)::m) k true=(a,b)::UI (.i .i64) m k true:=by
    show (if gq.keq (.i .i64) k a=true then _ else (a,b)::UI (.i .i64) m k true)=_;rw[z1 (show ¬ gq.keq (.i .i64) k a=true from λh=>hk (by have h:((k:Int)==a)=true:=h;exact eq_of_beq h))]
   rw[e,zF,zF];refine⟨zU.2 ⟨λhm=>?_,h1⟩,λx=>?_⟩
   .rcases (h2 a).1 hm with h|h
    .exact hk h.symm
    .exact hn.1 h
   .rw[zf,h2 x,zf];constructor
    .rintro (h|h|h)
     .exact .inr (.inl h)
     .exact .inl h
     .exact .inr (.inr h)
    .rintro (h|h|h)
     .exact .inr (.inl h)
     .exact .inl h
     .exact .inr (.inr h)
theorem TO {α:Type}[BEq α] [LawfulBEq α]:∀ {l m:List α},l.Nodup->(∀ x∈l,x∈m)->l.length<=m.length
 |[],_,_,_=>Nat.zero_le _
 |x::l,m,hn,hs=>by rw[zU] at hn;have hx:x∈m:=hs x (ze ..);have:=TO (l:=l) (m:=m.erase x) hn.2 λy hy=>(List.mem_erase_of_ne (by rintro rfl;exact hn.1 hy)).2 (hs y (z9 _ hy));rw[List.length_erase_of_mem hx] at this;have:=List.length_pos_of_mem hx;rw[zP];omega
theorem LoopP.rng2 {X:Type}{F:List Nat×X->(List Nat×X->Prop)->Prop}(n:Nat) (J:X->List Nat->Prop) {x0:X}(h0:J x0 [])
  (hr:∀ (x:X) (dn:List Nat),dn.Nodup->(∀ r∈dn,r<n)->J x dn->∀ q:List Nat×X->Prop,(∀ (r:Nat) (x':X),r<n->r∉dn->J x' (dn++[r])->q (dn++[r],x'))->F (dn,x) q):LoopP F ([],x0):=by
 refine⟨λd=>d.1.Nodup/\(∀ r∈d.1,r<n)/\J d.2 d.1,λd=>n-d.1.length,⟨List.nodup_nil,(λr hr=>by cases hr),h0⟩,λ⟨dn,x⟩ ⟨h1,h2,h3⟩=>?_⟩;have h1:dn.Nodup:=h1;have h2:∀ r∈dn,r<n:=h2;refine hr x dn h1 h2 h3 _ λr x' ah fY hJ=>?_;have hn:=Dy h1 fY;have hb:∀ y∈dn++[r],y<n:=λy hy=>by
  rcases zu.1 hy with h|h
  .exact h2 y h
  .rw[z8] at h;omega
 refine⟨⟨hn,hb,hJ⟩,?_⟩;have:=Mg hn (m:=List.range n) λy hy=>zr.2 (hb y hy);rw[wh,zB,xy] at this;have e:(dn++[r]).length=dn.length+1:=by simp
 show n-(dn++[r]).length<n-dn.length;omega
def KeyW (n:Nat) (m:List ((Int×Int)×Int)) (x:List (Int×Bool)) (dn:List Nat):Prop:=(x.map (·.1)).Nodup/\∀ a,a∈x.map (·.1)<->∃ r∈dn,(m.getD r ((0,0),0)).1.1=a
theorem KeyW.snoc {n:Nat}{m:List ((Int×Int)×Int)}{x:List (Int×Bool)}{dn:List Nat}(h:KeyW n m x dn) (r:Nat):KeyW n m (UI (.i .i64) x (m.getD r ((0,0),0)).1.1 true) (dn++[r]):=by
 obtain⟨h1,h2⟩:=SI (m.getD r ((0,0),0)).1.1 x h.1;refine⟨h1,λa=>?_⟩;rw[h2 a,h.2 a];constructor
 .rintro (rfl|⟨s,hs,rfl⟩)
  .exact⟨r,by simp,rfl⟩
  .exact⟨s,xr _ hs,rfl⟩
 .rintro⟨s,hs,rfl⟩;rcases zu.1 hs with hs|hs
  .exact .inr ⟨s,hs,rfl⟩
  .rw[z8] at hs;subst hs;exact .inl rfl
theorem KeyW.len {n mo:Nat}{m:List ((Int×Int)×Int)}{W:Int×Int->Int}(hm:MapW n mo m W) {x:List (Int×Bool)}{dn:List Nat}(ah:∀ r∈dn,r<m.length) (h:KeyW n m x dn):x.length<=n:=by
 have:=TO (l:=x.map (·.1)) (m:=(List.range n).map λ(a:Nat)=>(a:Int)) h.1 λa ha=>by
  obtain⟨r,hr,rfl⟩:=(h.2 a).1 ha;have dm:=ah r hr;rw[Qg dm];have hg:=Xv.1 (hm.2.1 _ (zn dm)).2.2;exact zq.2 ⟨(m[r].1.1).toNat,zr.2 (by omega),by omega⟩
 simpa using this
theorem KeyW.all {hk:Int}{cs:List VQ}{cl:List Int}{fa:Int}(hn:0<cs.length) {m:List ((Int×Int)×Int)}(hm:MapW cs.length fa.toNat m (wyK cs.length fa.toNat (λk=>wvB hk cs cl k) cl.length)) {x:List (Int×Bool)}{dn:List Nat}(ah:∀ r∈dn,r<m.length) (h:KeyW cs.length m x dn) (ae:∀ r,r<m.length->r∈dn) (a:Int):a∈x.map (·.1)<->a∈JS hk cs cl fa:=by
 rw[h.2 a,TT hn];constructor
 .rintro⟨r,hr,rfl⟩;have dm:=ah r hr;rw[Qg dm];have he:=hm.2.1 _ (zn dm);refine⟨m[r].1.2,?_⟩;have:(m[r].1.1,m[r].1.2)=m[r].1:=rfl;rw[this,<-he.1];omega
 .rintro⟨f,hf⟩;obtain⟨e,he,hq⟩:=hm.2.2 (a,f) hf;obtain⟨r,hr,rfl⟩:=List.getElem_of_mem he;exact⟨r,ae r hr,by rw[Qg hr,hq]⟩
theorem KeyW.sorted {hk:Int}{cs:List VQ}{cl:List Int}{fa:Int}(hn:0<cs.length) {m:List ((Int×Int)×Int)}(hm:MapW cs.length fa.toNat m (wyK cs.length fa.toNat (λk=>wvB hk cs cl k) cl.length)) {x:List (Int×Bool)}{dn:List Nat}(ah:∀ r∈dn,r<m.length) (h:KeyW cs.length m x dn) (ae:∀ r,r<m.length->r∈dn)
  {d2:List Nat}(pP:d2.Nodup) (kY:∀ r∈d2,r<x.length) (rC:∀ r,r<x.length->r∈d2):Th Yk (d2.map λr=>(x.getD r (0,false)).1) 0 (d2.map λr=>(x.getD r (0,false)).1).length=JS hk cs cl fa:=by
 have hx:∀ r,r<x.length->(x.getD r (0,false)).1=(x.map (·.1)).getD r 0:=λr hr=>by
  rw[Qg hr,Qg (by simpa using hr),xF]
 have oZ:(d2.map λr=>(x.getD r (0,false)).1).Nodup:=xI.2 (List.Pairwise.imp_of_mem (λ{a b} ha hb av e=>by
  rw[hx a (kY a ha),hx b (kY b hb)] at e;have la:a<(x.map (·.1)).length:=by simpa using kY a ha
  have lb:b<(x.map (·.1)).length:=by simpa using kY b hb
  rw[Qg la,Qg lb] at e;exact av ((List.getElem_inj h.1).1 e)) pP)
 refine DU (Z39 oZ) (Dq ..) λz=>?_;rw[(D5 (f:=Yk) (a:=0) (z5 _)).mem_iff,<-KeyW.all hn hm ah h ae z,zq,zq];constructor
 .rintro⟨r,hr,rfl⟩;have:=kY r hr;exact⟨x[r],zn this,by rw[Qg this]⟩
 .rintro⟨e,he,rfl⟩;obtain⟨r,hr,rfl⟩:=List.getElem_of_mem he;exact⟨r,rC r hr,by rw[Qg hr]⟩
def MP:AL ((Int×List (Int×Int×Bool))×List Int×Int):=(.cons (.agg (.cons (.k (.i .i64)) (.one (.k (.list (.pair (.i .i64) (.pair (.i .i64) .bo))))))) (.cons (.k (.list (.i .i64))) (.one (.k (.i .i64)))))
def HT (d:(Int×List (Int×Int×Bool))×List Int×Int):Prop:=QQ d.1.1 d.1.2=0/\d.2.1.length<=60/\(∀ r∈d.2.1,-1<=r/\r<2 ^ d.1.1.toNat)/\0<=d.2.2/\d.2.2<=6/\d.1.2.length<=12
def NG (d:(Int×List (Int×Int×Bool))×List Int×Int):SV:=.tup [.lst 0,.val (.i .i64) (0:Int)]
def Ni (d:(Int×List (Int×Int×Bool))×List Int×Int):List OB:=[.lst 3 (.i .i64) (JS d.1.1 d.1.2 d.2.1 d.2.2) ((JS d.1.1 d.1.2 d.2.1 d.2.2).isEmpty)]
def Uq:CSp:=N2 MP HT NG Ni
abbrev Pn:=λ(iR:List (Int×Bool)) (jR:List Nat) mz (jj:List Value) (jk:Int) (mA:Bool) (o4:List ((Int×Int)×Int)) (mB:List Nat) (o5:List Value) (mC:List Value) (iS:LpD) (gV:List Int) (jS:_->Prop)=>(( ∃ pQ:( List Nat )×( List Int ) ,( ( True/\True/\True )/\( ( iR=iR/\( jR++[ mz ] )=pQ.1 )/\( jj=jj/\( True/\True/\True/\True/\True/\True/\True/\True/\True/\jk=jk/\True/\True/\True/\True/\True/\True/\True/\True/\True/\True/\True/\True/\True/\mA=mA/\True/\True/\True/\True/\True/\True/\( ( ( ( [ ]:List SV )=[ ] ) )/\( True/\( ( [ ]:List SV )=[ ] ) ) )/\True/\True/\( ( [ ]:List SV )=[ ] ) ) )/\( o4=o4/\mB=mB )/\( True/\( ( [ ]:List SV )=[ ] ) )/\( o5=o5/\( ( ( ( ( [ ]:List SV )=[ ] ) )/\( True/\( ( [ ]:List SV )=[ ] ) ) )/\True/\True/\True/\( ( ( ( [ ]:List SV )=[ ] ) )/\( True/\( ( [ ]:List SV )=[ ] ) ) )/\True/\True/\True/\True/\( ( [ ]:List SV )=[ ] ) ) )/\( mC=mC/\( ( ( ( ( [ ]:List SV )=[ ] ) )/\( True/\( ( [ ]:List SV )=[ ] ) ) )/\True/\True/\( ( ( ( [ ]:List SV )=[ ] ) )/\( True/\( ( [ ]:List SV )=[ ] ) ) )/\True/\( ( [ ]:List SV )=[ ] ) ) )/\( iS=iS/\( True/\( ( ( ( [ ]:List SV )=[ ] ) )/\( True/\( ( [ ]:List SV )=[ ] ) ) )/\True/\True/\True/\True/\( ( ( ( [ ]:List SV )=[ ] ) )/\( True/\( ( [ ]:List SV )=[ ] ) ) )/\True/\True/\True/\True/\True/\True/\( ( [ ]:List SV )=[ ] ) ) )/\( True/\( ( [ ]:List SV )=[ ] ) )/\( ( gV++[ ( List.getD iR ( List.getLastD ( jR++[ mz ] ) 0 ) ( 0 ,false ) ).1 ] )=pQ.2/\false=( List.isEmpty pQ.2 ) )/\True ) )/\jS pQ ):Prop)
abbrev PE:=λ(hk:Int) (cs:List (Int×Int×Bool)) (cl:List Int) (fa:Int) (iR:List Nat) (jR:LpD) (mz:LpD) (jj:List Int) (jk:List (Int×Bool)) (mA:List Value) (o4:List Value) (mB:List Value) (o5:List Value) (mC:List Value) (iS:List Value) (gV:Int) (jS:Bool) (o6:List ((Int×Int)×Int)) (o7:List Nat) (rD:_->Prop) (o8:Nat)=>(( false=true->( iR≠[ ] )/\jR=mz/\∀ sC:List Value ,( ( ( List.length jj )+( List.length [ ( List.getD jk ( List.getLastD iR 0 ) ( 0 ,false ) ).1 ] ) )*8<=70368744177664 )/\sC=sC/\jR=mz/\( ( ! true )=true->jR=mz/\mA=o4/\mB=o5/\( ( jj++[ ( List.getD jk ( List.getLastD iR 0 ) ( 0 ,false ) ).1 ] ).length<=12 )/\mC=iS/\( ( True/\gV=( 0:Int )/\( ( [ ]:List SV )=[ ] ) )/\( ( ( Th Yk ( jj++[ ( List.getD jk ( List.getLastD iR 0 ) ( 0 ,false ) ).1 ] ) 0 ( jj++[ ( List.getD jk ( List.getLastD iR 0 ) ( 0 ,false ) ).1 ] ).length )=( JS hk cs cl fa )/\false=( JS hk cs cl fa ).isEmpty )/\True ) ) )/\( ( ! true )=false->( ∃ pR:( List Nat )×( List Int ) ,( ( True/\True/\True )/\( ( jk=jk/\iR=pR.1 )/\( mC=mC/\( True/\True/\True/\True/\True/\True/\True/\True/\True/\gV=gV/\True/\True/\True/\True/\True/\True/\True/\True/\True/\True/\True/\True/\True/\jS=jS/\True/\True/\True/\True/\True/\True/\( ( ( ( [ ]:List SV )=[ ] ) )/\( True/\( ( [ ]:List SV )=[ ] ) ) )/\True/\True/\( ( [ ]:List SV )=[ ] ) ) )/\( o6=o6/\o7=o7 )/\( True/\( ( [ ]:List SV )=[ ] ) )/\( mB=mB/\( ( ( ( ( [ ]:List SV )=[ ] ) )/\( True/\( ( [ ]:List SV )=[ ] ) ) )/\True/\True/\True/\( ( ( ( [ ]:List SV )=[ ] ) )/\( True/\( ( [ ]:List SV )=[ ] ) ) )/\True/\True/\True/\True/\( ( [ ]:List SV )=[ ] ) ) )/\( mA=mA/\( ( ( ( ( [ ]:List SV )=[ ] ) )/\( True/\( ( [ ]:List SV )=[ ] ) ) )/\True/\True/\( ( ( ( [ ]:List SV )=[ ] ) )/\( True/\( ( [ ]:List SV )=[ ] ) ) )/\True/\( ( [ ]:List SV )=[ ] ) ) )/\( jR=jR/\( True/\( ( ( ( [ ]:List SV )=[ ] ) )/\( True/\( ( [ ]:List SV )=[ ] ) ) )/\True/\True/\True/\True/\( ( ( ( [ ]:List SV )=[ ] ) )/\( True/\( ( [ ]:List SV )=[ ] ) ) )/\True/\True/\True/\True/\True/\True/\( ( [ ]:List SV )=[ ] ) ) )/\( True/\( ( [ ]:List SV )=[ ] ) )/\( ( jj++[ ( List.getD jk ( List.getLastD iR 0 ) ( 0 ,false ) ).1 ] )=pR.2/\false=( List.isEmpty pR.2 ) )/\True ) )/\rD pR ) ) )/\( false=false->jR=mz/\mA=o4/\mB=o5/\( o8<=12 )/\mC=iS/\( ( True/\gV=( 0:Int )/\( ( [ ]:List SV )=[ ] ) )/\( ( ( Th Yk jj 0 o8 )=( JS hk cs cl fa )/\( List.isEmpty jj )=( JS hk cs cl fa ).isEmpty )/\True ) ) ):Prop)
abbrev YH :=(((([]:List SV)=[]))/\(True/\(([]:List SV)=[])))
abbrev Rk :=(True/\YH/\True/\True/\True/\True/\YH/\True/\True/\True/\True/\True/\True/\(([]:List SV)=[]))
abbrev S9 :=(YH/\True/\True/\True/\YH/\True/\True/\True/\True/\(([]:List SV)=[]))
abbrev Hj :=((0:Int)=(0:Int)/\True/\True/\True)
abbrev Dd :=(True/\(([]:List SV)=[]))
abbrev Sa :=(YH/\True/\True/\YH/\True/\(([]:List SV)=[]))
def Yc (hk:Int) (cs:List (Int × Int × Bool)) (cl:List Int) (fa:Int):Prop :=
  (QQ hk cs = 0 /\ cl.length <= 60 /\ (∀ r ∈ cl, -1 <= r /\ r < 2 ^ hk.toNat) /\ 0 <= fa /\ fa <= 6) /\ (∀ m1:List ((Int × Int) × Int), (MapW cs.length fa.toNat m1 (wyK cs.length fa.toNat (λk => wvB hk cs cl k) cl.length)) -> ∃ (e4:(List ((Int × Int) × Int))) (d40:(List (Int × Bool)) × (List Nat)), (Hj /\ ((([]:List (Int × Bool)) = d40.1) /\ (m1 = e4 /\ ([]:List Nat) = d40.2) /\ True)) /\
  LoopP (λ(d4:(List (Int × Bool)) × (List Nat)) (q4:((List (Int × Bool)) × (List Nat)) -> Prop) =>
    ((∀ r:Nat, r < (List.length e4) -> r ∈ d4.2) ->
      (false = true ->
        (d4.2 ≠ []) /\ (∃ d6:(List (Int × Bool)) × (List Nat), (Hj /\ (((UI (.i .i64) d4.1 (List.getD e4 (List.getLastD d4.2 0) ((0, 0), 0)).1.1 true) = d6.1) /\ (e4 = e4 /\ d4.2 = d6.2) /\ True)) /\ q4 d6)) /\
      (false = false ->
        ∀ w7:List Value, w7 = w7 /\ ∀ w8:List Value, ∀ w9:List Value, ∀ m8:List Value, ∀ kZ:LpD, ∃ (bJ:(List (Int × Bool)) × Int × (List ((Int × Int) × Int)) × (List Nat) × Bool × (List Value) × (List Value) × (List Value) × LpD) (d150:(List Nat) × (List Int)), ((True /\ True /\ True) /\ ((d4.1 = bJ.1 /\ ([]:List Nat) = d150.1) /\ ((pj4 bJ).2.1 = w8 /\ (True /\ True /\ True /\ True /\ True /\ True /\ True /\ True /\ True /\ (0:Int) = bJ.2.1 /\ True /\ True /\ True /\ True /\ True /\ True /\ True /\ True /\ True /\ True /\ True /\ True /\ True /\ false = (pj4 bJ).1 /\ True /\ True /\ True /\ True /\ True /\ True /\ YH /\ True /\ True /\ (([]:List SV) = []))) /\ (e4 = bJ.2.2.1 /\ d4.2 = bJ.2.2.2.1) /\ Dd /\ ((pj4 bJ).2.2.1 = w9 /\ S9) /\ ((pj4 bJ).2.2.2.1 = m8 /\ Sa) /\ ((pj8 bJ) = kZ /\ Rk) /\ Dd /\ (d150.2 = [] /\ (List.isEmpty d150.2) = true) /\ True)) /\
        LoopP (λ(d15:(List Nat) × (List Int)) (sD:((List Nat) × (List Int)) -> Prop) =>
          ((∀ r:Nat, r < (List.length bJ.1) -> r ∈ d15.1) ->
             (PE hk cs cl fa d15.1 (pj8 bJ) kZ d15.2 bJ.1 (pj4 bJ).2.2.2.1 m8 (pj4 bJ).2.2.1 w9 (pj4 bJ).2.1 w8 bJ.2.1 (pj4 bJ).1 bJ.2.2.1 bJ.2.2.2.1 sD d15.2.length)) /\
          (∀ k_:Nat, k_ < (List.length bJ.1) -> k_ ∉ d15.1 ->
            (true = true ->
              ((d15.1 ++ [k_]) ≠ []) /\ (pj8 bJ) = kZ /\ ∀ sE:List Value, (((List.length d15.2) + (List.length [(List.getD bJ.1 (List.getLastD (d15.1 ++ [k_]) 0) (0, false)).1])) * 8 <= 70368744177664) /\ sE = sE /\ (pj8 bJ) = kZ /\ ((!true) = true ->
                (pj8 bJ) = kZ /\ (pj4 bJ).2.2.2.1 = m8 /\ (pj4 bJ).2.2.1 = w9 /\ ((d15.2 ++ [(List.getD bJ.1 (List.getLastD (d15.1 ++ [k_]) 0) (0, false)).1]).length <= 12) /\ (pj4 bJ).2.1 = w8 /\ ((True /\ bJ.2.1 = (0:Int) /\ (([]:List SV) = [])) /\ (((Th Yk (d15.2 ++ [(List.getD bJ.1 (List.getLastD (d15.1 ++ [k_]) 0) (0, false)).1]) 0 (d15.2 ++ [(List.getD bJ.1 (List.getLastD (d15.1 ++ [k_]) 0) (0, false)).1]).length) = (JS hk cs cl fa) /\ false = (JS hk cs cl fa).isEmpty) /\ True))) /\
              ((!true) = false ->
                 (Pn bJ.1 d15.1 k_ (pj4 bJ).2.1 bJ.2.1 (pj4 bJ).1 bJ.2.2.1 bJ.2.2.2.1 (pj4 bJ).2.2.1 (pj4 bJ).2.2.2.1 (pj8 bJ) d15.2 sD))) /\
            (true = false ->
              (pj8 bJ) = kZ /\ (pj4 bJ).2.2.2.1 = m8 /\ (pj4 bJ).2.2.1 = w9 /\ (d15.2.length <= 12) /\ (pj4 bJ).2.1 = w8 /\ ((True /\ bJ.2.1 = (0:Int) /\ (([]:List SV) = [])) /\ (((Th Yk d15.2 0 d15.2.length) = (JS hk cs cl fa) /\ (List.isEmpty d15.2) = (JS hk cs cl fa).isEmpty) /\ True))))) d150)) /\
    (∀ r5:Nat, r5 < (List.length e4) -> r5 ∉ d4.2 ->
      (true = true ->
        ((d4.2 ++ [r5]) ≠ []) /\ (∃ d21:(List (Int × Bool)) × (List Nat), (Hj /\ (((UI (.i .i64) d4.1 (List.getD e4 (List.getLastD (d4.2 ++ [r5]) 0) ((0, 0), 0)).1.1 true) = d21.1) /\ (e4 = e4 /\ (d4.2 ++ [r5]) = d21.2) /\ True)) /\ q4 d21)) /\
      (true = false ->
        ∀ sF:List Value, sF = sF /\ ∀ pS:List Value, ∀ pT:List Value, ∀ pU:List Value, ∀ m9:LpD, ∃ (bK:(List (Int × Bool)) × Int × (List ((Int × Int) × Int)) × (List Nat) × Bool × (List Value) × (List Value) × (List Value) × LpD) (jT:(List Nat) × (List Int)), ((True /\ True /\ True) /\ ((d4.1 = bK.1 /\ ([]:List Nat) = jT.1) /\ ((pj4 bK).2.1 = pS /\ (True /\ True /\ True /\ True /\ True /\ True /\ True /\ True /\ True /\ (0:Int) = bK.2.1 /\ True /\ True /\ True /\ True /\ True /\ True /\ True /\ True /\ True /\ True /\ True /\ True /\ True /\ true = (pj4 bK).1 /\ True /\ True /\ True /\ True /\ True /\ True /\ YH /\ True /\ True /\ (([]:List SV) = []))) /\ (e4 = bK.2.2.1 /\ (d4.2 ++ [r5]) = bK.2.2.2.1) /\ Dd /\ ((pj4 bK).2.2.1 = pT /\ S9) /\ ((pj4 bK).2.2.2.1 = pU /\ Sa) /\ ((pj8 bK) = m9 /\ Rk) /\ Dd /\ (jT.2 = [] /\ (List.isEmpty jT.2) = true) /\ True)) /\
        LoopP (λ(d30:(List Nat) × (List Int)) (sG:((List Nat) × (List Int)) -> Prop) =>
          ((∀ r:Nat, r < (List.length bK.1) -> r ∈ d30.1) ->
             (PE hk cs cl fa d30.1 (pj8 bK) m9 d30.2 bK.1 (pj4 bK).2.2.2.1 pU (pj4 bK).2.2.1 pT (pj4 bK).2.1 pS bK.2.1 (pj4 bK).1 bK.2.2.1 bK.2.2.2.1 sG d30.2.length)) /\
          (∀ ld:Nat, ld < (List.length bK.1) -> ld ∉ d30.1 ->
            (true = true ->
              ((d30.1 ++ [ld]) ≠ []) /\ (pj8 bK) = m9 /\ ∀ sH:List Value, (((List.length d30.2) + (List.length [(List.getD bK.1 (List.getLastD (d30.1 ++ [ld]) 0) (0, false)).1])) * 8 <= 70368744177664) /\ sH = sH /\ (pj8 bK) = m9 /\ ((!true) = true ->
                (pj8 bK) = m9 /\ (pj4 bK).2.2.2.1 = pU /\ (pj4 bK).2.2.1 = pT /\ ((d30.2 ++ [(List.getD bK.1 (List.getLastD (d30.1 ++ [ld]) 0) (0, false)).1]).length <= 12) /\ (pj4 bK).2.1 = pS /\ ((True /\ bK.2.1 = (0:Int) /\ (([]:List SV) = [])) /\ (((Th Yk (d30.2 ++ [(List.getD bK.1 (List.getLastD (d30.1 ++ [ld]) 0) (0, false)).1]) 0 (d30.2 ++ [(List.getD bK.1 (List.getLastD (d30.1 ++ [ld]) 0) (0, false)).1]).length) = (JS hk cs cl fa) /\ false = (JS hk cs cl fa).isEmpty) /\ True))) /\
              ((!true) = false ->
                 (Pn bK.1 d30.1 ld (pj4 bK).2.1 bK.2.1 (pj4 bK).1 bK.2.2.1 bK.2.2.2.1 (pj4 bK).2.2.1 (pj4 bK).2.2.2.1 (pj8 bK) d30.2 sG))) /\
            (true = false ->
              (pj8 bK) = m9 /\ (pj4 bK).2.2.2.1 = pU /\ (pj4 bK).2.2.1 = pT /\ (d30.2.length <= 12) /\ (pj4 bK).2.1 = pS /\ ((True /\ bK.2.1 = (0:Int) /\ (([]:List SV) = [])) /\ (((Th Yk d30.2 0 d30.2.length) = (JS hk cs cl fa) /\ (List.isEmpty d30.2) = (JS hk cs cl fa).isEmpty) /\ True))))) jT))) d40)
def QL:Cx:=⟨[],[],4,[],0,[],[],[],[],false,[],[],[],[]⟩
def QM:List (Nat×LoopAnn):=[]
def Q5:Cx:=⟨[],[],14,[],0,[],[],[],[],false,[],[],[],[]⟩
def Q4:List (Nat×LoopAnn):=[(0,⟨(List (Int×Bool))×Int×(List ((Int×Int)×Int))×(List Nat)×Bool×(List Value)×(List Value)×(List Value)×LpD,(List Nat)×(List Int),[0,5],λe x=>[.dd 32000060002500000 .yv,.box 3200006000250000100005 0],λe x=>[(3200006000250000100005,.slot 5,.iter (.i .i64) .bo e.1 x.1),(3199999,.key 3199999,.stk [.any,.any,.any,.any,.any,.any,.any,.any,.any,.val (.i .i64) e.2.1,.any,.any,.any,.any,.any,.any,.any,.any,.any,.any,.any,.box 21 0,.any,.val .bo e.2.2.2.2.1,.any,.any,.any,.any,.any,.any,.fn 121 [] [.box 3100001 0],.any,.any] e.2.2.2.2.2.1),(21,.key 21,.iter (.pair (.i .i64) (.i .i64)) (.i .i64) e.2.2.1 e.2.2.2.1),(3100001,.key 3100001,.cells [.any] (some 122)),(320000599999,.key 320000599999,.stk [.fn 121 [] [.box 3100001 0],.any,.nilS,.any,.fn 121 [] [.box 3100001 0],.any,.any,.any,.any] e.2.2.2.2.2.2.1),(32000060000499999,.key 32000060000499999,.stk [.fn 121 [] [.box 3100001 0],.any,.nilS,.fn 121 [] [.box 3100001 0],.any] e.2.2.2.2.2.2.2.1),(32000060002500000,.key 32000060002500000,.lpf [.nilS,.fn 121 [] [.box 3100001 0],.box 32000060000500002 0,.any,.nilS,.any,.fn 121 [] [.box 3100001 0],.any,.any,.any,.any,.any,.any] e.2.2.2.2.2.2.2.2 .rdy),(32000060000500002,.key 32000060000500002,.cells [.lst 32000060000500011] (some 27)),(32000060000500011,.cell 32000060000500002 0,.lst 3 (.i .i64) x.2 (List.isEmpty x.2))]⟩)]
def Qd:Cx:=⟨[(3,(.i .i64))],[],13,[],0,[],[],[],[],false,[],[(121,Z2v Q5 Q4 Z1l 14)],[],[]⟩
def Qc:List (Nat×LoopAnn):=[]
def QC:Cx:=⟨[],[],5,[],0,[(146,Q11 Qd (λ_=>Qc) Z19 [.tmp 4] 13)],[],[],[],false,[],[],[],[]⟩
def Qz:List (Nat×LoopAnn):=[]
def J2:Cx:=⟨[],[],9,[],0,[(119,Q11 QC (λ_=>Qz) Z1h [.tmp 2] 5),(120,JW)],[],[],[],false,[],[],[],[]⟩
def ZZ:List (Nat×LoopAnn):=[]
def Mu:Cx:=⟨[(1000019,(.pair (.i .i64) .bo))],[],33,[],0,[(79,YR),(81,Q11 QL (λ_=>QM) c81 [.tmp 2] 4),(80,Q11 J2 (λ_=>ZZ) c80 [.tmp 2] 9)],[],[],[],false,[],[],[],[]⟩
def PX (hk:Int) (cs:List (Int×Int×Bool)) (cl:List Int) (fa:Int):List (Nat×LoopAnn):=[(0,⟨(List ((Int×Int)×Int)),(List (Int×Bool))×(List Nat),[9,10,21],λe x=>[.val (.i .i64) (0:Int),.map 19,.box 21 0],λe x=>[(19,.slot 10,.map (.i .i64) .bo x.1),(21,.slot 21,.iter (.pair (.i .i64) (.i .i64)) (.i .i64) e x.2)]⟩)]
theorem T6 (d:(Int×List (Int×Int×Bool))×List Int×Int):gwp (Mu) (PX d.1.1 d.1.2 d.2.1 d.2.2) c28 0 (Nu [.tmp 6,.tmp 7] (NG d) (Ni d)) (Q_ 33 (AL.can MP d))=Yc d.1.1 d.1.2 d.2.1 d.2.2:=by kernel_rfl
abbrev Tf:Prop:=OkC Tryz.prog 28 Uq
theorem Tk (h:∀ (hk:Int) (cs:List (Int×Int×Bool)) (cl:List Int) (fa:Int),(QQ hk cs=0/\cl.length<=60/\(∀ r∈cl,-1<=r/\r<2 ^ hk.toNat)/\0<=fa/\fa<=6/\cs.length<=12)->Yc hk cs cl fa):OkC Tryz.prog 28 Uq :=
 Zn Q4u mixed (C:=Mu) (V:=λ(d:(Int×List (Int×Int×Bool))×List Int×Int)=>Yc d.1.1 d.1.2 d.2.1 d.2.2) ⟨.nil,(XsOk.cons NV (XsOk.cons (Nj Q4j mixed (C:=QL) ⟨.nil,XsOk.nil,ItsOk.nil,YlOk.nil,IysOk.nil,XfOk.nil⟩ (λ_=>QM)) (XsOk.cons (Nj Q4o mixed (C:=J2) ⟨.nil,(XsOk.cons (Nj FZ mixed (C:=QC) ⟨.nil,(XsOk.cons (Nj F6 mixed (C:=Qd) ⟨.nil,XsOk.nil,ItsOk.nil,YlOk.nil,(IysOk.cons (Fe Oe mixed (C:=Q5) ⟨.nil,XsOk.nil,ItsOk.nil,YlOk.nil,IysOk.nil,XfOk.nil⟩ Q4) IysOk.nil),XfOk.nil⟩ (λ_=>Qc)) XsOk.nil),ItsOk.nil,YlOk.nil,IysOk.nil,XfOk.nil⟩ (λ_=>Qz)) (XsOk.cons U1 XsOk.nil)),ItsOk.nil,YlOk.nil,IysOk.nil,XfOk.nil⟩ (λ_=>ZZ)) XsOk.nil))),ItsOk.nil,YlOk.nil,IysOk.nil,XfOk.nil⟩ (T6) λd hp=>h d.1.1 d.1.2 d.2.1 d.2.2 hp
theorem Te:Tf:=Tk λhk cs cl fa h=>by
 obtain⟨h1,h2,h3,h4,h5,h6⟩:=h;obtain⟨hf,cg,av,ai⟩:=No h1;have br:=xJ.2 av;unfold Yc;(try delta Pn PE YH Rk S9 Hj Dd Sa);(try delta lI gD sT I64 Xz pj8 pj4);refine⟨⟨h1,h2,h3,h4,h5⟩,λm hm=>⟨m,([],[]),(by and_intros<;>first|rfl|trivial),?_⟩⟩;refine LoopP.rng m.length (λx dn=>KeyW cs.length m x dn) ⟨List.nodup_nil,λa=>⟨(λh=>by cases h),(λ⟨r,hr,_⟩=>by cases hr)⟩⟩ ?_;intro x dn hn ah hx q hq;dsimp only;refine⟨λae=>⟨(λc=>by cases c),λ_=>?_⟩,λr hr fY=>⟨λ_=>?_,(λc=>by cases c)⟩⟩
 .intro w7;refine⟨rfl,λw8 w9 m8 kZ=>⟨(x,0,m,dn,false,w8,w9,m8,kZ),([],[]),(by and_intros<;>first|rfl|trivial),?_⟩⟩;dsimp only;have fZ:=KeyW.len hm ah hx;refine LoopP.rng2 x.length (λys d2=>ys=d2.map λr=>(x.getD r (0,false)).1) rfl ?_;intro ys d2 pP kY oZ q2 qI;dsimp only;have hlen:ys.length=d2.length:=by rw[oZ];simp
  have o9:=Mg pP (m:=List.range x.length) λy hy=>zr.2 (kY y hy);rw[wh] at o9;refine⟨λrC=>⟨(λc=>by cases c),λ_=>?_⟩,λr hr fY=>⟨λ_=>?_,(λc=>by cases c)⟩⟩
  .have hs:=KeyW.sorted br hm ah hx ae pP kY rC;rw[<-oZ] at hs;have hl:=(D5 (f:=Yk) (a:=0) (z5 ys.length)).length_eq;rw[hs] at hl;refine⟨rfl,rfl,rfl,by omega,rfl,⟨by and_intros<;>first|rfl|trivial,⟨hs,?_⟩,trivial⟩⟩;rw[Bool.eq_iff_iff,List.isEmpty_iff,List.isEmpty_iff,<-zW,<-zW,hl]
  .have d_:List.getLastD (d2++[r]) 0=r:=by simp
   rw[d_];refine⟨by simp,rfl,λw=>⟨by simp only[xy];omega,rfl,rfl,(λc=>by cases c),λ_=>?_⟩⟩;refine⟨(d2++[r],ys++[(x.getD r (0,false)).1]),⟨⟨trivial,trivial,trivial⟩,?_⟩,qI r _ hr fY (by rw[oZ];simp)⟩;and_intros<;>first|rfl|trivial|simp
 .have d_:List.getLastD (dn++[r]) 0=r:=by simp
  rw[d_];refine⟨by simp,(UI (.i .i64) x (m.getD r ((0,0),0)).1.1 true,dn++[r]),(by and_intros<;>first|rfl|trivial),hq r _ hr fY (hx.snoc r)⟩
theorem Pp {n mo:Nat}{wv:Nat->Int->Bool}{k:Nat}{L L':List ((Int×Int)×Int)}(h:(Jd n mo).map (λq=>(q,wyK n mo wv k q))=L)
  (h':(Jd n mo).map (λq=>(q,((Jd n mo).map λp=>Lu n mo (wv k) p (XA L p) q).sum))=L'):(Jd n mo).map (λq=>(q,wyK n mo wv (k+1) q))=L':=by
 have hL:∀ p∈Jd n mo,XA L p=wyK n mo wv k p:=λp hp=>by
  have hn:(L.map (·.1)).Nodup:=by
   rw[<-h,w5];have:((λx:(Int×Int)×Int=>x.1) ∘ λq=>(q,wyK n mo wv k q))=id:=rfl;rw[this,List.map_id];exact M8 n mo
  have hm:(p,wyK n mo wv k p)∈L:=by rw[<-h];exact zq.2 ⟨p,hp,rfl⟩
  exact FY hn hm
 rw[<-h'];refine x9 λq _=>?_;have:((Jd n mo).map λp=>Lu n mo (wv k) p (XA L p) q)=(Jd n mo).map λp=>Lu n mo (wv k) p (wyK n mo wv k p) q:=x9 λp hp=>by rw[hL p hp]
 rw[this];rfl
def five:List VQ:=[(0,1,false),(3,8,false),(1,2,false),(2,4,false),(4,15,false)]
def clo5:List Int:=[8,2,2,-1,1]
theorem Q8e:(Jd 5 2).map (λq=>(q,wyK 5 2 (λk=>wvB 4 five clo5 k) 0 q))=[((0,0),1),((0,1),0),((0,2),0),((1,0),1),((1,1),0),((1,2),0),((2,0),1),((2,1),0),((2,2),0),((3,0),1),((3,1),0),((3,2),0),((4,0),1),((4,1),0),((4,2),0)]:=by kernel_rfl
theorem Q8z:(Jd 5 2).map (λq=>(q,wyK 5 2 (λk=>wvB 4 five clo5 k) 1 q))=[((0,0),0),((0,1),0),((0,2),0),((1,0),0),((1,1),1),((1,2),0),((2,0),1),((2,1),0),((2,2),0),((3,0),0),((3,1),1),((3,2),0),((4,0),0),((4,1),0),((4,2),0)]:=Pp Q8e (by kernel_rfl)
theorem Q8s:(Jd 5 2).map (λq=>(q,wyK 5 2 (λk=>wvB 4 five clo5 k) 2 q))=[((0,0),0),((0,1),0),((0,2),0),((1,0),0),((1,1),0),((1,2),0),((2,0),0),((2,1),1),((2,2),0),((3,0),1),((3,1),0),((3,2),0),((4,0),0),((4,1),1),((4,2),0)]:=Pp Q8z (by kernel_rfl)
theorem Q8a:(Jd 5 2).map (λq=>(q,wyK 5 2 (λk=>wvB 4 five clo5 k) 3 q))=[((0,0),0),((0,1),0),((0,2),0),((1,0),0),((1,1),0),((1,2),0),((2,0),0),((2,1),0),((2,2),1),((3,0),0),((3,1),1),((3,2),0),((4,0),0),((4,1),0),((4,2),1)]:=Pp Q8s (by kernel_rfl)
theorem Q7l:(Jd 5 2).map (λq=>(q,wyK 5 2 (λk=>wvB 4 five clo5 k) 4 q))=[((0,0),0),((0,1),0),((0,2),2),((1,0),0),((1,1),0),((1,2),0),((2,0),0),((2,1),0),((2,2),0),((3,0),0),((3,1),0),((3,2),2),((4,0),0),((4,1),1),((4,2),0)]:=Pp Q8a (by kernel_rfl)
theorem OF:(Jd 5 2).map (λq=>(q,wyK 5 2 (λk=>wvB 4 five clo5 k) 5 q))=[((0,0),0),((0,1),0),((0,2),0),((1,0),0),((1,1),0),((1,2),2),((2,0),0),((2,1),0),((2,2),0),((3,0),0),((3,1),0),((3,2),0),((4,0),0),((4,1),0),((4,2),0)]:=Pp Q7l (by kernel_rfl)
theorem Ow:Ci 4 five clo5 2=2:=by
 have h:(((Jd 5 2).map (λq=>(q,wyK 5 2 (λk=>wvB 4 five clo5 k) 5 q))).map λx=>x.2).sum=2:=by rw[OF];rfl
 rw[w5] at h;exact h
theorem Eb:JS 4 five clo5 2=[1]:=by
 refine DU (Dq ..) (by simp) λz=>?_;rw[TT (by decide)];have ae:∀ q∈Jd 5 2,(q,wyK 5 2 (λk=>wvB 4 five clo5 k) 5 q)∈([((0,0),0),((0,1),0),((0,2),0),((1,0),0),((1,1),0),((1,2),2),((2,0),0),((2,1),0),((2,2),0),((3,0),0),((3,1),0),((3,2),0),((4,0),0),((4,1),0),((4,2),0)]:List ((Int×Int)×Int)):=λq hq=>by rw[<-OF];exact zq.2 ⟨q,hq,rfl⟩
 constructor
 .rintro⟨f,hf⟩;have hg:=RW 5 2 (λk=>wvB 4 five clo5 k) (by decide) 5 (z,f) hf;have h:=ae _ hg;have hf:wyK 5 2 (λk=>wvB 4 five clo5 k) 5 (z,f)≠0:=hf;generalize wyK 5 2 (λk=>wvB 4 five clo5 k) 5 (z,f)=w at h hf;simp only[zf,List.not_mem_nil,or_false,Prod.mk.injEq] at h;simp only[zf,List.not_mem_nil,or_false];omega
 .intro hz;simp only[zf,List.not_mem_nil,or_false] at hz;rcases hz with rfl
  .refine⟨2,?_⟩;have hm:(((1,2),2):(Int×Int)×Int)∈(Jd 5 2).map (λq=>(q,wyK 5 2 (λk=>wvB 4 five clo5 k) 5 q)):=by rw[OF];simp
   obtain⟨q,_,hq⟩:=zq.1 hm;have h1:q=(1,2):=congrArg (λx:(Int×Int)×Int=>x.1) hq;have h2:wyK 5 2 (λk=>wvB 4 five clo5 k) 5 q=2:=congrArg (λx:(Int×Int)×Int=>x.2) hq;rw[h1] at h2;show wyK 5 2 (λk=>wvB 4 five clo5 k) 5 (1,2)≠0;rw[h2];decide
theorem TN {bl:List PB}{i:Nat}{k:Kind}(hk:k.flat=true) (xs:List k.T) {b:PB}(hb:bl[i]?=some b) (hc:b.c=(xs.map (Si k)).flatten) (hs:b.esz.sz=k.size):SlRel (Qt bl []) k.size (λx c=>KC (Qt bl []) k x c) xs (.slice (some ⟨i,0,none⟩) xs.length xs.length):=by
 have hr:=Rows.ofEnc (h:=Qt bl []) hk xs;have hl:=hr.length KC.q0f;refine .inr ⟨i,0,xs.length,b.c,b.esz,false,b.tight,rfl,z5 _,?_,hs,?_,?_⟩
 .have hi:=(z7.1 hb).1;show (if i<bl.length then (bl[i]?).map (PB.blk false) else _)=_;rw[z0 hi,hb];rfl
 .rw[hc,hl];omega
 .rw[zX,hc,zD (by rw[hl];exact z5 _)];exact hr
theorem R0 {bl fr:List PB}{bs:List OB}(h:bs.map Ft=fr.map λb=>some (b.blk true)):BV (Qt bl []) bs=Qt bl fr:=by
 have hl:bs.length=fr.length:=by have:=congrArg List.length h;simpa using this
 have hg:(BV (Qt bl []) bs).get=(Qt bl fr).get:=by
  funext i
  show (if i<(Qt bl []).n then (Qt bl []).get i else (bs[i-(Qt bl []).n]?).bind Ft)=if i<bl.length then (bl[i]?).map (PB.blk false) else (fr[i-bl.length]?).map (PB.blk true)
  have hn:(Qt bl []).n=bl.length:=by show bl.length+0=_;omega
  rw[hn];by_cases hi:i<bl.length
  .rw[z0 hi,z0 hi];show (if i<bl.length then (bl[i]?).map (PB.blk false) else _)=_;rw[z0 hi]
  .rw[z1 hi,z1 hi];have:=congrArg (λl:List (Option Blk)=>l[i-bl.length]?) h;simp only[zQ] at this;cases e1:bs[i-bl.length]? with
   |none =>
    rw[e1] at this;cases e2:fr[i-bl.length]? with
    |none=>rfl
    |some b=>rw[e2] at this;simp at this
   |some b =>
    rw[e1] at this;cases e2:fr[i-bl.length]? with
    |none=>rw[e2] at this;simp at this
    |some b2 =>rw[e2] at this;simp only[xj,xd] at this;simp only[xp,xj];exact this
 have hn:(BV (Qt bl []) bs).n=(Qt bl fr).n:=by show bl.length+0+bs.length=bl.length+fr.length;omega
 cases hA:BV (Qt bl []) bs with
 |mk g n w =>
  cases hB:Qt bl fr with
  |mk g' n' w' =>rw[hA,hB] at hg hn;subst hg;subst hn;rfl
abbrev Q6k:Kind:=.pair (.i .i64) (.pair (.i .i64) .bo)
def HB5:List PB:=[⟨[.int .i64 0,.int .i64 1,.bool false,.int .i64 3,.int .i64 8,.bool false,.int .i64 1,.int .i64 2,.bool false,.int .i64 2,.int .i64 4,.bool false,.int .i64 4,.int .i64 15,.bool false],⟨3,87⟩,true⟩,⟨[.int .i64 8,.int .i64 2,.int .i64 2,.int .i64 (-1),.int .i64 1],⟨1,3⟩,true⟩]
def IS:List Value:=[.agg #[.int .i64 4,.slice (some ⟨0,0,none⟩) 5 5],.slice (some ⟨1,0,none⟩) 5 5,.int .i64 2]
def SH:List SV:=[.agg [.val (.i .i64) (4:Int),.val (.list Q6k) five],.val (.list (.i .i64)) clo5,.val (.i .i64) (2:Int)]
theorem PF:SRs Tryz.prog (Qt HB5 []) Jz ZF SH IS:=by
 have h1:SlRel (Qt HB5 []) (Kind.size Q6k) (λx c=>KC (Qt HB5 []) Q6k x c) five (.slice (some ⟨0,0,none⟩) 5 5):=TN (bl:=HB5) (i:=0) (k:=Q6k) rfl five (b:=HB5[0]'(by decide)) rfl rfl rfl;have h2:SlRel (Qt HB5 []) (Kind.size (.i .i64)) (λx c=>KC (Qt HB5 []) (.i .i64) x c) clo5 (.slice (some ⟨1,0,none⟩) 5 5):=TN (bl:=HB5) (i:=1) (k:=.i .i64) rfl clo5 (b:=HB5[1]'(by decide)) rfl rfl rfl;have s1:SR Tryz.prog (Qt HB5 []) Jz ZF (.val (.list Q6k) five) (.slice (some ⟨0,0,none⟩) 5 5):=by simp only[SR,KC];exact⟨_,rfl,h1⟩
 have s2:SR Tryz.prog (Qt HB5 []) Jz ZF (.val (.list (.i .i64)) clo5) (.slice (some ⟨1,0,none⟩) 5 5):=by simp only[SR,KC];exact⟨_,rfl,h2⟩
 have s3:∀ n:Int,SR Tryz.prog (Qt HB5 []) Jz ZF (.val (.i .i64) n) (.int .i64 n):=λn=>JT _ _;have s0:SR Tryz.prog (Qt HB5 []) Jz ZF (.agg [.val (.i .i64) (4:Int),.val (.list Q6k) five]) (.agg #[.int .i64 4,.slice (some ⟨0,0,none⟩) 5 5]):=by simp only[SR,SRs];exact⟨_,rfl,_,_,rfl,s3 4,_,_,rfl,s1,rfl⟩
 show SRs Tryz.prog (Qt HB5 []) Jz ZF [_,_,_] [_,_,_];simp only[SRs];exact⟨_,_,rfl,s0,_,_,rfl,s2,_,_,rfl,s3 2,rfl⟩
theorem Ml:QQ 4 five=0/\clo5.length<=60/\(∀ r∈clo5,-1<=r/\r<2 ^ (4:Int).toNat)/\(0:Int)<=2/\(2:Int)<=6:=by refine⟨by decide,by decide,λr hr=>?_,by decide,by decide⟩;simp only[clo5,zf,List.not_mem_nil,or_false] at hr;have:(2:Int) ^ (4:Int).toNat=16:=rfl;omega
def Q9g:Memo:=⟨IS,HB5,.tuple #[.int .i64 2,.int .i64 0],[]⟩
def Q4h:Memo:=⟨IS,HB5,.tuple #[.slice (some ⟨2,0,none⟩) 1 1,.int .i64 0],[⟨[.int .i64 1],⟨1,3⟩,false⟩]⟩
theorem OO:NM Tryz.prog 27 Q9g:=by refine⟨?_,by decide⟩;have h:=(S7 Vy Xp (Qt HB5 []) SH IS _ _ [] PF (show Nw Vy SH=some (_,.tup [.val (.i .i64) (Ci 4 five clo5 2),.val (.i .i64) (0:Int)],[]) from rfl) rfl rfl Ml).2 rfl rfl;refine VCalled.mono h λu U hu=>?_;obtain⟨rfl,rfl⟩:=hu;rw[Ow];exact⟨rfl,R0 (bl:=HB5) (fr:=[]) rfl⟩
theorem FW:NM Tryz.prog 28 Q4h:=by refine⟨?_,by decide⟩;have h:=(Te Vy Xp (Qt HB5 []) SH IS _ _ [.lst 3 (.i .i64) (JS 4 five clo5 2) (JS 4 five clo5 2).isEmpty] PF (show Uq Vy SH=some (_,.tup [.lst 0,.val (.i .i64) (0:Int)],_) from rfl) rfl rfl ⟨Ml.1,Ml.2.1,Ml.2.2.1,Ml.2.2.2.1,Ml.2.2.2.2,by decide⟩).2 rfl rfl;refine VCalled.mono h λu U hu=>?_;obtain⟨rfl,rfl⟩:=hu;rw[Eb];exact⟨rfl,R0 (bl:=HB5) (fr:=[⟨[.int .i64 1],⟨1,3⟩,false⟩]) rfl⟩
end Go.Proofs.Tryz
namespace Go.Proofs.Tryz
open Go Go.V
def Z4f:List (Option FEnt):=[
 none,
 none,
 some (.code c2 [] 1),
 some (.code c3 [.tmp 2] 84),
 some (.code c4 [.tmp 4] 203),
 some (.code c5 [.tmp 2] 92),
 some (.code c6 [.tmp 6] 129),
 some (.code c7 [.tmp 4] 283),
 some (.code c8 [.tmp 6] 207),
 some (.code c9 [.tmp 2] 249),
 some (.code c10 [.tmp 6] 205),
 some (.code c11 [.tmp 2] 265),
 some (.code c12 [.tmp 4] 132),
 some (.code c13 [.tmp 4] 228),
 some (.code c14 [.tmp 6] 133),
 some (.code c15 [.tmp 0] 226),
 some (.code c16 [.cell 2 true 2] 9),
 some (.codeM c17 [.tmp 2,.tmp 3] 49 [mMoved]),
 some (.codeJ c18 [.cell 2 true 2,.tmp 3] 34),
 some (.code c19 [.tmp 2] 32),
 some (.code c20 [.tmp 2] 45),
 some (.code c21 [.tmp 4] 17),
 some (.code c22 [.tmp 4] 26),
 some (.code c23 [.tmp 2] 74),
 some (.code c24 [.cell 2 true 2] 44),
 some (.code c25 [.tmp 2] 6),
 some (.codeM c26 [.tmp 4,.tmp 5,.tmp 6,.tmp 7] 79 [mCourse]),
 some (.codeM c27 [.tmp 6,.tmp 7] 29 [Q9g]),
 some (.codeM c28 [.tmp 6,.tmp 7] 33 [Q4h]),
 some (.code c29 [.tmp 4] 15),
 some (.code c30 [.tmp 6] 15),
 some (.code c31 [.cell 4 true 4,.tmp 5] 41),
 some (.code c32 [.tmp 6,.tmp 7] 60),
 some (.code c33 [.tmp 2] 37),
 some (.code c34 [.cell 2 true 3] 34),
 some (.code c35 [.tmp 2] 36),
 some (.codeM c36 [.tmp 2,.tmp 3] 34 [mCount]),
 some (.codeJ c37 [.cell 2 false 1,.tmp 3] 44),
 some (.code c38 [.tmp 2] 78),
 some (.code c39 [.tmp 4] 63),
 some (.code c40 [.tmp 2] 5),
 some (.code c41 [.tmp 4] 27),
 some (.codeM c42 [.tmp 6,.tmp 7] 57 [mPlaces]),
 some (.codeM c43 [.tmp 2,.tmp 3] 45 [mLost]),
 some (.code c44 [.tmp 8] 46),
 some (.code c45 [.tmp 4] 66),
 some (.code c46 [.cell 2 true 2] 50),
 some (.codeJ c47 [.cell 2 true 2,.tmp 3] 54),
 some (.codeJ c48 [.tmp 6,.tmp 7,.tmp 8] 58),
 some (.code c49 [.tmp 4] 20),
 some (.code c50 [.tmp 4] 16),
 some (.code c51 [.cell 2 true 2] 74),
 some (.code c52 [.tmp 4] 52),
 some (.code c53 [.cell 2 true 2] 37),
 some (.code c54 [.tmp 4,.tmp 5,.tmp 6,.tmp 7,.tmp 8] 91),
 some (.code c55 [.cell 2 true 3,.tmp 3] 165),
 some (.code c56 [.tmp 4] 37),
 some (.code c57 [.tmp 2] 11),
 some (.code c58 [.cell 2 true 2,.tmp 3] 54),
 some (.code c59 [.tmp 6,.tmp 7,.tmp 8] 65),
 some (.code c60 [.cell 0 true 2] 8),
 some (.code c61 [.cell 2 true 3] 23),
 some (.code c62 [.cell 2 true 3,.tmp 3] 43),
 some (.code c63 [.tmp 4] 25),
 some (.code c64 [.tmp 4] 12),
 some (.code c65 [.tmp 2] 4),
 some (.code c66 [.tmp 4] 10),
 some (.code c67 [.tmp 4] 20),
 some (.code c68 [.tmp 4] 14),
 some (.code c69 [.tmp 4] 26),
 some (.code c70 [.tmp 4] 55),
 some (.code c71 [.tmp 4] 41),
 some (.code c72 [.tmp 4] 33),
 some (.code c73 [.cell 4 true 4,.tmp 5] 33),
 some (.code c74 [.tmp 2] 70),
 some (.code c75 [.tmp 2] 25),
 some (.code c76 [.tmp 4] 19),
 some (.code c77 [.tmp 2] 5),
 some (.code c78 [.tmp 6] 15),
 some (.code c79 [.tmp 6,.tmp 7] 28),
 some (.code c80 [.tmp 2] 9),
 some (.code c81 [.tmp 2] 4),
 some (.code c82 [.tmp 4] 30),
 some (.code c83 [.tmp 4] 24),
 some (.code c84 [.tmp 2] 7),
 some (.code c85 [.tmp 3] 9),
 some (.code c86 [.tmp 4] 16),
 some (.code c87 [.tmp 2] 6),
 some (.code c88 [.tmp 6] 11),
 some (.code c89 [.tmp 4] 9),
 some (.code c90 [.cell 4 false 1] 39),
 some (.code c91 [.tmp 4] 76),
 some (.code c92 [.cell 6 false 1] 110),
 some (.code c93 [.tmp 4] 26),
 some (.code c94 [.tmp 4] 19),
 some (.code c95 [.tmp 6] 29),
 some (.code c96 [.tmp 4] 9),
 some (.code c97 [.tmp 2] 9),
 some (.code c98 [.tmp 6] 88),
 some (.code c99 [.tmp 4] 6),
 some (.code Z41 [.tmp 4] 9),
 some (.code Z3l [.tmp 4] 23),
 some (.code Z1a [.tmp 4] 10),
 some (.code Z11 [.cell 2 true 3,.tmp 3] 30),
 some (.code Z1g [.tmp 4] 26),
 some (.code Z3v [.tmp 4] 11),
 some (.code Z3t [.cell 2 true 3] 5),
 some (.code Z1d [.cell 6 false 1] 73),
 some (.code Z29 [.tmp 2] 5),
 some (.code Z1q [] 14),
 some (.code Z20 [] 16),
 some (.code Z1k [.tmp 2] 6),
 some (.code Z0v [.tmp 3] 14),
 some (.code Z0m [.tmp 4] 9),
 some (.code Z2t [.tmp 2] 4),
 some (.code Z1o [.tmp 4] 48),
 some (.code Z0u [.tmp 6] 25),
 some (.code Z1y [] 28),
 some (.code Z17 [.tmp 4] 52),
 some (.code Z1h [.tmp 2] 5),
 some (.code Z0k [] 11),
 some (.code Z1l [] 14),
 some (.code Z37 [.tmp 6] 79),
 some (.code Z0j [.tmp 3] 17),
 some (.code Z12 [.tmp 4] 9),
 some (.code Z0y [.tmp 4] 13),
 some (.code Z31 [.tmp 4] 19),
 some (.code Z3p [.tmp 6] 8),
 some (.code Z44 [] 14),
 some (.code Z42 [.tmp 4] 36),
 some (.code Z1r [.tmp 4] 66),
 some (.code Z3z [.tmp 4] 26),
 some (.code Z3r [.tmp 6] 22),
 some (.code Z3d [.tmp 3] 12),
 some (.code Z4c [.tmp 4] 143),
 some (.code Z3w [] 31),
 some (.code Z2l [.tmp 4] 19),
 some (.code Z0s [.tmp 4] 13),
 some (.code Z0n [.tmp 4] 6),
 some (.code Z1u [.tmp 4] 13),
 some (.code Z3e [] 148),
 some (.code Z0l [.tmp 2] 8),
 some (.code Z1j [.tmp 4] 19),
 some (.code Z3q [] 19),
 some (.code Z30 [.tmp 4,.tmp 5] 30),
 some (.code Z0r [] 39),
 some (.code Z19 [.tmp 4] 13),
 some (.code Z1i [] 134),
 some (.code Z10 [.tmp 4] 19),
 some (.code Z1v [] 45),
 some (.code Z1t [.tmp 8] 55),
 some (.code Z3b [] 148),
 some (.code Z36 [.tmp 4] 18),
 some (.code Z0z [.tmp 2] 26),
 some (.code Z16 [] 20),
 some (.code Z2r [] 53),
 some (.code Z3f [] 60),
 some (.code Z2c [] 67),
 some (.code Z4d [.tmp 8,.tmp 9] 63),
 some (.code Z2z [] 34),
 some (.code Z49 [.tmp 8] 141),
 some (.code Z32 [.tmp 10] 90),
 some (.code Z2a [.tmp 10,.tmp 11] 178),
 some (.code Z14 [.tmp 2] 19),
 some (.code Z0t [.tmp 2] 25),
 some (.code Z3i [.tmp 4,.tmp 5] 17),
 some (.code Z3y [.tmp 4,.tmp 5] 51),
 some (.code Z18 [] 49),
 some (.code Z1p [] 56),
 some (.code Z2s [] 65),
 some (.code Z2j [.tmp 6,.tmp 7] 57),
 some (.code Z43 [] 32),
 some (.code Z3h [.tmp 6] 133),
 some (.code Z0p [.tmp 4] 17),
 some (.code Z2n [.tmp 8] 84),
 some (.code Z28 [.tmp 8,.tmp 9] 168),
 some (.code Z2g [] 53),
 some (.code Z45 [] 60),
 some (.code Z3x [] 67),
 some (.code Z24 [.tmp 8,.tmp 9] 63),
 some (.code Z3s [] 34),
 some (.code Z4b [.tmp 8] 141),
 some (.code Z2e [.tmp 10] 90),
 some (.code Z35 [.tmp 10,.tmp 11] 178),
 some (.code Z0x [.tmp 2] 22),
 some (.code Z47 [] 82),
 some (.code Z23 [.tmp 2] 7),
 some (.code Z27 [.tmp 2] 33),
 some (.code Z2i [.tmp 8] 18),
 some (.code Z48 [.tmp 12] 41),
 some (.code Z46 [] 76),
 some (.code Z3j [.tmp 6] 15),
 some (.code Z21 [.tmp 10] 36),
 some (.code Z38 [] 82),
 some (.code Z2q [.tmp 8] 18),
 some (.code Z2p [.tmp 12] 41),
 some (.code Z1z [.tmp 10,.tmp 11] 32),
 some (.code Z2u [.tmp 8,.tmp 9] 28),
 some (.code Z2m [.tmp 10,.tmp 11] 32)]
def tab:Tab:=λf=>(Z4f[f]?).join
theorem Q5v:EntsOk Tryz.prog 0 Z4f:=⟨trivial,trivial,Z4u,Z53,Z57,Z52,Z4e,Z4q,fun8,Z4s,Q8r,Q8h,Q7x,Q8l,Q7t,Q50,Q5g,⟨Q5x,λm hm=>by rw[z8] at hm;subst hm;exact FB⟩,Q85,Q7n,Q9r,Q9x,Q7h,Q8w,Z05,Q8c,⟨Q7q,λm hm=>by rw[z8] at hm;subst hm;exact Eg⟩,⟨Q65,λm hm=>by rw[z8] at hm;subst hm;exact OO⟩,⟨Q4u,λm hm=>by rw[z8] at hm;subst hm;exact FW⟩,Q72,Q88,Q9n,Z04,Q7i,Q94,Q7j,⟨Q71,λm hm=>by rw[z8] at hm;subst hm;exact O9⟩,Q83,Q82,Z0e,Q8d,Z0b,⟨Q7y,λm hm=>by rw[z8] at hm;subst hm;exact AN⟩,⟨Q8q,λm hm=>by rw[z8] at hm;subst hm;exact Q0r⟩,Q9e,Q9i,Q8g,Q7z,Q9k,Q8n,Q4l,Q5w,Q4i,Q7o,Q8o,Q97,Q8p,Q9q,Z0d,Z00,Q9h,Q73,Q5r,Q4z,Q7w,Z0g,Q95,Q7r,Q98,Q8m,Z01,Q84,Q7s,Q5q,Q77,Q9v,Q8b,Q5f,Q6g,Q4w,Q4o,Q4j,Q75,Q8t,Q7b,Q9u,Q5t,Q4n,Q54,Q76,Q8f,Q9c,Q74,Q9d,Q6z,Q9f,Q9l,Q89,Q96,Q7v,Q2k,Q2e,O5,Ob,IP,Q3e,Q3g,Fa,Q46,Q38,Q29,F9,Is,OC,Q31,Q3c,IY,Q42,Io,FZ,I1,Oe,Q2y,Og,FN,FL,Q20,Q3n,Q3f,Q21,Q3a,Q3t,Q3b,Q28,Q2h,Q35,Q48,Ib,Fw,Q2q,Q1z,Fz,FX,Q41,Q2l,Ih,F6,IA,Od,Q3l,Q25,Q2x,Q1q,I3,I0,Q33,Q2b,Q1s,Q2s,Q24,Q3p,Q4g,Q3r,IQ,Iz,Q2t,Q2u,FJ,Q1u,Q44,Q3o,Q22,Q3z,F2,Q2m,Q32,Q3w,Q34,Q3m,Q3u,Q2p,Q3d,Q2c,Q2a,IT,Q2v,Q4d,Q4e,Q1y,Q3h,Q3s,Q2n,Q27,Q2w,Q3x,Q49,Q2z,Q3v,Q4c,trivial⟩
theorem Q7p:TabOk Tryz.prog tab:=AB Q5v
end Go.Proofs.Tryz
