/- A framework for walks, contracts of functions, and their proofs: part 6 (11). -/
import Derived.ProofKit
import Derived.OpenShut
import Derived.LaidMore
import Derived.Carry
import Derived.Lib.SmallJoins
import Derived.Deep.Slices
import Derived.Test.YtfblnfcecfjbpaaGreatM6I
noncomputable section
set_option linter.unusedVariables false
set_option maxRecDepth 100000
namespace Go.Proofs.Tryz
open Go Go.V
theorem Q78:G6 Tryz.prog 43 mLost:=Hx mixed Tm 300 rfl Q2z
end Go.Proofs.Tryz
namespace Go.Proofs.Tryz
open Go Go.V Go.Proofs
def XC (hk:Int) (cs:List Ka) (cl:List Int) (fa:Int):List Int :=
 ((List.range cs.length).map λ(a:Nat)=>(a:Int)).filter λa=>(List.range (fa.toNat+1)).any λf=>!(wyK cs.length fa.toNat (λk=>wvB hk cs cl k) cl.length (a,(f:Int))==0)
theorem LL {hk:Int}{cs:List Ka}{cl:List Int}{fa:Int}(hn:0<cs.length) {a:Int}:a∈XC hk cs cl fa<->∃ f,wyK cs.length fa.toNat (λk=>wvB hk cs cl k) cl.length (a,f)≠0:=by
 unfold XC;rw[zt,zo,xF];constructor
 .rintro⟨_,f,_,h⟩;exact⟨(f:Int),by simpa using h⟩
 .rintro⟨f,h⟩;have hg:=Wb.1 (An _ _ _ hn _ _ h);dsimp only at hg;refine⟨⟨a.toNat,zA.2 (by omega),by omega⟩,f.toNat,zA.2 (by omega),?_⟩;rw[show ((f.toNat:Nat):Int)=f by omega];simpa using h
theorem By (hk:Int) (cs:List Ka) (cl:List Int) (fa:Int):(XC hk cs cl fa).Pairwise (·<·):=by
 unfold XC;refine List.Pairwise.filter _ (xc.2 (List.pairwise_lt_range.imp λh=>by omega))
theorem P5:∀ {l m:List Int},l.Pairwise (·<·)->m.Pairwise (·<·)->(∀ x,x∈l<->x∈m)->l=m
 |[],[],_,_,_=>rfl
 |[],y::m,_,_,h=>by have:=(h y).2 (zf ..);cases this
 |x::l,[],_,_,h=>by have:=(h x).1 (zf ..);cases this
 |x::l,y::m,hl,hm,h=>by
  rw[xM] at hl hm;have e:x=y:=by
   rcases zj.1 ((h x).1 (zf ..)) with e|e
   .exact e
   .rcases zj.1 ((h y).2 (zf ..)) with e2|e2
    .exact e2.symm
    .have:=hm.1 x e;have:=hl.1 y e2;omega
  subst e;have:l=m:=P5 hl.2 hm.2 λz=>by
   have hz:=h z;rw[zj,zj] at hz;constructor
   .intro fj;rcases hz.1 (.inr fj) with e|e
    .have:=hl.1 z fj;omega
    .exact e
   .intro sB;rcases hz.2 (.inr sB) with e|e
    .have:=hm.1 z sB;omega
    .exact e
  rw[this]
theorem Fa (k:Int):∀ (m:List (Int×Bool)),(m.map (·.1)).Nodup->((Nf (.i .i64) m k true).map (·.1)).Nodup/\∀ x,x∈(Nf (.i .i64) m k true).map (·.1)<->x=k\/x∈m.map (·.1)
 |[],_=>⟨List.pairwise_singleton _ _,λx=>by show x∈[k]<->_;simp⟩
 |(a,b)::m,hn=>by
  rw[zE,z_] at hn;obtain⟨h1,h2⟩:=Fa k m hn.2;by_cases hk:k=a
  .subst hk;have e:Nf (.i .i64) ((k,b)::m) k true=(k,true)::m:=by
    show (if gq.keq (.i .i64) k k=true then (k,true)::m else _)=_;rw[z3 (show gq.keq (.i .i64) k k=true from by show ((k:Int)==k)=true;simp)]
   rw[e,zE,zE];refine⟨z_.2 hn,λx=>?_⟩;simp only[zj];constructor
   .rintro (h|h)
    .exact .inl h
    .exact .inr (.inr h)
   .rintro (h|h|h)
    .exact .inl h
    .exact .inl h
    .exact .inr h
  .have e:Nf (.i .i64) ((a,b)::m) k true=(a,b)::Nf (.i .i64) m k true:=by
    show (if gq.keq (.i .i64) k a=true then _ else (a,b)::Nf (.i .i64) m k true)=_;rw[z0 (show ¬ gq.keq (.i .i64) k a=true from λh=>hk (by have h:((k:Int)==a)=true:=h;exact eq_of_beq h))]
   rw[e,zE,zE];refine⟨z_.2 ⟨λhm=>?_,h1⟩,λx=>?_⟩
   .rcases (h2 a).1 hm with h|h
    .exact hk h.symm
    .exact hn.1 h
   .rw[zj,h2 x,zj];constructor
    .rintro (h|h|h)
     .exact .inr (.inl h)
     .exact .inl h
     .exact .inr (.inr h)
    .rintro (h|h|h)
     .exact .inr (.inl h)
     .exact .inl h
     .exact .inr (.inr h)
theorem Lk {α:Type}[BEq α] [LawfulBEq α]:∀ {l m:List α},l.Nodup->(∀ x∈l,x∈m)->l.length<=m.length
 |[],_,_,_=>Nat.zero_le _
 |x::l,m,hn,hs=>by rw[z_] at hn;have hx:x∈m:=hs x (zf ..);have:=Lk (l:=l) (m:=m.erase x) hn.2 λy hy=>(List.mem_erase_of_ne (by rintro rfl;exact hn.1 hy)).2 (hs y (ze _ hy));rw[List.length_erase_of_mem hx] at this;have:=List.length_pos_of_mem hx;rw[zT];omega
theorem LoopP.rng2 {X:Type}{F:List Nat×X->(List Nat×X->Prop)->Prop}(n:Nat) (J:X->List Nat->Prop) {x0:X}(h0:J x0 [])
  (hr:∀ (x:X) (dn:List Nat),dn.Nodup->(∀ r∈dn,r<n)->J x dn->∀ q:List Nat×X->Prop,(∀ (r:Nat) (x':X),r<n->r∉dn->J x' (dn++[r])->q (dn++[r],x'))->F (dn,x) q):LoopP F ([],x0):=by
 refine⟨λd=>d.1.Nodup/\(∀ r∈d.1,r<n)/\J d.2 d.1,λd=>n-d.1.length,⟨List.nodup_nil,(λr hr=>by cases hr),h0⟩,λ⟨dn,x⟩ ⟨h1,h2,h3⟩=>?_⟩;have h1:dn.Nodup:=h1;have h2:∀ r∈dn,r<n:=h2;refine hr x dn h1 h2 h3 _ λr x' af fP hJ=>?_;have hn:=HO h1 fP;have hb:∀ y∈dn++[r],y<n:=λy hy=>by
  rcases zz.1 hy with h|h
  .exact h2 y h
  .rw[zd] at h;omega
 refine⟨⟨hn,hb,hJ⟩,?_⟩;have:=Gu hn (m:=List.range n) λy hy=>zA.2 (hb y hy);rw[wj,zH,xe] at this;have e:(dn++[r]).length=dn.length+1:=by simp
 show n-(dn++[r]).length<n-dn.length;omega
def KeyW (n:Nat) (m:List ((Int×Int)×Int)) (x:List (Int×Bool)) (dn:List Nat):Prop:=(x.map (·.1)).Nodup/\∀ a,a∈x.map (·.1)<->∃ r∈dn,(m.getD r ((0,0),0)).1.1=a
theorem KeyW.snoc {n:Nat}{m:List ((Int×Int)×Int)}{x:List (Int×Bool)}{dn:List Nat}(h:KeyW n m x dn) (r:Nat):KeyW n m (Nf (.i .i64) x (m.getD r ((0,0),0)).1.1 true) (dn++[r]):=by
 obtain⟨h1,h2⟩:=Fa (m.getD r ((0,0),0)).1.1 x h.1;refine⟨h1,λa=>?_⟩;rw[h2 a,h.2 a];constructor
 .rintro (rfl|⟨s,hs,rfl⟩)
  .exact⟨r,by simp,rfl⟩
  .exact⟨s,xI _ hs,rfl⟩
 .rintro⟨s,hs,rfl⟩;rcases zz.1 hs with hs|hs
  .exact .inr ⟨s,hs,rfl⟩
  .rw[zd] at hs;subst hs;exact .inl rfl
theorem KeyW.len {n mo:Nat}{m:List ((Int×Int)×Int)}{W:Int×Int->Int}(hm:MapW n mo m W) {x:List (Int×Bool)}{dn:List Nat}(af:∀ r∈dn,r<m.length) (h:KeyW n m x dn):x.length<=n:=by
 have:=Lk (l:=x.map (·.1)) (m:=(List.range n).map λ(a:Nat)=>(a:Int)) h.1 λa ha=>by
  obtain⟨r,hr,rfl⟩:=(h.2 a).1 ha;have df:=af r hr;rw[Qc df];have hg:=Wb.1 (hm.2.1 _ (zu df)).2.2;exact zo.2 ⟨(m[r].1.1).toNat,zA.2 (by omega),by omega⟩
 simpa using this
theorem KeyW.all {hk:Int}{cs:List Ka}{cl:List Int}{fa:Int}(hn:0<cs.length) {m:List ((Int×Int)×Int)}(hm:MapW cs.length fa.toNat m (wyK cs.length fa.toNat (λk=>wvB hk cs cl k) cl.length)) {x:List (Int×Bool)}{dn:List Nat}(af:∀ r∈dn,r<m.length) (h:KeyW cs.length m x dn) (ae:∀ r,r<m.length->r∈dn) (a:Int):a∈x.map (·.1)<->a∈XC hk cs cl fa:=by
 rw[h.2 a,LL hn];constructor
 .rintro⟨r,hr,rfl⟩;have df:=af r hr;rw[Qc df];have he:=hm.2.1 _ (zu df);refine⟨m[r].1.2,?_⟩;have:(m[r].1.1,m[r].1.2)=m[r].1:=rfl;rw[this,<-he.1];omega
 .rintro⟨f,hf⟩;obtain⟨e,he,hq⟩:=hm.2.2 (a,f) hf;obtain⟨r,hr,rfl⟩:=List.getElem_of_mem he;exact⟨r,ae r hr,by rw[Qc hr,hq]⟩
theorem KeyW.sorted {hk:Int}{cs:List Ka}{cl:List Int}{fa:Int}(hn:0<cs.length) {m:List ((Int×Int)×Int)}(hm:MapW cs.length fa.toNat m (wyK cs.length fa.toNat (λk=>wvB hk cs cl k) cl.length)) {x:List (Int×Bool)}{dn:List Nat}(af:∀ r∈dn,r<m.length) (h:KeyW cs.length m x dn) (ae:∀ r,r<m.length->r∈dn)
  {d2:List Nat}(pJ:d2.Nodup) (kS:∀ r∈d2,r<x.length) (rA:∀ r,r<x.length->r∈d2):US K7 (d2.map λr=>(x.getD r (0,false)).1) 0 (d2.map λr=>(x.getD r (0,false)).1).length=XC hk cs cl fa:=by
 have hx:∀ r,r<x.length->(x.getD r (0,false)).1=(x.map (·.1)).getD r 0:=λr hr=>by
  rw[Qc hr,Qc (by simpa using hr),xS]
 have oW:(d2.map λr=>(x.getD r (0,false)).1).Nodup:=xc.2 (List.Pairwise.imp_of_mem (λ{a b} ha hb aw e=>by
  rw[hx a (kS a ha),hx b (kS b hb)] at e;have la:a<(x.map (·.1)).length:=by simpa using kS a ha
  have lb:b<(x.map (·.1)).length:=by simpa using kS b hb
  rw[Qc la,Qc lb] at e;exact aw ((List.getElem_inj h.1).1 e)) pJ)
 refine P5 (Z8j oW) (By ..) λz=>?_;rw[(Vi (f:=K7) (a:=0) (z7 _)).mem_iff,<-KeyW.all hn hm af h ae z,zo,zo];constructor
 .rintro⟨r,hr,rfl⟩;have:=kS r hr;exact⟨x[r],zu this,by rw[Qc this]⟩
 .rintro⟨e,he,rfl⟩;obtain⟨r,hr,rfl⟩:=List.getElem_of_mem he;exact⟨r,rA r hr,by rw[Qc hr]⟩
def Dq:AL ((Int×List (Int×Int×Bool))×List Int×Int):=(.cons (.agg (.cons (.k (.i .i64)) (.one (.k (.list (.pair (.i .i64) (.pair (.i .i64) .bo))))))) (.cons (.k (.list (.i .i64))) (.one (.k (.i .i64)))))
def Rb (d:(Int×List (Int×Int×Bool))×List Int×Int):Prop:=Qg d.1.1 d.1.2=0/\d.2.1.length<=60/\(∀ r∈d.2.1,-1<=r/\r<2 ^ d.1.1.toNat)/\0<=d.2.2/\d.2.2<=6/\d.1.2.length<=12
def Gh (d:(Int×List (Int×Int×Bool))×List Int×Int):SV:=.tup [.lst 0,.val (.i .i64) (0:Int)]
def Gk (d:(Int×List (Int×Int×Bool))×List Int×Int):List OB:=[.lst 3 (.i .i64) (XC d.1.1 d.1.2 d.2.1 d.2.2) ((XC d.1.1 d.1.2 d.2.1 d.2.2).isEmpty)]
def Nu:CSp:=Ko Dq Rb Gh Gk
abbrev R8:=λ(iP:List (Int×Bool)) (jR:List Nat) mu (jg:List Value) (jh:Int) (mw:Bool) (oX:List ((Int×Int)×Int)) (mz:List Nat) (oY:List Value) (mA:List Value) (iQ:LpD) (gL:List Int) (jS:_->Prop)=>(( ∃ pK:( List Nat )×( List Int ) ,( ( True/\True/\True )/\( ( iP=iP/\( jR++[ mu ] )=pK.1 )/\( jg=jg/\( True/\True/\True/\True/\True/\True/\True/\True/\True/\jh=jh/\True/\True/\True/\True/\True/\True/\True/\True/\True/\True/\True/\True/\True/\mw=mw/\True/\True/\True/\True/\True/\True/\( ( ( ( [ ]:List SV )=[ ] ) )/\( True/\( ( [ ]:List SV )=[ ] ) ) )/\True/\True/\( ( [ ]:List SV )=[ ] ) ) )/\( oX=oX/\mz=mz )/\( True/\( ( [ ]:List SV )=[ ] ) )/\( oY=oY/\( ( ( ( ( [ ]:List SV )=[ ] ) )/\( True/\( ( [ ]:List SV )=[ ] ) ) )/\True/\True/\True/\( ( ( ( [ ]:List SV )=[ ] ) )/\( True/\( ( [ ]:List SV )=[ ] ) ) )/\True/\True/\True/\True/\( ( [ ]:List SV )=[ ] ) ) )/\( mA=mA/\( ( ( ( ( [ ]:List SV )=[ ] ) )/\( True/\( ( [ ]:List SV )=[ ] ) ) )/\True/\True/\( ( ( ( [ ]:List SV )=[ ] ) )/\( True/\( ( [ ]:List SV )=[ ] ) ) )/\True/\( ( [ ]:List SV )=[ ] ) ) )/\( iQ=iQ/\( True/\( ( ( ( [ ]:List SV )=[ ] ) )/\( True/\( ( [ ]:List SV )=[ ] ) ) )/\True/\True/\True/\True/\( ( ( ( [ ]:List SV )=[ ] ) )/\( True/\( ( [ ]:List SV )=[ ] ) ) )/\True/\True/\True/\True/\True/\True/\( ( [ ]:List SV )=[ ] ) ) )/\( True/\( ( [ ]:List SV )=[ ] ) )/\( ( gL++[ ( List.getD iP ( List.getLastD ( jR++[ mu ] ) 0 ) ( 0 ,false ) ).1 ] )=pK.2/\false=( List.isEmpty pK.2 ) )/\True ) )/\jS pK ):Prop)
abbrev RA:=λ(hk:Int) (cs:List (Int×Int×Bool)) (cl:List Int) (fa:Int) (iP:List Nat) (jR:LpD) (mu:LpD) (jg:List Int) (jh:List (Int×Bool)) (mw:List Value) (oX:List Value) (mz:List Value) (oY:List Value) (mA:List Value) (iQ:List Value) (gL:Int) (jS:Bool) (oZ:List ((Int×Int)×Int)) (o3:List Nat) (rB:_->Prop) (o4:Nat)=>(( false=true->( iP≠[ ] )/\jR=mu/\∀ sC:List Value ,( ( ( List.length jg )+( List.length [ ( List.getD jh ( List.getLastD iP 0 ) ( 0 ,false ) ).1 ] ) )*8<=70368744177664 )/\sC=sC/\jR=mu/\( ( ! true )=true->jR=mu/\mw=oX/\mz=oY/\( ( jg++[ ( List.getD jh ( List.getLastD iP 0 ) ( 0 ,false ) ).1 ] ).length<=12 )/\mA=iQ/\( ( True/\gL=( 0:Int )/\( ( [ ]:List SV )=[ ] ) )/\( ( ( US K7 ( jg++[ ( List.getD jh ( List.getLastD iP 0 ) ( 0 ,false ) ).1 ] ) 0 ( jg++[ ( List.getD jh ( List.getLastD iP 0 ) ( 0 ,false ) ).1 ] ).length )=( XC hk cs cl fa )/\false=( XC hk cs cl fa ).isEmpty )/\True ) ) )/\( ( ! true )=false->( ∃ pL:( List Nat )×( List Int ) ,( ( True/\True/\True )/\( ( jh=jh/\iP=pL.1 )/\( mA=mA/\( True/\True/\True/\True/\True/\True/\True/\True/\True/\gL=gL/\True/\True/\True/\True/\True/\True/\True/\True/\True/\True/\True/\True/\True/\jS=jS/\True/\True/\True/\True/\True/\True/\( ( ( ( [ ]:List SV )=[ ] ) )/\( True/\( ( [ ]:List SV )=[ ] ) ) )/\True/\True/\( ( [ ]:List SV )=[ ] ) ) )/\( oZ=oZ/\o3=o3 )/\( True/\( ( [ ]:List SV )=[ ] ) )/\( mz=mz/\( ( ( ( ( [ ]:List SV )=[ ] ) )/\( True/\( ( [ ]:List SV )=[ ] ) ) )/\True/\True/\True/\( ( ( ( [ ]:List SV )=[ ] ) )/\( True/\( ( [ ]:List SV )=[ ] ) ) )/\True/\True/\True/\True/\( ( [ ]:List SV )=[ ] ) ) )/\( mw=mw/\( ( ( ( ( [ ]:List SV )=[ ] ) )/\( True/\( ( [ ]:List SV )=[ ] ) ) )/\True/\True/\( ( ( ( [ ]:List SV )=[ ] ) )/\( True/\( ( [ ]:List SV )=[ ] ) ) )/\True/\( ( [ ]:List SV )=[ ] ) ) )/\( jR=jR/\( True/\( ( ( ( [ ]:List SV )=[ ] ) )/\( True/\( ( [ ]:List SV )=[ ] ) ) )/\True/\True/\True/\True/\( ( ( ( [ ]:List SV )=[ ] ) )/\( True/\( ( [ ]:List SV )=[ ] ) ) )/\True/\True/\True/\True/\True/\True/\( ( [ ]:List SV )=[ ] ) ) )/\( True/\( ( [ ]:List SV )=[ ] ) )/\( ( jg++[ ( List.getD jh ( List.getLastD iP 0 ) ( 0 ,false ) ).1 ] )=pL.2/\false=( List.isEmpty pL.2 ) )/\True ) )/\rB pL ) ) )/\( false=false->jR=mu/\mw=oX/\mz=oY/\( o4<=12 )/\mA=iQ/\( ( True/\gL=( 0:Int )/\( ( [ ]:List SV )=[ ] ) )/\( ( ( US K7 jg 0 o4 )=( XC hk cs cl fa )/\( List.isEmpty jg )=( XC hk cs cl fa ).isEmpty )/\True ) ) ):Prop)
abbrev KD :=(((([]:List SV)=[]))/\(True/\(([]:List SV)=[])))
abbrev Cm :=(True/\KD/\True/\True/\True/\True/\KD/\True/\True/\True/\True/\True/\True/\(([]:List SV)=[]))
abbrev Cj :=(KD/\True/\True/\True/\KD/\True/\True/\True/\True/\(([]:List SV)=[]))
abbrev T2 :=((0:Int)=(0:Int)/\True/\True/\True)
abbrev Hi :=(True/\(([]:List SV)=[]))
abbrev Ah :=(KD/\True/\True/\KD/\True/\(([]:List SV)=[]))
def YR (hk:Int) (cs:List (Int × Int × Bool)) (cl:List Int) (fa:Int):Prop :=
  (Qg hk cs = 0 /\ cl.length <= 60 /\ (∀ r ∈ cl, -1 <= r /\ r < 2 ^ hk.toNat) /\ 0 <= fa /\ fa <= 6) /\ (∀ m1:List ((Int × Int) × Int), (MapW cs.length fa.toNat m1 (wyK cs.length fa.toNat (λk => wvB hk cs cl k) cl.length)) -> ∃ (e4:(List ((Int × Int) × Int))) (d40:(List (Int × Bool)) × (List Nat)), (T2 /\ ((([]:List (Int × Bool)) = d40.1) /\ (m1 = e4 /\ ([]:List Nat) = d40.2) /\ True)) /\
  LoopP (λ(d4:(List (Int × Bool)) × (List Nat)) (q4:((List (Int × Bool)) × (List Nat)) -> Prop) =>
    ((∀ r:Nat, r < (List.length e4) -> r ∈ d4.2) ->
      (false = true ->
        (d4.2 ≠ []) /\ (∃ d6:(List (Int × Bool)) × (List Nat), (T2 /\ (((Nf (.i .i64) d4.1 (List.getD e4 (List.getLastD d4.2 0) ((0, 0), 0)).1.1 true) = d6.1) /\ (e4 = e4 /\ d4.2 = d6.2) /\ True)) /\ q4 d6)) /\
      (false = false ->
        ∀ w7:List Value, w7 = w7 /\ ∀ w8:List Value, ∀ w9:List Value, ∀ gZ:List Value, ∀ fM:LpD, ∃ (au:(List (Int × Bool)) × Int × (List ((Int × Int) × Int)) × (List Nat) × Bool × (List Value) × (List Value) × (List Value) × LpD) (d150:(List Nat) × (List Int)), ((True /\ True /\ True) /\ ((d4.1 = au.1 /\ ([]:List Nat) = d150.1) /\ ((pj4 au).2.1 = w8 /\ (True /\ True /\ True /\ True /\ True /\ True /\ True /\ True /\ True /\ (0:Int) = au.2.1 /\ True /\ True /\ True /\ True /\ True /\ True /\ True /\ True /\ True /\ True /\ True /\ True /\ True /\ false = (pj4 au).1 /\ True /\ True /\ True /\ True /\ True /\ True /\ KD /\ True /\ True /\ (([]:List SV) = []))) /\ (e4 = au.2.2.1 /\ d4.2 = au.2.2.2.1) /\ Hi /\ ((pj4 au).2.2.1 = w9 /\ Cj) /\ ((pj4 au).2.2.2.1 = gZ /\ Ah) /\ ((pj8 au) = fM /\ Cm) /\ Hi /\ (d150.2 = [] /\ (List.isEmpty d150.2) = true) /\ True)) /\
        LoopP (λ(d15:(List Nat) × (List Int)) (pG:((List Nat) × (List Int)) -> Prop) =>
          ((∀ r:Nat, r < (List.length au.1) -> r ∈ d15.1) ->
             (RA hk cs cl fa d15.1 (pj8 au) fM d15.2 au.1 (pj4 au).2.2.2.1 gZ (pj4 au).2.2.1 w9 (pj4 au).2.1 w8 au.2.1 (pj4 au).1 au.2.2.1 au.2.2.2.1 pG d15.2.length)) /\
          (∀ kT:Nat, kT < (List.length au.1) -> kT ∉ d15.1 ->
            (true = true ->
              ((d15.1 ++ [kT]) ≠ []) /\ (pj8 au) = fM /\ ∀ sD:List Value, (((List.length d15.2) + (List.length [(List.getD au.1 (List.getLastD (d15.1 ++ [kT]) 0) (0, false)).1])) * 8 <= 70368744177664) /\ sD = sD /\ (pj8 au) = fM /\ ((!true) = true ->
                (pj8 au) = fM /\ (pj4 au).2.2.2.1 = gZ /\ (pj4 au).2.2.1 = w9 /\ ((d15.2 ++ [(List.getD au.1 (List.getLastD (d15.1 ++ [kT]) 0) (0, false)).1]).length <= 12) /\ (pj4 au).2.1 = w8 /\ ((True /\ au.2.1 = (0:Int) /\ (([]:List SV) = [])) /\ (((US K7 (d15.2 ++ [(List.getD au.1 (List.getLastD (d15.1 ++ [kT]) 0) (0, false)).1]) 0 (d15.2 ++ [(List.getD au.1 (List.getLastD (d15.1 ++ [kT]) 0) (0, false)).1]).length) = (XC hk cs cl fa) /\ false = (XC hk cs cl fa).isEmpty) /\ True))) /\
              ((!true) = false ->
                 (R8 au.1 d15.1 kT (pj4 au).2.1 au.2.1 (pj4 au).1 au.2.2.1 au.2.2.2.1 (pj4 au).2.2.1 (pj4 au).2.2.2.1 (pj8 au) d15.2 pG))) /\
            (true = false ->
              (pj8 au) = fM /\ (pj4 au).2.2.2.1 = gZ /\ (pj4 au).2.2.1 = w9 /\ (d15.2.length <= 12) /\ (pj4 au).2.1 = w8 /\ ((True /\ au.2.1 = (0:Int) /\ (([]:List SV) = [])) /\ (((US K7 d15.2 0 d15.2.length) = (XC hk cs cl fa) /\ (List.isEmpty d15.2) = (XC hk cs cl fa).isEmpty) /\ True))))) d150)) /\
    (∀ r5:Nat, r5 < (List.length e4) -> r5 ∉ d4.2 ->
      (true = true ->
        ((d4.2 ++ [r5]) ≠ []) /\ (∃ d21:(List (Int × Bool)) × (List Nat), (T2 /\ (((Nf (.i .i64) d4.1 (List.getD e4 (List.getLastD (d4.2 ++ [r5]) 0) ((0, 0), 0)).1.1 true) = d21.1) /\ (e4 = e4 /\ (d4.2 ++ [r5]) = d21.2) /\ True)) /\ q4 d21)) /\
      (true = false ->
        ∀ sE:List Value, sE = sE /\ ∀ pM:List Value, ∀ pN:List Value, ∀ pO:List Value, ∀ mX:LpD, ∃ (bJ:(List (Int × Bool)) × Int × (List ((Int × Int) × Int)) × (List Nat) × Bool × (List Value) × (List Value) × (List Value) × LpD) (jT:(List Nat) × (List Int)), ((True /\ True /\ True) /\ ((d4.1 = bJ.1 /\ ([]:List Nat) = jT.1) /\ ((pj4 bJ).2.1 = pM /\ (True /\ True /\ True /\ True /\ True /\ True /\ True /\ True /\ True /\ (0:Int) = bJ.2.1 /\ True /\ True /\ True /\ True /\ True /\ True /\ True /\ True /\ True /\ True /\ True /\ True /\ True /\ true = (pj4 bJ).1 /\ True /\ True /\ True /\ True /\ True /\ True /\ KD /\ True /\ True /\ (([]:List SV) = []))) /\ (e4 = bJ.2.2.1 /\ (d4.2 ++ [r5]) = bJ.2.2.2.1) /\ Hi /\ ((pj4 bJ).2.2.1 = pN /\ Cj) /\ ((pj4 bJ).2.2.2.1 = pO /\ Ah) /\ ((pj8 bJ) = mX /\ Cm) /\ Hi /\ (jT.2 = [] /\ (List.isEmpty jT.2) = true) /\ True)) /\
        LoopP (λ(d30:(List Nat) × (List Int)) (sF:((List Nat) × (List Int)) -> Prop) =>
          ((∀ r:Nat, r < (List.length bJ.1) -> r ∈ d30.1) ->
             (RA hk cs cl fa d30.1 (pj8 bJ) mX d30.2 bJ.1 (pj4 bJ).2.2.2.1 pO (pj4 bJ).2.2.1 pN (pj4 bJ).2.1 pM bJ.2.1 (pj4 bJ).1 bJ.2.2.1 bJ.2.2.2.1 sF d30.2.length)) /\
          (∀ kU:Nat, kU < (List.length bJ.1) -> kU ∉ d30.1 ->
            (true = true ->
              ((d30.1 ++ [kU]) ≠ []) /\ (pj8 bJ) = mX /\ ∀ sG:List Value, (((List.length d30.2) + (List.length [(List.getD bJ.1 (List.getLastD (d30.1 ++ [kU]) 0) (0, false)).1])) * 8 <= 70368744177664) /\ sG = sG /\ (pj8 bJ) = mX /\ ((!true) = true ->
                (pj8 bJ) = mX /\ (pj4 bJ).2.2.2.1 = pO /\ (pj4 bJ).2.2.1 = pN /\ ((d30.2 ++ [(List.getD bJ.1 (List.getLastD (d30.1 ++ [kU]) 0) (0, false)).1]).length <= 12) /\ (pj4 bJ).2.1 = pM /\ ((True /\ bJ.2.1 = (0:Int) /\ (([]:List SV) = [])) /\ (((US K7 (d30.2 ++ [(List.getD bJ.1 (List.getLastD (d30.1 ++ [kU]) 0) (0, false)).1]) 0 (d30.2 ++ [(List.getD bJ.1 (List.getLastD (d30.1 ++ [kU]) 0) (0, false)).1]).length) = (XC hk cs cl fa) /\ false = (XC hk cs cl fa).isEmpty) /\ True))) /\
              ((!true) = false ->
                 (R8 bJ.1 d30.1 kU (pj4 bJ).2.1 bJ.2.1 (pj4 bJ).1 bJ.2.2.1 bJ.2.2.2.1 (pj4 bJ).2.2.1 (pj4 bJ).2.2.2.1 (pj8 bJ) d30.2 sF))) /\
            (true = false ->
              (pj8 bJ) = mX /\ (pj4 bJ).2.2.2.1 = pO /\ (pj4 bJ).2.2.1 = pN /\ (d30.2.length <= 12) /\ (pj4 bJ).2.1 = pM /\ ((True /\ bJ.2.1 = (0:Int) /\ (([]:List SV) = [])) /\ (((US K7 d30.2 0 d30.2.length) = (XC hk cs cl fa) /\ (List.isEmpty d30.2) = (XC hk cs cl fa).isEmpty) /\ True))))) jT))) d40)
def Z5:Cx:=⟨[],[],4,[],0,[],[],[],[],false,[],[],[],[]⟩
def Z6:List (Nat×LoopAnn):=[]
def Q8:Cx:=⟨[],[],14,[],0,[],[],[],[],false,[],[],[],[]⟩
def Q9:List (Nat×LoopAnn):=[(0,⟨(List (Int×Bool))×Int×(List ((Int×Int)×Int))×(List Nat)×Bool×(List Value)×(List Value)×(List Value)×LpD,(List Nat)×(List Int),[0,5],λe x=>[.dd 32000060002500000 .yv,.box 3200006000250000100005 0],λe x=>[(3200006000250000100005,.slot 5,.iter (.i .i64) .bo e.1 x.1),(3199999,.key 3199999,.stk [.any,.any,.any,.any,.any,.any,.any,.any,.any,.val (.i .i64) e.2.1,.any,.any,.any,.any,.any,.any,.any,.any,.any,.any,.any,.box 21 0,.any,.val .bo e.2.2.2.2.1,.any,.any,.any,.any,.any,.any,.fn 121 [] [.box 3100001 0],.any,.any] e.2.2.2.2.2.1),(21,.key 21,.iter (.pair (.i .i64) (.i .i64)) (.i .i64) e.2.2.1 e.2.2.2.1),(3100001,.key 3100001,.cells [.any] (some 122)),(320000599999,.key 320000599999,.stk [.fn 121 [] [.box 3100001 0],.any,.nilS,.any,.fn 121 [] [.box 3100001 0],.any,.any,.any,.any] e.2.2.2.2.2.2.1),(32000060000499999,.key 32000060000499999,.stk [.fn 121 [] [.box 3100001 0],.any,.nilS,.fn 121 [] [.box 3100001 0],.any] e.2.2.2.2.2.2.2.1),(32000060002500000,.key 32000060002500000,.lpf [.nilS,.fn 121 [] [.box 3100001 0],.box 32000060000500002 0,.any,.nilS,.any,.fn 121 [] [.box 3100001 0],.any,.any,.any,.any,.any,.any] e.2.2.2.2.2.2.2.2 .rdy),(32000060000500002,.key 32000060000500002,.cells [.lst 32000060000500011] (some 27)),(32000060000500011,.cell 32000060000500002 0,.lst 3 (.i .i64) x.2 (List.isEmpty x.2))]⟩)]
def Qi:Cx:=⟨[(3,(.i .i64))],[],13,[],0,[],[],[],[],false,[],[(121,Z7f Q8 Q9 Z67 14)],[],[]⟩
def Qj:List (Nat×LoopAnn):=[]
def QK:Cx:=⟨[],[],5,[],0,[(146,IF Qi (λ_=>Qj) Z65 [.tmp 4] 13)],[],[],[],false,[],[],[],[]⟩
def QN:List (Nat×LoopAnn):=[]
def Jv:Cx:=⟨[],[],9,[],0,[(119,IF QK (λ_=>QN) Z69 [.tmp 2] 5),(120,Xs)],[],[],[],false,[],[],[],[]⟩
def Js:List (Nat×LoopAnn):=[]
def G_:Cx:=⟨[(1000019,(.pair (.i .i64) .bo))],[],33,[],0,[(79,Kr),(81,IF Z5 (λ_=>Z6) c81 [.tmp 2] 4),(80,IF Jv (λ_=>Js) c80 [.tmp 2] 9)],[],[],[],false,[],[],[],[]⟩
def Su (hk:Int) (cs:List (Int×Int×Bool)) (cl:List Int) (fa:Int):List (Nat×LoopAnn):=[(0,⟨(List ((Int×Int)×Int)),(List (Int×Bool))×(List Nat),[9,10,21],λe x=>[.val (.i .i64) (0:Int),.map 19,.box 21 0],λe x=>[(19,.slot 10,.map (.i .i64) .bo x.1),(21,.slot 21,.iter (.pair (.i .i64) (.i .i64)) (.i .i64) e x.2)]⟩)]
theorem SK (d:(Int×List (Int×Int×Bool))×List Int×Int):gwp (G_) (Su d.1.1 d.1.2 d.2.1 d.2.2) c28 0 (KQ [.tmp 6,.tmp 7] (Gh d) (Gk d)) (QI 33 (AL.can Dq d))=YR d.1.1 d.1.2 d.2.1 d.2.2:=by kernel_rfl
abbrev SF:Prop:=OkC Tryz.prog 28 Nu
theorem Sr (h:∀ (hk:Int) (cs:List (Int×Int×Bool)) (cl:List Int) (fa:Int),(Qg hk cs=0/\cl.length<=60/\(∀ r∈cl,-1<=r/\r<2 ^ hk.toNat)/\0<=fa/\fa<=6/\cs.length<=12)->YR hk cs cl fa):OkC Tryz.prog 28 Nu :=
 QT Z10 mixed (C:=G_) (V:=λ(d:(Int×List (Int×Int×Bool))×List Int×Int)=>YR d.1.1 d.1.2 d.2.1 d.2.2) ⟨.nil,(XsOk.cons Mt (XsOk.cons (Yy Z1g mixed (C:=Z5) ⟨.nil,XsOk.nil,ItsOk.nil,YlOk.nil,IysOk.nil,XfOk.nil⟩ (λ_=>Z6)) (XsOk.cons (Yy Z0y mixed (C:=Jv) ⟨.nil,(XsOk.cons (Yy Q4c mixed (C:=QK) ⟨.nil,(XsOk.cons (Yy Q1k mixed (C:=Qi) ⟨.nil,XsOk.nil,ItsOk.nil,YlOk.nil,(IysOk.cons (I6 Q4q mixed (C:=Q8) ⟨.nil,XsOk.nil,ItsOk.nil,YlOk.nil,IysOk.nil,XfOk.nil⟩ Q9) IysOk.nil),XfOk.nil⟩ (λ_=>Qj)) XsOk.nil),ItsOk.nil,YlOk.nil,IysOk.nil,XfOk.nil⟩ (λ_=>QN)) (XsOk.cons UU XsOk.nil)),ItsOk.nil,YlOk.nil,IysOk.nil,XfOk.nil⟩ (λ_=>Js)) XsOk.nil))),ItsOk.nil,YlOk.nil,IysOk.nil,XfOk.nil⟩ (SK) λd hp=>h d.1.1 d.1.2 d.2.1 d.2.2 hp
theorem SP:SF:=Sr λhk cs cl fa h=>by
 obtain⟨h1,h2,h3,h4,h5,h6⟩:=h;obtain⟨hf,cz,aw,ai⟩:=KU h1;have bE:=xP.2 aw;unfold YR;(try delta R8 RA KD Cm Cj T2 Hi Ah);(try delta lI gD sT I64 X4 pj8 pj4);refine⟨⟨h1,h2,h3,h4,h5⟩,λm hm=>⟨m,([],[]),(by and_intros<;>first|rfl|trivial),?_⟩⟩;refine LoopP.rng m.length (λx dn=>KeyW cs.length m x dn) ⟨List.nodup_nil,λa=>⟨(λh=>by cases h),(λ⟨r,hr,_⟩=>by cases hr)⟩⟩ ?_;intro x dn hn af hx q hq;dsimp only;refine⟨λae=>⟨(λc=>by cases c),λ_=>?_⟩,λr hr fP=>⟨λ_=>?_,(λc=>by cases c)⟩⟩
 .intro w7;refine⟨rfl,λw8 w9 gZ fM=>⟨(x,0,m,dn,false,w8,w9,gZ,fM),([],[]),(by and_intros<;>first|rfl|trivial),?_⟩⟩;dsimp only;have gQ:=KeyW.len hm af hx;refine LoopP.rng2 x.length (λys d2=>ys=d2.map λr=>(x.getD r (0,false)).1) rfl ?_;intro ys d2 pJ kS oW q2 nX;dsimp only;have hlen:ys.length=d2.length:=by rw[oW];simp
  have o5:=Gu pJ (m:=List.range x.length) λy hy=>zA.2 (kS y hy);rw[wj] at o5;refine⟨λrA=>⟨(λc=>by cases c),λ_=>?_⟩,λr hr fP=>⟨λ_=>?_,(λc=>by cases c)⟩⟩
  .have hs:=KeyW.sorted bE hm af hx ae pJ kS rA;rw[<-oW] at hs;have hl:=(Vi (f:=K7) (a:=0) (z7 ys.length)).length_eq;rw[hs] at hl;refine⟨rfl,rfl,rfl,by omega,rfl,⟨by and_intros<;>first|rfl|trivial,⟨hs,?_⟩,trivial⟩⟩;rw[Bool.eq_iff_iff,List.isEmpty_iff,List.isEmpty_iff,<-zW,<-zW,hl]
  .have dZ:List.getLastD (d2++[r]) 0=r:=by simp
   rw[dZ];refine⟨by simp,rfl,λw=>⟨by simp only[xe];omega,rfl,rfl,(λc=>by cases c),λ_=>?_⟩⟩;refine⟨(d2++[r],ys++[(x.getD r (0,false)).1]),⟨⟨trivial,trivial,trivial⟩,?_⟩,nX r _ hr fP (by rw[oW];simp)⟩;and_intros<;>first|rfl|trivial|simp
 .have dZ:List.getLastD (dn++[r]) 0=r:=by simp
  rw[dZ];refine⟨by simp,(Nf (.i .i64) x (m.getD r ((0,0),0)).1.1 true,dn++[r]),(by and_intros<;>first|rfl|trivial),hq r _ hr fP (hx.snoc r)⟩
theorem TO {n mo:Nat}{wv:Nat->Int->Bool}{k:Nat}{L L':List ((Int×Int)×Int)}(h:(JO n mo).map (λq=>(q,wyK n mo wv k q))=L)
  (h':(JO n mo).map (λq=>(q,((JO n mo).map λp=>Ec n mo (wv k) p (Wd L p) q).sum))=L'):(JO n mo).map (λq=>(q,wyK n mo wv (k+1) q))=L':=by
 have hL:∀ p∈JO n mo,Wd L p=wyK n mo wv k p:=λp hp=>by
  have hn:(L.map (·.1)).Nodup:=by
   rw[<-h,wA];have:((λx:(Int×Int)×Int=>x.1) ∘ λq=>(q,wyK n mo wv k q))=id:=rfl;rw[this,List.map_id];exact Gr n mo
  have hm:(p,wyK n mo wv k p)∈L:=by rw[<-h];exact zo.2 ⟨p,hp,rfl⟩
  exact Q31 hn hm
 rw[<-h'];refine xp λq _=>?_;have:((JO n mo).map λp=>Ec n mo (wv k) p (Wd L p) q)=(JO n mo).map λp=>Ec n mo (wv k) p (wyK n mo wv k p) q:=xp λp hp=>by rw[hL p hp]
 rw[this];rfl
def five:List Ka:=[(0,1,false),(3,8,false),(1,2,false),(2,4,false),(4,15,false)]
def clo5:List Int:=[8,2,2,-1,1]
theorem Z3b:(JO 5 2).map (λq=>(q,wyK 5 2 (λk=>wvB 4 five clo5 k) 0 q))=[((0,0),1),((0,1),0),((0,2),0),((1,0),1),((1,1),0),((1,2),0),((2,0),1),((2,1),0),((2,2),0),((3,0),1),((3,1),0),((3,2),0),((4,0),1),((4,1),0),((4,2),0)]:=by kernel_rfl
theorem Z35:(JO 5 2).map (λq=>(q,wyK 5 2 (λk=>wvB 4 five clo5 k) 1 q))=[((0,0),0),((0,1),0),((0,2),0),((1,0),0),((1,1),1),((1,2),0),((2,0),1),((2,1),0),((2,2),0),((3,0),0),((3,1),1),((3,2),0),((4,0),0),((4,1),0),((4,2),0)]:=TO Z3b (by kernel_rfl)
theorem Z55:(JO 5 2).map (λq=>(q,wyK 5 2 (λk=>wvB 4 five clo5 k) 2 q))=[((0,0),0),((0,1),0),((0,2),0),((1,0),0),((1,1),0),((1,2),0),((2,0),0),((2,1),1),((2,2),0),((3,0),1),((3,1),0),((3,2),0),((4,0),0),((4,1),1),((4,2),0)]:=TO Z35 (by kernel_rfl)
theorem Z4m:(JO 5 2).map (λq=>(q,wyK 5 2 (λk=>wvB 4 five clo5 k) 3 q))=[((0,0),0),((0,1),0),((0,2),0),((1,0),0),((1,1),0),((1,2),0),((2,0),0),((2,1),0),((2,2),1),((3,0),0),((3,1),1),((3,2),0),((4,0),0),((4,1),0),((4,2),1)]:=TO Z55 (by kernel_rfl)
theorem Z3w:(JO 5 2).map (λq=>(q,wyK 5 2 (λk=>wvB 4 five clo5 k) 4 q))=[((0,0),0),((0,1),0),((0,2),2),((1,0),0),((1,1),0),((1,2),0),((2,0),0),((2,1),0),((2,2),0),((3,0),0),((3,1),0),((3,2),2),((4,0),0),((4,1),1),((4,2),0)]:=TO Z4m (by kernel_rfl)
theorem Q1w:(JO 5 2).map (λq=>(q,wyK 5 2 (λk=>wvB 4 five clo5 k) 5 q))=[((0,0),0),((0,1),0),((0,2),0),((1,0),0),((1,1),0),((1,2),2),((2,0),0),((2,1),0),((2,2),0),((3,0),0),((3,1),0),((3,2),0),((4,0),0),((4,1),0),((4,2),0)]:=TO Z3w (by kernel_rfl)
theorem Q3u:I9 4 five clo5 2=2:=by
 have h:(((JO 5 2).map (λq=>(q,wyK 5 2 (λk=>wvB 4 five clo5 k) 5 q))).map λx=>x.2).sum=2:=by rw[Q1w];rfl
 rw[wA] at h;exact h
theorem Q0d:XC 4 five clo5 2=[1]:=by
 refine P5 (By ..) (by simp) λz=>?_;rw[LL (by decide)];have ae:∀ q∈JO 5 2,(q,wyK 5 2 (λk=>wvB 4 five clo5 k) 5 q)∈([((0,0),0),((0,1),0),((0,2),0),((1,0),0),((1,1),0),((1,2),2),((2,0),0),((2,1),0),((2,2),0),((3,0),0),((3,1),0),((3,2),0),((4,0),0),((4,1),0),((4,2),0)]:List ((Int×Int)×Int)):=λq hq=>by rw[<-Q1w];exact zo.2 ⟨q,hq,rfl⟩
 constructor
 .rintro⟨f,hf⟩;have hg:=An 5 2 (λk=>wvB 4 five clo5 k) (by decide) 5 (z,f) hf;have h:=ae _ hg;have hf:wyK 5 2 (λk=>wvB 4 five clo5 k) 5 (z,f)≠0:=hf;generalize wyK 5 2 (λk=>wvB 4 five clo5 k) 5 (z,f)=w at h hf;simp only[zj,List.not_mem_nil,or_false,Prod.mk.injEq] at h;simp only[zj,List.not_mem_nil,or_false];omega
 .intro hz;simp only[zj,List.not_mem_nil,or_false] at hz;rcases hz with rfl
  .refine⟨2,?_⟩;have hm:(((1,2),2):(Int×Int)×Int)∈(JO 5 2).map (λq=>(q,wyK 5 2 (λk=>wvB 4 five clo5 k) 5 q)):=by rw[Q1w];simp
   obtain⟨q,_,hq⟩:=zo.1 hm;have h1:q=(1,2):=congrArg (λx:(Int×Int)×Int=>x.1) hq;have h2:wyK 5 2 (λk=>wvB 4 five clo5 k) 5 q=2:=congrArg (λx:(Int×Int)×Int=>x.2) hq;rw[h1] at h2;show wyK 5 2 (λk=>wvB 4 five clo5 k) 5 (1,2)≠0;rw[h2];decide
theorem Lm {bl:List PB}{i:Nat}{k:Kind}(hk:k.flat=true) (xs:List k.T) {b:PB}(hb:bl[i]?=some b) (hc:b.c=(xs.map (At k)).flatten) (hs:b.esz.sz=k.size):SlRel (QG bl []) k.size (λx c=>KC (QG bl []) k x c) xs (.slice (some ⟨i,0,none⟩) xs.length xs.length):=by
 have hr:=Rows.ofEnc (h:=QG bl []) hk xs;have hl:=hr.length KC.q0h;refine .inr ⟨i,0,xs.length,b.c,b.esz,false,b.tight,rfl,z7 _,?_,hs,?_,?_⟩
 .have hi:=(z9.1 hb).1;show (if i<bl.length then (bl[i]?).map (PB.blk false) else _)=_;rw[z3 hi,hb];rfl
 .rw[hc,hl];omega
 .rw[xg,hc,zM (by rw[hl];exact z7 _)];exact hr
theorem L3 {bl fr:List PB}{bs:List OB}(h:bs.map Q5a=fr.map λb=>some (b.blk true)):PT (QG bl []) bs=QG bl fr:=by
 have hl:bs.length=fr.length:=by have:=congrArg List.length h;simpa using this
 have hg:(PT (QG bl []) bs).get=(QG bl fr).get:=by
  funext i
  show (if i<(QG bl []).n then (QG bl []).get i else (bs[i-(QG bl []).n]?).bind Q5a)=if i<bl.length then (bl[i]?).map (PB.blk false) else (fr[i-bl.length]?).map (PB.blk true)
  have hn:(QG bl []).n=bl.length:=by show bl.length+0=_;omega
  rw[hn];by_cases hi:i<bl.length
  .rw[z3 hi,z3 hi];show (if i<bl.length then (bl[i]?).map (PB.blk false) else _)=_;rw[z3 hi]
  .rw[z0 hi,z0 hi];have:=congrArg (λl:List (Option Blk)=>l[i-bl.length]?) h;simp only[zU] at this;cases e1:bs[i-bl.length]? with
   |none =>
    rw[e1] at this;cases e2:fr[i-bl.length]? with
    |none=>rfl
    |some b=>rw[e2] at this;simp at this
   |some b =>
    rw[e1] at this;cases e2:fr[i-bl.length]? with
    |none=>rw[e2] at this;simp at this
    |some b2 =>rw[e2] at this;simp only[xB,x9] at this;simp only[xx,xB];exact this
 have hn:(PT (QG bl []) bs).n=(QG bl fr).n:=by show bl.length+0+bs.length=bl.length+fr.length;omega
 cases hA:PT (QG bl []) bs with
 |mk g n w =>
  cases hB:QG bl fr with
  |mk g' n' w' =>rw[hA,hB] at hg hn;subst hg;subst hn;rfl
abbrev Z2s:Kind:=.pair (.i .i64) (.pair (.i .i64) .bo)
def HB5:List PB:=[⟨[.int .i64 0,.int .i64 1,.bool false,.int .i64 3,.int .i64 8,.bool false,.int .i64 1,.int .i64 2,.bool false,.int .i64 2,.int .i64 4,.bool false,.int .i64 4,.int .i64 15,.bool false],⟨3,87⟩,true⟩,⟨[.int .i64 8,.int .i64 2,.int .i64 2,.int .i64 (-1),.int .i64 1],⟨1,3⟩,true⟩]
def Q3j:List Value:=[.agg #[.int .i64 4,.slice (some ⟨0,0,none⟩) 5 5],.slice (some ⟨1,0,none⟩) 5 5,.int .i64 2]
def AN:List SV:=[.agg [.val (.i .i64) (4:Int),.val (.list Z2s) five],.val (.list (.i .i64)) clo5,.val (.i .i64) (2:Int)]
theorem RB:SRs Tryz.prog (QG HB5 []) Xd J9 AN Q3j:=by
 have h1:SlRel (QG HB5 []) (Kind.size Z2s) (λx c=>KC (QG HB5 []) Z2s x c) five (.slice (some ⟨0,0,none⟩) 5 5):=Lm (bl:=HB5) (i:=0) (k:=Z2s) rfl five (b:=HB5[0]'(by decide)) rfl rfl rfl;have h2:SlRel (QG HB5 []) (Kind.size (.i .i64)) (λx c=>KC (QG HB5 []) (.i .i64) x c) clo5 (.slice (some ⟨1,0,none⟩) 5 5):=Lm (bl:=HB5) (i:=1) (k:=.i .i64) rfl clo5 (b:=HB5[1]'(by decide)) rfl rfl rfl;have s1:SR Tryz.prog (QG HB5 []) Xd J9 (.val (.list Z2s) five) (.slice (some ⟨0,0,none⟩) 5 5):=by simp only[SR,KC];exact⟨_,rfl,h1⟩
 have s2:SR Tryz.prog (QG HB5 []) Xd J9 (.val (.list (.i .i64)) clo5) (.slice (some ⟨1,0,none⟩) 5 5):=by simp only[SR,KC];exact⟨_,rfl,h2⟩
 have s3:∀ n:Int,SR Tryz.prog (QG HB5 []) Xd J9 (.val (.i .i64) n) (.int .i64 n):=λn=>XY _ _;have s0:SR Tryz.prog (QG HB5 []) Xd J9 (.agg [.val (.i .i64) (4:Int),.val (.list Z2s) five]) (.agg #[.int .i64 4,.slice (some ⟨0,0,none⟩) 5 5]):=by simp only[SR,SRs];exact⟨_,rfl,_,_,rfl,s3 4,_,_,rfl,s1,rfl⟩
 show SRs Tryz.prog (QG HB5 []) Xd J9 [_,_,_] [_,_,_];simp only[SRs];exact⟨_,_,rfl,s0,_,_,rfl,s2,_,_,rfl,s3 2,rfl⟩
theorem Gp:Qg 4 five=0/\clo5.length<=60/\(∀ r∈clo5,-1<=r/\r<2 ^ (4:Int).toNat)/\(0:Int)<=2/\(2:Int)<=6:=by refine⟨by decide,by decide,λr hr=>?_,by decide,by decide⟩;simp only[clo5,zj,List.not_mem_nil,or_false] at hr;have:(2:Int) ^ (4:Int).toNat=16:=rfl;omega
def Z5d:Memo:=⟨Q3j,HB5,.tuple #[.int .i64 2,.int .i64 0],[]⟩
def Q9y:Memo:=⟨Q3j,HB5,.tuple #[.slice (some ⟨2,0,none⟩) 1 1,.int .i64 0],[⟨[.int .i64 1],⟨1,3⟩,false⟩]⟩
theorem Q5l:G6 Tryz.prog 27 Z5d:=by refine⟨?_,by decide⟩;have h:=(Cc Uq X_ (QG HB5 []) AN Q3j _ _ [] RB (show MW Uq AN=some (_,.tup [.val (.i .i64) (I9 4 five clo5 2),.val (.i .i64) (0:Int)],[]) from rfl) rfl rfl Gp).2 rfl rfl;refine VCalled.mono h λu U hu=>?_;obtain⟨rfl,rfl⟩:=hu;rw[Q3u];exact⟨rfl,L3 (bl:=HB5) (fr:=[]) rfl⟩
theorem Q3n:G6 Tryz.prog 28 Q9y:=by refine⟨?_,by decide⟩;have h:=(SP Uq X_ (QG HB5 []) AN Q3j _ _ [.lst 3 (.i .i64) (XC 4 five clo5 2) (XC 4 five clo5 2).isEmpty] RB (show Nu Uq AN=some (_,.tup [.lst 0,.val (.i .i64) (0:Int)],_) from rfl) rfl rfl ⟨Gp.1,Gp.2.1,Gp.2.2.1,Gp.2.2.2.1,Gp.2.2.2.2,by decide⟩).2 rfl rfl;refine VCalled.mono h λu U hu=>?_;obtain⟨rfl,rfl⟩:=hu;rw[Q0d];exact⟨rfl,L3 (bl:=HB5) (fr:=[⟨[.int .i64 1],⟨1,3⟩,false⟩]) rfl⟩
end Go.Proofs.Tryz
namespace Go.Proofs.Tryz
open Go Go.V
def J0e:List (Option FEnt):=[
 none,
 none,
 some (.code c2 [] 1),
 some (.code c3 [.tmp 2] 84),
 some (.code c4 [.tmp 4] 203),
 some (.code c5 [.tmp 2] 92),
 some (.code c6 [.tmp 6] 129),
 some (.code c7 [.tmp 4] 283),
 some (.code c8 [.tmp 6] 207),
 some (.code c9 [.tmp 2] 249),
 some (.code c10 [.tmp 6] 205),
 some (.code c11 [.tmp 2] 265),
 some (.code c12 [.tmp 4] 132),
 some (.code c13 [.tmp 4] 228),
 some (.code c14 [.tmp 6] 133),
 some (.code c15 [.tmp 0] 226),
 some (.code c16 [.cell 2 true 2] 9),
 some (.codeM c17 [.tmp 2,.tmp 3] 49 [mMoved]),
 some (.codeJ c18 [.cell 2 true 2,.tmp 3] 34),
 some (.code c19 [.tmp 2] 32),
 some (.code c20 [.tmp 2] 45),
 some (.code c21 [.tmp 4] 17),
 some (.code c22 [.tmp 4] 26),
 some (.code c23 [.tmp 2] 74),
 some (.code c24 [.cell 2 true 2] 44),
 some (.code c25 [.tmp 2] 6),
 some (.codeM c26 [.tmp 4,.tmp 5,.tmp 6,.tmp 7] 79 [mCourse]),
 some (.codeM c27 [.tmp 6,.tmp 7] 29 [Z5d]),
 some (.codeM c28 [.tmp 6,.tmp 7] 33 [Q9y]),
 some (.code c29 [.tmp 4] 15),
 some (.code c30 [.tmp 6] 15),
 some (.code c31 [.cell 4 true 4,.tmp 5] 41),
 some (.code c32 [.tmp 6,.tmp 7] 60),
 some (.code c33 [.tmp 2] 37),
 some (.code c34 [.cell 2 true 3] 34),
 some (.code c35 [.tmp 2] 36),
 some (.codeM c36 [.tmp 2,.tmp 3] 34 [mCount]),
 some (.codeJ c37 [.cell 2 false 1,.tmp 3] 44),
 some (.code c38 [.tmp 2] 78),
 some (.code c39 [.tmp 4] 63),
 some (.code c40 [.tmp 2] 5),
 some (.code c41 [.tmp 4] 27),
 some (.codeM c42 [.tmp 6,.tmp 7] 57 [mPlaces]),
 some (.codeM c43 [.tmp 2,.tmp 3] 45 [mLost]),
 some (.code c44 [.tmp 8] 46),
 some (.code c45 [.tmp 4] 66),
 some (.code c46 [.cell 2 true 2] 50),
 some (.codeJ c47 [.cell 2 true 2,.tmp 3] 54),
 some (.codeJ c48 [.tmp 6,.tmp 7,.tmp 8] 58),
 some (.code c49 [.tmp 4] 20),
 some (.code c50 [.tmp 4] 16),
 some (.code c51 [.cell 2 true 2] 74),
 some (.code c52 [.tmp 4] 52),
 some (.code c53 [.cell 2 true 2] 37),
 some (.code c54 [.tmp 4,.tmp 5,.tmp 6,.tmp 7,.tmp 8] 91),
 some (.code c55 [.cell 2 true 3,.tmp 3] 165),
 some (.code c56 [.tmp 4] 37),
 some (.code c57 [.tmp 2] 11),
 some (.code c58 [.cell 2 true 2,.tmp 3] 54),
 some (.code c59 [.tmp 6,.tmp 7,.tmp 8] 65),
 some (.code c60 [.cell 0 true 2] 8),
 some (.code c61 [.cell 2 true 3] 23),
 some (.code c62 [.cell 2 true 3,.tmp 3] 43),
 some (.code c63 [.tmp 4] 25),
 some (.code c64 [.tmp 4] 12),
 some (.code c65 [.tmp 2] 4),
 some (.code c66 [.tmp 4] 10),
 some (.code c67 [.tmp 4] 20),
 some (.code c68 [.tmp 4] 14),
 some (.code c69 [.tmp 4] 26),
 some (.code c70 [.tmp 4] 55),
 some (.code c71 [.tmp 4] 41),
 some (.code c72 [.tmp 4] 33),
 some (.code c73 [.cell 4 true 4,.tmp 5] 33),
 some (.code c74 [.tmp 2] 70),
 some (.code c75 [.tmp 2] 25),
 some (.code c76 [.tmp 4] 19),
 some (.code c77 [.tmp 2] 5),
 some (.code c78 [.tmp 6] 15),
 some (.code c79 [.tmp 6,.tmp 7] 28),
 some (.code c80 [.tmp 2] 9),
 some (.code c81 [.tmp 2] 4),
 some (.code c82 [.tmp 4] 30),
 some (.code c83 [.tmp 4] 24),
 some (.code c84 [.tmp 2] 7),
 some (.code c85 [.tmp 3] 9),
 some (.code c86 [.tmp 4] 16),
 some (.code c87 [.tmp 2] 6),
 some (.code c88 [.tmp 6] 11),
 some (.code c89 [.tmp 4] 9),
 some (.code c90 [.cell 4 false 1] 39),
 some (.code c91 [.tmp 4] 76),
 some (.code c92 [.cell 6 false 1] 110),
 some (.code c93 [.tmp 4] 26),
 some (.code c94 [.tmp 4] 19),
 some (.code c95 [.tmp 6] 29),
 some (.code c96 [.tmp 4] 9),
 some (.code c97 [.tmp 2] 9),
 some (.code c98 [.tmp 6] 88),
 some (.code c99 [.tmp 4] 6),
 some (.code Z8k [.tmp 4] 9),
 some (.code Z9q [.tmp 4] 23),
 some (.code Z6o [.tmp 4] 10),
 some (.code Z6m [.cell 2 true 3,.tmp 3] 30),
 some (.code Z70 [.tmp 4] 26),
 some (.code Z6a [.tmp 4] 11),
 some (.code Z98 [.cell 2 true 3] 5),
 some (.code Z62 [.cell 6 false 1] 73),
 some (.code Z74 [.tmp 2] 5),
 some (.code Z7e [] 14),
 some (.code Z6s [] 16),
 some (.code Z6n [.tmp 2] 6),
 some (.code Z73 [.tmp 3] 14),
 some (.code Z7b [.tmp 4] 9),
 some (.code Z9y [.tmp 2] 4),
 some (.code Z9x [.tmp 4] 48),
 some (.code Z6z [.tmp 6] 25),
 some (.code Z8o [] 28),
 some (.code Z6t [.tmp 4] 52),
 some (.code Z69 [.tmp 2] 5),
 some (.code Z76 [] 11),
 some (.code Z67 [] 14),
 some (.code Z8t [.tmp 6] 79),
 some (.code Z64 [.tmp 3] 17),
 some (.code Z7a [.tmp 4] 9),
 some (.code Z79 [.tmp 4] 13),
 some (.code Z8m [.tmp 4] 19),
 some (.code Z9j [.tmp 6] 8),
 some (.code Z97 [] 14),
 some (.code Z7o [.tmp 4] 36),
 some (.code Z9w [.tmp 4] 66),
 some (.code Z85 [.tmp 4] 26),
 some (.code Z8l [.tmp 6] 22),
 some (.code Z7w [.tmp 3] 12),
 some (.code Z7y [.tmp 4] 143),
 some (.code Z7r [] 31),
 some (.code Z99 [.tmp 4] 19),
 some (.code Z6v [.tmp 4] 13),
 some (.code Z6c [.tmp 4] 6),
 some (.code Z78 [.tmp 4] 13),
 some (.code Z63 [] 148),
 some (.code Z6h [.tmp 2] 8),
 some (.code Z6y [.tmp 4] 19),
 some (.code Z91 [] 19),
 some (.code Z9m [.tmp 4,.tmp 5] 30),
 some (.code Z6r [] 39),
 some (.code Z65 [.tmp 4] 13),
 some (.code Z71 [] 134),
 some (.code Z6x [.tmp 4] 19),
 some (.code Z8i [] 45),
 some (.code Z83 [.tmp 8] 55),
 some (.code Z80 [] 148),
 some (.code Z93 [.tmp 4] 18),
 some (.code Z6u [.tmp 2] 26),
 some (.code Z66 [] 20),
 some (.code Z6l [] 53),
 some (.code Z9i [] 60),
 some (.code Z7g [] 67),
 some (.code Z8b [.tmp 8,.tmp 9] 63),
 some (.code Z9b [] 34),
 some (.code Z9n [.tmp 8] 141),
 some (.code Z96 [.tmp 10] 90),
 some (.code Z9t [.tmp 10,.tmp 11] 178),
 some (.code Z68 [.tmp 2] 19),
 some (.code Z77 [.tmp 2] 25),
 some (.code Z9c [.tmp 4,.tmp 5] 17),
 some (.code Z7h [.tmp 4,.tmp 5] 51),
 some (.code Z6d [] 49),
 some (.code Z86 [] 56),
 some (.code Z9p [] 65),
 some (.code Z7l [.tmp 6,.tmp 7] 57),
 some (.code Z89 [] 32),
 some (.code Z8z [.tmp 6] 133),
 some (.code Z75 [.tmp 4] 17),
 some (.code Z7t [.tmp 8] 84),
 some (.code Z9f [.tmp 8,.tmp 9] 168),
 some (.code Z9r [] 53),
 some (.code Z8w [] 60),
 some (.code Z8p [] 67),
 some (.code Z7k [.tmp 8,.tmp 9] 63),
 some (.code Z8q [] 34),
 some (.code Z7q [.tmp 8] 141),
 some (.code Z94 [.tmp 10] 90),
 some (.code Z8x [.tmp 10,.tmp 11] 178),
 some (.code Z72 [.tmp 2] 22),
 some (.code Z7p [] 82),
 some (.code Z8c [.tmp 2] 7),
 some (.code Z8r [.tmp 2] 33),
 some (.code Z9s [.tmp 8] 18),
 some (.code Z9u [.tmp 12] 41),
 some (.code Z9d [] 76),
 some (.code Z9l [.tmp 6] 15),
 some (.code Z8y [.tmp 10] 36),
 some (.code Z81 [] 82),
 some (.code Z8d [.tmp 8] 18),
 some (.code Z84 [.tmp 12] 41),
 some (.code Z8h [.tmp 10,.tmp 11] 32),
 some (.code Z90 [.tmp 8,.tmp 9] 28),
 some (.code Z9h [.tmp 10,.tmp 11] 32)]
def tab:Tab:=λf=>(J0e[f]?).join
theorem Z0b:EntsOk Tryz.prog 0 J0e:=⟨trivial,trivial,J03,fun3,J0p,J0m,J0j,J0s,J0h,J0g,Z3v,Z54,Z42,Z4w,Z5r,Z0e,Z1w,⟨Z05,λm hm=>by rw[zd] at hm;subst hm;exact Q3y⟩,Z0u,Z11,Z12,Z29,Z1h,Z0m,Z1r,Z3i,⟨Z5e,λm hm=>by rw[zd] at hm;subst hm;exact OZ⟩,⟨Z2d,λm hm=>by rw[zd] at hm;subst hm;exact Q5l⟩,⟨Z10,λm hm=>by rw[zd] at hm;subst hm;exact Q3n⟩,Z32,Z1o,Z51,Z3l,Z4g,Z36,Z41,⟨Z48,λm hm=>by rw[zd] at hm;subst hm;exact Q32⟩,Z4z,Z4v,Z52,Z4u,Z2y,⟨Z5l,λm hm=>by rw[zd] at hm;subst hm;exact Q01⟩,⟨Z5y,λm hm=>by rw[zd] at hm;subst hm;exact Q78⟩,Z38,Z4s,Z3z,Z5u,Z3u,Z59,Z5g,Z5c,Z4j,Z4p,Z53,Z4k,Z5n,Z3y,Z47,Z40,Z5h,Z4f,Q61,Z0r,Z0c,Z09,Z2a,Z16,Z1u,Z0q,Z1s,Z06,Z2b,Z1f,Z5k,Z49,Z33,Z0l,Z19,Z04,Z0y,Z1g,Z30,Z5f,Z4a,Z3g,Z0v,Z0w,Z1c,Z4t,Z4o,Z3p,Z3n,Z3s,Z3r,Z5x,Z45,Z5q,Z3k,Z60,Q99,Q9p,Q33,Q1t,Q4e,Q43,Q8s,Q4i,Q3z,Q4h,Q2m,Q29,Q2p,Q2h,Q97,Q8g,Q34,Q9w,Q53,Q4c,Q4y,Q4q,Q9l,Q48,Q4v,Q2i,Q98,Q7z,Q81,Q9r,Q9j,Q7h,Q9t,Q9g,Q8h,Q8e,Q8z,Q58,Q3b,Q57,Q4d,Q3h,Q54,Q8k,Q8c,Q4z,Q1k,Q42,Q18,Q93,Q9h,Q9v,Q7r,Q38,Q4r,Q2x,Q7n,Q7l,Q9d,Q7u,Q7y,Q8o,Q84,Q30,Q27,Q8b,Q9k,Q37,Q9i,Q8q,Q9x,Q89,Q8p,Q3a,Q83,Q7v,Q86,Q8a,Q96,Z00,Q9q,Q8m,Q9u,Q85,Q3q,Q9o,Q7j,Q9b,Q8w,Q8u,Q8i,Q9f,Q9m,Q8j,Q7t,Q7q,Q91,Q7s,Q8v,trivial⟩
theorem Z46:TabOk Tryz.prog tab:=IS Z0b
end Go.Proofs.Tryz
