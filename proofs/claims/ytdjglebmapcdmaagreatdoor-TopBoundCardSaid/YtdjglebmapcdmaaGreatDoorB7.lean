/- A framework for walks, contracts of functions, and their proofs: part 7. -/
import Derived.ProofKit
import Derived.OpenShut
import Derived.LaidMore
import Derived.Carry
import Derived.Lib.SmallJoins
import Derived.Deep.Slices
import Derived.Test.YtdjglebmapcdmaaGreatDoorB6
set_option linter.unusedVariables false
set_option maxRecDepth 100000
namespace Go.Proofs.Tryz
open Go Go.V Go.Proofs
theorem Z2q {rows:List Int}{i:Nat}(h:i<rows.length):(Co rows).getD i Ya=((i:Int),(rows.getD i 0,false)):=by rw[Qg (by simpa [Co] using h)];simp[Co]
theorem HE (rows:List Int):(Co rows).length=rows.length:=by simp[Co]
theorem Z5f {n:Nat}{k:Nat}(h:k<n):(List.replicate n (1:Int)).getD k 0=1:=by rw[Qg (by simpa using h)];simp
theorem Oz {n m:Nat}(hn:0<n):∀ k,k<=m->k<n->atK n 0 (List.replicate m (1:Int)) k=(k:Int)
 |0,_,_=>rfl
 |k+1,hk,iQ=>by have ih:=Oz hn k (by omega) (by omega) (m:=m);unfold atK;rw[ih,Z5f (by omega),Int.tmod_eq_emod_of_nonneg (by omega),Int.emod_eq_of_lt (by omega) (by omega)];rfl
theorem Q9c {n:Nat}(hn:0<n):atK n 0 (List.replicate n (1:Int)) n=0:=by obtain⟨m,rfl⟩:∃ m,n=m+1:=⟨n-1,by omega⟩;have ih:=Oz (n:=m+1) (m:=m+1) hn m (by omega) (by omega);unfold atK;simp_all
theorem A7 {hk:Int}{rows:List Int}{L:List YQ}(h1:1<=hk/\hk<=24) (hr:∀ x∈rows,0<=x/\x<2 ^ hk.toNat) (hl:L.length=rows.length) (h0:rows≠[]) (oV:rows.length<=60) (hb:∀ c∈L,0<=c.1/\c.1<rows.length/\c.2.1=rows.getD c.1.toNat 0):QG hk L=0:=by
 unfold QG;have i1:inI hk 1 24=true:=by unfold inI;simp_all
 rw[z0 (by rw[i1];decide),z0 (by omega),z0];rintro (h|h)
 .grind
 .obtain⟨c,hc,bh⟩:=xy.1 h;obtain⟨c1,c2,c3⟩:=hb c hc;have aj:c.1.toNat<rows.length:=by omega
  have h4:=hr (rows.getD c.1.toNat 0) (by rw[Qg aj];exact zh aj);rw[<-c3] at h4;have:Zt hk c=true:=by
   unfold Zt inI
   grind
  rw[this] at bh;cases bh
theorem Q2w {hk:Int}{rows:List Int}(h1:1<=hk/\hk<=24) (hr:∀ x∈rows,0<=x/\x<2 ^ hk.toNat) (h0:rows≠[]) (oV:rows.length<=60) :
  Ja hk (Co rows) 0 (List.replicate rows.length 1)=0/\H9 hk (Co rows) 0 (List.replicate rows.length 1)=rows/\Me hk (Co rows) 0 (List.replicate rows.length 1)=0:=by
 have hn:0<rows.length:=zt.2 h0;have be:QG hk (Co rows)=0:=A7 h1 hr (HE rows) h0 oV λc hc=>by obtain⟨i,hi,rfl⟩:=zC.1 hc;simp_all
 have we:Ja hk (Co rows) 0 (List.replicate rows.length 1)=0:=by
  unfold Ja;rw[z0 (by omega),HE,z0,z0 (by simpa using oV),z0]
  .rw[xy];rintro⟨x,hx,hb⟩;rw[(List.mem_replicate.1 hx).2] at hb;cases hb
  .rw[show inI 0 0 ((rows.length:Int)-1)=true by unfold inI;rw[zL (by omega),zL (by omega)];rfl];decide
 refine⟨we,?_,?_⟩
 .unfold H9;rw[z2 we,xl];refine List.ext_getElem (Q0t _ _ _ _ _) λi h2 h3=>?_;simp only[F2,xq,List.getElem_range];rw[HE,Oz hn i (by omega) h3,z4,Z2q h3,Qg h3];rfl
 .unfold Me;rw[z2 we,xl,HE];exact Q9c hn
theorem Q3f {hk:Int}{rows:List Int}(h1:1<=hk/\hk<=24) (hr:∀ x∈rows,0<=x/\x<2 ^ hk.toNat) (h0:rows≠[]) (oV:rows.length<=60):Y3 hk rows=0:=by
 unfold Y3;have i1:inI hk 1 24=true:=by unfold inI;simp_all
 rw[z0 (by rw[i1];decide),z0 (by omega),z0 h0,z0];rw[xy];rintro⟨x,hx,hb⟩;have:=hr x hx;rw[show inI x 0 (2 ^ hk.toNat-1)=true by unfold inI;rw[zL (by omega),zL (by omega)];rfl] at hb;cases hb
structure MarkI (rows:List Int) (L:List YQ):Prop where
 len:L.length=rows.length
 val:∀ c∈L,0<=c.1/\c.1<rows.length/\c.2.1=rows.getD c.1.toNat 0
 nd:(L.map (·.1)).Nodup
theorem Z2t (rows:List Int):MarkI rows (Co rows):=by
 refine⟨HE rows,λc hc=>?_,?_⟩
 .obtain⟨i,hi,rfl⟩:=zC.1 hc;simp_all
 .unfold Co
  grind [List.map_map,List.nodup_range]
theorem MarkI.perm {rows:List Int}{L M:List YQ}(h:MarkI rows L) (hp:M.Perm L):MarkI rows M :=
 ⟨hp.length_eq.trans h.len,λc hc=>h.val c (hp.mem_iff.1 hc),(hp.map (·.1)).nodup_iff.2 h.nd⟩
theorem MarkI.set {rows:List Int}{L:List YQ}(h:MarkI rows L) {k:Nat}(hk:k<L.length) (b:Bool):MarkI rows (L.set k ((L.getD k Ya).1,((L.getD k Ya).2.1,b))):=by
 refine⟨by rw[xc];exact h.len,λc hc=>?_,?_⟩
 .rcases List.mem_or_eq_of_mem_set hc with hc|rfl
  .exact h.val c hc
  .rw[Qg hk];exact h.val L[k] (zh hk)
 .have e:(L.set k ((L.getD k Ya).1,((L.getD k Ya).2.1,b))).map (·.1)=L.map (·.1):=by
   rw[List.map_set,Qg hk];refine List.ext_getElem (by simp) λi h1 h2=>?_
   grind
  rw[e];exact h.nd
theorem MarkI.mix {rows by_:List Int}{L:List YQ}(h:MarkI rows L) (hb:∀ x∈by_,0<=x/\x<=255):∀ m,m<=L.length->MarkI rows (IU by_ L m)
 |0,_=>h
 |m+1,hm=>by
  have ih:=MarkI.mix h hb m (by omega);have hl:=OV by_ L m;have t1:=Int.tmod_nonneg ((IU by_ L m).length:Int) (Oc hb (show (0:Int)<=(m:Int) by omega)).1;have t2:=Int.tmod_lt_of_pos (Za by_ m) (show (0:Int)<((IU by_ L m).length:Int) by omega);have hk:Z65 by_ m (IU by_ L m).length<(IU by_ L m).length:=by unfold Z65;omega
  have sw:=Q6p (l:=IU by_ L m) (i:=Z65 by_ m (IU by_ L m).length) (k:=m) (d:=Ya) hk (by omega);have ip:=ih.perm sw;exact ip.set (k:=m) (by rw[xc,xc];omega) _
theorem Q2v {hk:Int}{rows:List Int}{L:List YQ}(h:MarkI rows L) (hb:QG hk L=0):QQ hk L=0:=by unfold QQ;rw[z0 (by omega),z0,z2 h.nd];intro hm;obtain⟨c,hc,e⟩:=zC.1 hm;have:=(h.val c hc).1;omega
theorem Z2g:∀ H:Fin 9,∀ B:Fin 4,2<=H.val->1<=B.val->Q3e (H.val:Int) (B.val:Int) 0=!(decide (B.val=1)&&decide (H.val % 2=1)):=by decide +kernel
theorem Z72 (row g:Nat):∀ k,cS row 0 g.testBit k=(pcN k (row ^^^ g):Int)
 |0=>by simp[cS,pcN]
 |k+1=>by
  rw[Hx];show Zp row 0 k (g.testBit k)+cS row 0 g.testBit k=_;rw[Z72 row g k,Nat.testBit_xor];unfold Zp
  grind
theorem Z5e {hk bd:Int}{rows zs:List Int}(h8:2<=hk/\hk<=8) (hp:Qb hk rows=0) (hb:1<=bd/\bd<=3) (hz:zs=List.replicate rows.length 0) :
  (bd=1/\Int.tmod hk 2=1->Q6 hk rows zs bd=9) /\
  (¬ (bd=1/\Int.tmod hk 2=1)->Q6 hk rows zs bd=0/\(QJ hk rows zs bd).length=rows.length/\(∀ x∈QJ hk rows zs bd,0<=x/\x<2 ^ hk.toNat) /\
   Kb hk (QJ hk rows zs bd) bd=0/\E_ hk (QJ hk rows zs bd) bd=[]/\Ug hk rows hk (QJ hk rows zs bd)=0/\(FL hk rows hk (QJ hk rows zs bd)).1=DQ hk rows zs bd):=by
 obtain⟨p1,p2,p3,p4,p5⟩:=J14 hp;obtain⟨H,rfl⟩:=z8 (show 0<=hk by omega);obtain⟨B,rfl⟩:=z8 (show 0<=bd by omega);have hH:1<=H/\H<=24:=by omega
 have hB:1<=B:=by omega
 have hi:inI (B:Int) 1 24=true:=by unfold inI;grind
 have fZ:=Mb p1 p2;have wx:zs.length=rows.length:=by rw[hz,xl]
 have ez:(zs.any λn=>!inI n 0 (2 ^ (H:Int).toNat-1))=false:=by
  rw[xe];intro x hx;rw[hz] at hx;rw[List.eq_of_mem_replicate hx];unfold inI
  grind
 have eB:Q6 (H:Int) rows zs (B:Int)=if PI (H:Int) rows zs (B:Int)=true then 9 else 0:=by unfold Q6;simp_all
 have ec:∀ k,Q2y (H:Int) rows zs (B:Int) k=Kq (rows.getD k 0).toNat 0 B H:=λk=>by unfold Q2y;grind
 have tab:=Z2g ⟨H,by omega⟩ ⟨B,by omega⟩ (by show 2<=H;omega) hB;have tab:Q3e (H:Int) (B:Int) 0=!(decide (B=1)&&decide (H % 2=1)):=tab;have hm:Int.tmod (H:Int) 2=((H % 2:Nat):Int):=by grind
 rw[hm];refine⟨λ⟨c1,c2⟩=>?_,λc=>?_⟩
 .have h0:Q3e (H:Int) (B:Int) 0=false:=by rw[tab,zL (by omega),zL (by omega)];rfl
  rw[eB,z2];unfold PI;rw[xy];refine⟨0,zS.2 (by omega),zL ?_⟩
  grind [Int.lt_or_le,Q55,A9]
 .have h0:Q3e (H:Int) (B:Int) 0=true:=by
   grind
  have hex:=(Q55 hH hB).1 h0;have cY:PI (H:Int) rows zs (B:Int)=false:=by unfold PI;rw[xe];intro k _;have:=(A9 (row:=(rows.getD k 0).toNat) hH hB).2 hex;rw[ec,ze];omega
  rw[cY] at eB;have eB:Q6 (H:Int) rows zs (B:Int)=0:=eB;have hD:QJ (H:Int) rows zs (B:Int)=Rm (H:Int) rows zs (B:Int) rows.length:=by unfold QJ;rw[z2 eB]
  have sB:(QJ (H:Int) rows zs (B:Int)).length=rows.length:=by rw[hD,E6]
  have hg:∀ k,k<rows.length->(QJ (H:Int) rows zs (B:Int)).getD k 0=((Mp (rows.getD k 0).toNat 0 B H:Nat):Int):=λk hk=>by rw[hD,Qg (by rw[E6];exact hk)];simp only[Rm,xq,List.getElem_range,Z7u];simp_all
  have bn:∀ k,Mp (rows.getD k 0).toNat 0 B H<2 ^ H/\okW H B (Mp (rows.getD k 0).toNat 0 B H).testBit/\Kq (rows.getD k 0).toNat 0 B H=cS (rows.getD k 0).toNat 0 (Mp (rows.getD k 0).toNat 0 B H).testBit H:=λk=>by obtain⟨b1,b2,_,b4⟩:=Q2t hH hB ((A9 (row:=(rows.getD k 0).toNat) hH hB).2 hex);exact⟨b1,b2,b4⟩
  have sC:∀ x∈QJ (H:Int) rows zs (B:Int),0<=x/\x<2 ^ (H:Int).toNat:=(by grind [List.getElem_of_mem,Qg,Int.toNat_natCast]);have hN:DQ (H:Int) rows zs (B:Int)=Hd (H:Int) rows zs (B:Int) rows.length:=by unfold DQ;rw[z2 eB]
  have pe:Qb (H:Int) (QJ (H:Int) rows zs (B:Int))=0:=by
   unfold Qb;have e1:inI (H:Int) 1 24=true:=by unfold inI;simp_all
   have e2:((QJ (H:Int) rows zs (B:Int)).any λx=>!inI x 0 (2 ^ (H:Int).toNat-1))=false:=by
    rw[xe];intro x hx;have:=sC x hx;unfold inI
    grind
   grind
  have pE:Kb (H:Int) (QJ (H:Int) rows zs (B:Int)) (B:Int)=0:=by
   have e1:inI (B:Int) 0 1000=true:=by unfold inI;grind
   unfold Kb;simp_all
  have dE:=Q9p hp pe sB.symm;refine⟨eB,sB,sC,pE,?_,dE,?_⟩
  .unfold E_;rw[z2 pE];have all:∀ n,n<=rows.length->Q70 (H:Int) (QJ (H:Int) rows zs (B:Int)) (B:Int) n=[]:=by
    intro n;induction n with
    |zero=>intro _;rfl
    |succ n ih =>intro hn;rw[AK,ih (by omega),hg n (by omega)];have hx:=(Z1j hH.1 (show B<1000 by omega)).2 (bn n).2.1;unfold J02 at hx;rw[zg] at hx;rw[xp];exact Q9d λk aC=>z7 (hx k (zS.2 aC))
   exact all _ (by omega)
  .unfold FL;rw[z2 dE,hN];have all:∀ n,n<=rows.length->(Ht rows (QJ (H:Int) rows zs (B:Int)) n).1=Hd (H:Int) rows zs (B:Int) n:=by
    intro n;induction n with
    |zero=>intro _;rfl
    |succ n ih =>
     intro hn;rw[Q5e,ih (by omega)];show _=Hd (H:Int) rows zs (B:Int) n+Q2y (H:Int) rows zs (B:Int) n;rw[ec,(bn n).2.2,Z72];have h5:=p5 (rows.getD n 0) (by rw[Qg (show n<rows.length by omega)];exact zh _);have h6:(rows.getD n 0).toNat<2 ^ H:=by simp_all
     have hx:=Nat.xor_lt_two_pow h6 (bn n).1;have:=Q4t hx (24-H);rw[show H+(24-H)=24 by omega] at this;unfold Ic;rw[hg n (by omega),z4,this]
   exact all _ (z5 _)
def Hm:AL (Int×List Int×List Int):=(.cons (.k (.i .u8)) (.cons (.k (.list (.i .u16))) (.one (.k (.list (.i .u8))))))
def Lk (d:Int×List Int×List Int):Prop:=(0<=d.1/\d.1<=255)/\(d.2.1.length<=9223372036854775807/\∀ x∈d.2.1,0<=x/\x<=65535)/\d.2.2.length<=9223372036854775807/\∀ x∈d.2.2,0<=x/\x<=255
def Dd (d:Int×List Int×List Int):SV:=.val .bo true
def GX (d:Int×List Int×List Int):List OB:=[]
def Pr:CSp:=XD Hm Lk Dd GX
abbrev Q0 (h8:Int) (rs:List Int):=(List.replicate (Int.toNat (lI (pdR (pdH h8) rs))) (0:Int))
abbrev Jj (h8:Int) (rs:List Int):=((pdR (pdH h8) rs)=(pdR (pdH h8) rs)/\false=false)
abbrev JI (h8:Int) (rs:List Int):=(List.replicate (lI (pdR (pdH h8) rs)).toNat (1:Int))
abbrev VJ (h8:Int) (rs:List Int):=((pdR (pdH h8) rs).length<=1000/\(Q0 h8 rs).length<=1000)
abbrev VV (h8:Int):=((pdH h8)=(pdH h8)/\True/\(([]:List SV)=[]))
abbrev VO (h8:Int) (rs:List Int):=((Q0 h8 rs)=(Q0 h8 rs)/\false=false)
abbrev U4 (h8:Int) (rs:List Int):=((lI (pdR (pdH h8) rs))<=(lI (pdR (pdH h8) rs)))
abbrev VS (h8:Int) (rs:List Int):=((lI (pdR (pdH h8) rs))*8<=70368744177664)
abbrev KN (h8:Int) (rs:List Int):=(false=true->(pdR (pdH h8) rs)=[])
abbrev U7 (h8:Int) (rs:List Int):=((lI (pdR (pdH h8) rs))<=70368744177664)
abbrev Wm (h8:Int) (rs:List Int):=((pdR (pdH h8) rs).length<=1000)
def Yu (h8:Int) (rs:List Int) (mx:List Int):Prop :=
 (0<=h8/\h8<=255/\rs.length<=9223372036854775807/\∀ x∈rs,0<=x/\x<=65535)/\(mx.length<=9223372036854775807/\0<=(0:Int)/\∀ x∈mx,0<=x/\x<=255)/\((3:Int)≠0)/\∀ (y1:Int),y1=(Int.tmod (Za mx (0:Int)) (3:Int))->(I64 ((1:Int)+y1))/\(Wm h8 rs)/\(KN h8 rs)/\(0<=(lI (pdR (pdH h8) rs)))/\(U4 h8 rs)/\(VS h8 rs)/\(U7 h8 rs)/\(VJ h8 rs)/\((QJ (pdH h8) (pdR (pdH h8) rs) (Q0 h8 rs) ((1:Int)+y1)).isEmpty=true->(QJ (pdH h8) (pdR (pdH h8) rs) (Q0 h8 rs) ((1:Int)+y1))=[])/\((mx=mx/\True/\(lI (pdR (pdH h8) rs))=(lI (pdR (pdH h8) rs))/\((1:Int)+y1)=((1:Int)+y1)/\True/\(DQ (pdH h8) (pdR (pdH h8) rs) (Q0 h8 rs) ((1:Int)+y1))=(DQ (pdH h8) (pdR (pdH h8) rs) (Q0 h8 rs) ((1:Int)+y1))/\(Q6 (pdH h8) (pdR (pdH h8) rs) (Q0 h8 rs) ((1:Int)+y1))=(Q6 (pdH h8) (pdR (pdH h8) rs) (Q0 h8 rs) ((1:Int)+y1))/\True)/\((VV h8)/\((if Q6 (pdH h8) (pdR (pdH h8) rs) (Q0 h8 rs) ((1:Int)+y1)=0 then (pdH h8) else 0)=(if Q6 (pdH h8) (pdR (pdH h8) rs) (Q0 h8 rs) ((1:Int)+y1)=0 then (pdH h8) else 0)/\True/\(([]:List SV)=[]))/\(Jj h8 rs)/\(Jj h8 rs)/\(VO h8 rs)/\((QJ (pdH h8) (pdR (pdH h8) rs) (Q0 h8 rs) ((1:Int)+y1))=(QJ (pdH h8) (pdR (pdH h8) rs) (Q0 h8 rs) ((1:Int)+y1))/\(QJ (pdH h8) (pdR (pdH h8) rs) (Q0 h8 rs) ((1:Int)+y1)).isEmpty=(QJ (pdH h8) (pdR (pdH h8) rs) (Q0 h8 rs) ((1:Int)+y1)).isEmpty)/\True))/\((Wm h8 rs)/\(KN h8 rs)/\(0<=(lI (pdR (pdH h8) rs)))/\(U4 h8 rs)/\(VS h8 rs)/\(U7 h8 rs)/\(VJ h8 rs)/\((QJ (pdH h8) (pdR (pdH h8) rs) (Q0 h8 rs) ((1:Int)+y1)).isEmpty=true->(QJ (pdH h8) (pdR (pdH h8) rs) (Q0 h8 rs) ((1:Int)+y1))=[])/\((mx=mx/\True/\(lI (pdR (pdH h8) rs))=(lI (pdR (pdH h8) rs))/\((1:Int)+y1)=((1:Int)+y1)/\True/\(DQ (pdH h8) (pdR (pdH h8) rs) (Q0 h8 rs) ((1:Int)+y1))=(DQ (pdH h8) (pdR (pdH h8) rs) (Q0 h8 rs) ((1:Int)+y1))/\(Q6 (pdH h8) (pdR (pdH h8) rs) (Q0 h8 rs) ((1:Int)+y1))=(Q6 (pdH h8) (pdR (pdH h8) rs) (Q0 h8 rs) ((1:Int)+y1))/\True)/\((VV h8)/\((if Q6 (pdH h8) (pdR (pdH h8) rs) (Q0 h8 rs) ((1:Int)+y1)=0 then (pdH h8) else 0)=(if Q6 (pdH h8) (pdR (pdH h8) rs) (Q0 h8 rs) ((1:Int)+y1)=0 then (pdH h8) else 0)/\True/\(([]:List SV)=[]))/\(Jj h8 rs)/\(Jj h8 rs)/\(VO h8 rs)/\((QJ (pdH h8) (pdR (pdH h8) rs) (Q0 h8 rs) ((1:Int)+y1))=(QJ (pdH h8) (pdR (pdH h8) rs) (Q0 h8 rs) ((1:Int)+y1))/\(QJ (pdH h8) (pdR (pdH h8) rs) (Q0 h8 rs) ((1:Int)+y1)).isEmpty=(QJ (pdH h8) (pdR (pdH h8) rs) (Q0 h8 rs) ((1:Int)+y1)).isEmpty)/\True)))/\((Wm h8 rs)/\(KN h8 rs)/\(0<=(lI (pdR (pdH h8) rs)))/\(U4 h8 rs)/\(VS h8 rs)/\(U7 h8 rs)/\(VJ h8 rs)/\((QJ (pdH h8) (pdR (pdH h8) rs) (Q0 h8 rs) ((1:Int)+y1)).isEmpty=true->(QJ (pdH h8) (pdR (pdH h8) rs) (Q0 h8 rs) ((1:Int)+y1))=[])/\((mx=mx/\True/\(lI (pdR (pdH h8) rs))=(lI (pdR (pdH h8) rs))/\((1:Int)+y1)=((1:Int)+y1)/\True/\(DQ (pdH h8) (pdR (pdH h8) rs) (Q0 h8 rs) ((1:Int)+y1))=(DQ (pdH h8) (pdR (pdH h8) rs) (Q0 h8 rs) ((1:Int)+y1))/\(Q6 (pdH h8) (pdR (pdH h8) rs) (Q0 h8 rs) ((1:Int)+y1))=(Q6 (pdH h8) (pdR (pdH h8) rs) (Q0 h8 rs) ((1:Int)+y1))/\True)/\((VV h8)/\((if Q6 (pdH h8) (pdR (pdH h8) rs) (Q0 h8 rs) ((1:Int)+y1)=0 then (pdH h8) else 0)=(if Q6 (pdH h8) (pdR (pdH h8) rs) (Q0 h8 rs) ((1:Int)+y1)=0 then (pdH h8) else 0)/\True/\(([]:List SV)=[]))/\(Jj h8 rs)/\(Jj h8 rs)/\(VO h8 rs)/\((QJ (pdH h8) (pdR (pdH h8) rs) (Q0 h8 rs) ((1:Int)+y1))=(QJ (pdH h8) (pdR (pdH h8) rs) (Q0 h8 rs) ((1:Int)+y1))/\(QJ (pdH h8) (pdR (pdH h8) rs) (Q0 h8 rs) ((1:Int)+y1)).isEmpty=(QJ (pdH h8) (pdR (pdH h8) rs) (Q0 h8 rs) ((1:Int)+y1)).isEmpty)/\True)))/\((0<=(lI (pdR (pdH h8) rs)))/\(U4 h8 rs)/\(VS h8 rs)/\(U7 h8 rs)/\(Wm h8 rs)/\(KN h8 rs)/\(VJ h8 rs)/\((QJ (pdH h8) (pdR (pdH h8) rs) (Q0 h8 rs) ((1:Int)+y1)).isEmpty=true->(QJ (pdH h8) (pdR (pdH h8) rs) (Q0 h8 rs) ((1:Int)+y1))=[])/\((mx=mx/\True/\(lI (pdR (pdH h8) rs))=(lI (pdR (pdH h8) rs))/\((1:Int)+y1)=((1:Int)+y1)/\True/\(DQ (pdH h8) (pdR (pdH h8) rs) (Q0 h8 rs) ((1:Int)+y1))=(DQ (pdH h8) (pdR (pdH h8) rs) (Q0 h8 rs) ((1:Int)+y1))/\(Q6 (pdH h8) (pdR (pdH h8) rs) (Q0 h8 rs) ((1:Int)+y1))=(Q6 (pdH h8) (pdR (pdH h8) rs) (Q0 h8 rs) ((1:Int)+y1))/\True)/\((VV h8)/\((if Q6 (pdH h8) (pdR (pdH h8) rs) (Q0 h8 rs) ((1:Int)+y1)=0 then (pdH h8) else 0)=(if Q6 (pdH h8) (pdR (pdH h8) rs) (Q0 h8 rs) ((1:Int)+y1)=0 then (pdH h8) else 0)/\True/\(([]:List SV)=[]))/\(Jj h8 rs)/\(Jj h8 rs)/\(VO h8 rs)/\((QJ (pdH h8) (pdR (pdH h8) rs) (Q0 h8 rs) ((1:Int)+y1))=(QJ (pdH h8) (pdR (pdH h8) rs) (Q0 h8 rs) ((1:Int)+y1))/\(QJ (pdH h8) (pdR (pdH h8) rs) (Q0 h8 rs) ((1:Int)+y1)).isEmpty=(QJ (pdH h8) (pdR (pdH h8) rs) (Q0 h8 rs) ((1:Int)+y1)).isEmpty)/\True)))/\((0<=(lI (pdR (pdH h8) rs)))/\(U4 h8 rs)/\(VS h8 rs)/\(U7 h8 rs)/\(Wm h8 rs)/\(KN h8 rs)/\(VJ h8 rs)/\((QJ (pdH h8) (pdR (pdH h8) rs) (Q0 h8 rs) ((1:Int)+y1)).isEmpty=true->(QJ (pdH h8) (pdR (pdH h8) rs) (Q0 h8 rs) ((1:Int)+y1))=[])/\((mx=mx/\True/\(lI (pdR (pdH h8) rs))=(lI (pdR (pdH h8) rs))/\((1:Int)+y1)=((1:Int)+y1)/\True/\(DQ (pdH h8) (pdR (pdH h8) rs) (Q0 h8 rs) ((1:Int)+y1))=(DQ (pdH h8) (pdR (pdH h8) rs) (Q0 h8 rs) ((1:Int)+y1))/\(Q6 (pdH h8) (pdR (pdH h8) rs) (Q0 h8 rs) ((1:Int)+y1))=(Q6 (pdH h8) (pdR (pdH h8) rs) (Q0 h8 rs) ((1:Int)+y1))/\True)/\((VV h8)/\((if Q6 (pdH h8) (pdR (pdH h8) rs) (Q0 h8 rs) ((1:Int)+y1)=0 then (pdH h8) else 0)=(if Q6 (pdH h8) (pdR (pdH h8) rs) (Q0 h8 rs) ((1:Int)+y1)=0 then (pdH h8) else 0)/\True/\(([]:List SV)=[]))/\(Jj h8 rs)/\(Jj h8 rs)/\(VO h8 rs)/\((QJ (pdH h8) (pdR (pdH h8) rs) (Q0 h8 rs) ((1:Int)+y1))=(QJ (pdH h8) (pdR (pdH h8) rs) (Q0 h8 rs) ((1:Int)+y1))/\(QJ (pdH h8) (pdR (pdH h8) rs) (Q0 h8 rs) ((1:Int)+y1)).isEmpty=(QJ (pdH h8) (pdR (pdH h8) rs) (Q0 h8 rs) ((1:Int)+y1)).isEmpty)/\True)))/\((0<=(lI (pdR (pdH h8) rs)))/\(U4 h8 rs)/\(VS h8 rs)/\(U7 h8 rs)/\(Wm h8 rs)/\(KN h8 rs)/\(VJ h8 rs)/\((QJ (pdH h8) (pdR (pdH h8) rs) (Q0 h8 rs) ((1:Int)+y1)).isEmpty=true->(QJ (pdH h8) (pdR (pdH h8) rs) (Q0 h8 rs) ((1:Int)+y1))=[])/\((mx=mx/\True/\(lI (pdR (pdH h8) rs))=(lI (pdR (pdH h8) rs))/\((1:Int)+y1)=((1:Int)+y1)/\True/\(DQ (pdH h8) (pdR (pdH h8) rs) (Q0 h8 rs) ((1:Int)+y1))=(DQ (pdH h8) (pdR (pdH h8) rs) (Q0 h8 rs) ((1:Int)+y1))/\(Q6 (pdH h8) (pdR (pdH h8) rs) (Q0 h8 rs) ((1:Int)+y1))=(Q6 (pdH h8) (pdR (pdH h8) rs) (Q0 h8 rs) ((1:Int)+y1))/\True)/\((VV h8)/\((if Q6 (pdH h8) (pdR (pdH h8) rs) (Q0 h8 rs) ((1:Int)+y1)=0 then (pdH h8) else 0)=(if Q6 (pdH h8) (pdR (pdH h8) rs) (Q0 h8 rs) ((1:Int)+y1)=0 then (pdH h8) else 0)/\True/\(([]:List SV)=[]))/\(Jj h8 rs)/\(Jj h8 rs)/\(VO h8 rs)/\((QJ (pdH h8) (pdR (pdH h8) rs) (Q0 h8 rs) ((1:Int)+y1))=(QJ (pdH h8) (pdR (pdH h8) rs) (Q0 h8 rs) ((1:Int)+y1))/\(QJ (pdH h8) (pdR (pdH h8) rs) (Q0 h8 rs) ((1:Int)+y1)).isEmpty=(QJ (pdH h8) (pdR (pdH h8) rs) (Q0 h8 rs) ((1:Int)+y1)).isEmpty)/\True)))/\((Wm h8 rs)/\(KN h8 rs)/\(0<=(lI (pdR (pdH h8) rs)))/\(U4 h8 rs)/\(VS h8 rs)/\(U7 h8 rs)/\(VJ h8 rs)/\((QJ (pdH h8) (pdR (pdH h8) rs) (Q0 h8 rs) ((1:Int)+y1)).isEmpty=true->(QJ (pdH h8) (pdR (pdH h8) rs) (Q0 h8 rs) ((1:Int)+y1))=[])/\((mx=mx/\True/\(lI (pdR (pdH h8) rs))=(lI (pdR (pdH h8) rs))/\((1:Int)+y1)=((1:Int)+y1)/\True/\(DQ (pdH h8) (pdR (pdH h8) rs) (Q0 h8 rs) ((1:Int)+y1))=(DQ (pdH h8) (pdR (pdH h8) rs) (Q0 h8 rs) ((1:Int)+y1))/\(Q6 (pdH h8) (pdR (pdH h8) rs) (Q0 h8 rs) ((1:Int)+y1))=(Q6 (pdH h8) (pdR (pdH h8) rs) (Q0 h8 rs) ((1:Int)+y1))/\True)/\((VV h8)/\((if Q6 (pdH h8) (pdR (pdH h8) rs) (Q0 h8 rs) ((1:Int)+y1)=0 then (pdH h8) else 0)=(if Q6 (pdH h8) (pdR (pdH h8) rs) (Q0 h8 rs) ((1:Int)+y1)=0 then (pdH h8) else 0)/\True/\(([]:List SV)=[]))/\(Jj h8 rs)/\(Jj h8 rs)/\(VO h8 rs)/\((QJ (pdH h8) (pdR (pdH h8) rs) (Q0 h8 rs) ((1:Int)+y1))=(QJ (pdH h8) (pdR (pdH h8) rs) (Q0 h8 rs) ((1:Int)+y1))/\(QJ (pdH h8) (pdR (pdH h8) rs) (Q0 h8 rs) ((1:Int)+y1)).isEmpty=(QJ (pdH h8) (pdR (pdH h8) rs) (Q0 h8 rs) ((1:Int)+y1)).isEmpty)/\True)))/\((0<=(lI (pdR (pdH h8) rs)))/\(U4 h8 rs)/\(VS h8 rs)/\(U7 h8 rs)/\(Wm h8 rs)/\(KN h8 rs)/\(VJ h8 rs)/\((QJ (pdH h8) (pdR (pdH h8) rs) (Q0 h8 rs) ((1:Int)+y1)).isEmpty=true->(QJ (pdH h8) (pdR (pdH h8) rs) (Q0 h8 rs) ((1:Int)+y1))=[])/\((mx=mx/\True/\(lI (pdR (pdH h8) rs))=(lI (pdR (pdH h8) rs))/\((1:Int)+y1)=((1:Int)+y1)/\True/\(DQ (pdH h8) (pdR (pdH h8) rs) (Q0 h8 rs) ((1:Int)+y1))=(DQ (pdH h8) (pdR (pdH h8) rs) (Q0 h8 rs) ((1:Int)+y1))/\(Q6 (pdH h8) (pdR (pdH h8) rs) (Q0 h8 rs) ((1:Int)+y1))=(Q6 (pdH h8) (pdR (pdH h8) rs) (Q0 h8 rs) ((1:Int)+y1))/\True)/\((VV h8)/\((if Q6 (pdH h8) (pdR (pdH h8) rs) (Q0 h8 rs) ((1:Int)+y1)=0 then (pdH h8) else 0)=(if Q6 (pdH h8) (pdR (pdH h8) rs) (Q0 h8 rs) ((1:Int)+y1)=0 then (pdH h8) else 0)/\True/\(([]:List SV)=[]))/\(Jj h8 rs)/\(Jj h8 rs)/\(VO h8 rs)/\((QJ (pdH h8) (pdR (pdH h8) rs) (Q0 h8 rs) ((1:Int)+y1))=(QJ (pdH h8) (pdR (pdH h8) rs) (Q0 h8 rs) ((1:Int)+y1))/\(QJ (pdH h8) (pdR (pdH h8) rs) (Q0 h8 rs) ((1:Int)+y1)).isEmpty=(QJ (pdH h8) (pdR (pdH h8) rs) (Q0 h8 rs) ((1:Int)+y1)).isEmpty)/\True)))/\∀ (y2:Bool),y2=(((1:Int)+y1)==(1:Int))->(y2=true->(2:Int)≠0)/\∀ (y3:Int),y3=(Int.tmod (pdH h8) (2:Int))->∀ (y4:Bool),y4=(y3==(1:Int))->∀ (y5:Bool),y5=(y2&&y4)->(y5=true ->
  ∀ (y6:Bool),y6=((Q6 (pdH h8) (pdR (pdH h8) rs) (Q0 h8 rs) ((1:Int)+y1))==(9:Int))->(y6=true->True)/\∀ (y7:Bool),y7=(y6&&true)->(y7=true->True)/\∀ (y8:Bool),y8=(y7&&true)->(y8=true/\(True))) /\
 (y5=false ->
  ((QJ (pdH h8) (pdR (pdH h8) rs) (Q0 h8 rs) ((1:Int)+y1)).length<=1000)/\((QJ (pdH h8) (pdR (pdH h8) rs) (Q0 h8 rs) ((1:Int)+y1)).length<=1000)/\∀ (y9:Bool),y9=((Q6 (pdH h8) (pdR (pdH h8) rs) (Q0 h8 rs) ((1:Int)+y1)) != (0:Int))->∀ (qM:Bool),qM=((Y3 (if Q6 (pdH h8) (pdR (pdH h8) rs) (Q0 h8 rs) ((1:Int)+y1)=0 then (pdH h8) else 0) (QJ (pdH h8) (pdR (pdH h8) rs) (Q0 h8 rs) ((1:Int)+y1))) != (0:Int))->∀ (qN:Bool),qN=(y9||qM)->∀ (qO:Bool),qO=((lI (YW (if Q6 (pdH h8) (pdR (pdH h8) rs) (Q0 h8 rs) ((1:Int)+y1)=0 then (pdH h8) else 0) (QJ (pdH h8) (pdR (pdH h8) rs) (Q0 h8 rs) ((1:Int)+y1)))) != (lI (pdR (pdH h8) rs)))->∀ (ob:Bool),ob=(qN||qO)->(ob=true ->
   (false=true/\(True))) /\
  (ob=false ->
   ((YW (if Q6 (pdH h8) (pdR (pdH h8) rs) (Q0 h8 rs) ((1:Int)+y1)=0 then (pdH h8) else 0) (QJ (pdH h8) (pdR (pdH h8) rs) (Q0 h8 rs) ((1:Int)+y1))).length<=60/\mx.length<=9223372036854775807/\∀ x∈mx,0<=x/\x<=255)/\((GF mx (YW (if Q6 (pdH h8) (pdR (pdH h8) rs) (Q0 h8 rs) ((1:Int)+y1)=0 then (pdH h8) else 0) (QJ (pdH h8) (pdR (pdH h8) rs) (Q0 h8 rs) ((1:Int)+y1)))).length<=1000/\(QQ (Jd (if Q6 (pdH h8) (pdR (pdH h8) rs) (Q0 h8 rs) ((1:Int)+y1)=0 then (pdH h8) else 0) (QJ (pdH h8) (pdR (pdH h8) rs) (Q0 h8 rs) ((1:Int)+y1))) (GF mx (YW (if Q6 (pdH h8) (pdR (pdH h8) rs) (Q0 h8 rs) ((1:Int)+y1)=0 then (pdH h8) else 0) (QJ (pdH h8) (pdR (pdH h8) rs) (Q0 h8 rs) ((1:Int)+y1))))=0->(GF mx (YW (if Q6 (pdH h8) (pdR (pdH h8) rs) (Q0 h8 rs) ((1:Int)+y1)=0 then (pdH h8) else 0) (QJ (pdH h8) (pdR (pdH h8) rs) (Q0 h8 rs) ((1:Int)+y1)))).length<=12))/\((Wt (Jd (if Q6 (pdH h8) (pdR (pdH h8) rs) (Q0 h8 rs) ((1:Int)+y1)=0 then (pdH h8) else 0) (QJ (pdH h8) (pdR (pdH h8) rs) (Q0 h8 rs) ((1:Int)+y1))) (GF mx (YW (if Q6 (pdH h8) (pdR (pdH h8) rs) (Q0 h8 rs) ((1:Int)+y1)=0 then (pdH h8) else 0) (QJ (pdH h8) (pdR (pdH h8) rs) (Q0 h8 rs) ((1:Int)+y1))))).length<=1000)/\(0<=(lI (pdR (pdH h8) rs))/\(lI (pdR (pdH h8) rs))<=10000)/\((Wt (Jd (if Q6 (pdH h8) (pdR (pdH h8) rs) (Q0 h8 rs) ((1:Int)+y1)=0 then (pdH h8) else 0) (QJ (pdH h8) (pdR (pdH h8) rs) (Q0 h8 rs) ((1:Int)+y1))) (GF mx (YW (if Q6 (pdH h8) (pdR (pdH h8) rs) (Q0 h8 rs) ((1:Int)+y1)=0 then (pdH h8) else 0) (QJ (pdH h8) (pdR (pdH h8) rs) (Q0 h8 rs) ((1:Int)+y1))))).length<=1000/\(JI h8 rs).length<=1000)/\((H9 (VR (Jd (if Q6 (pdH h8) (pdR (pdH h8) rs) (Q0 h8 rs) ((1:Int)+y1)=0 then (pdH h8) else 0) (QJ (pdH h8) (pdR (pdH h8) rs) (Q0 h8 rs) ((1:Int)+y1))) (GF mx (YW (if Q6 (pdH h8) (pdR (pdH h8) rs) (Q0 h8 rs) ((1:Int)+y1)=0 then (pdH h8) else 0) (QJ (pdH h8) (pdR (pdH h8) rs) (Q0 h8 rs) ((1:Int)+y1))))) (Wt (Jd (if Q6 (pdH h8) (pdR (pdH h8) rs) (Q0 h8 rs) ((1:Int)+y1)=0 then (pdH h8) else 0) (QJ (pdH h8) (pdR (pdH h8) rs) (Q0 h8 rs) ((1:Int)+y1))) (GF mx (YW (if Q6 (pdH h8) (pdR (pdH h8) rs) (Q0 h8 rs) ((1:Int)+y1)=0 then (pdH h8) else 0) (QJ (pdH h8) (pdR (pdH h8) rs) (Q0 h8 rs) ((1:Int)+y1))))) (0:Int) (JI h8 rs)).length<=1000)/\(false=true->(H9 (VR (Jd (if Q6 (pdH h8) (pdR (pdH h8) rs) (Q0 h8 rs) ((1:Int)+y1)=0 then (pdH h8) else 0) (QJ (pdH h8) (pdR (pdH h8) rs) (Q0 h8 rs) ((1:Int)+y1))) (GF mx (YW (if Q6 (pdH h8) (pdR (pdH h8) rs) (Q0 h8 rs) ((1:Int)+y1)=0 then (pdH h8) else 0) (QJ (pdH h8) (pdR (pdH h8) rs) (Q0 h8 rs) ((1:Int)+y1))))) (Wt (Jd (if Q6 (pdH h8) (pdR (pdH h8) rs) (Q0 h8 rs) ((1:Int)+y1)=0 then (pdH h8) else 0) (QJ (pdH h8) (pdR (pdH h8) rs) (Q0 h8 rs) ((1:Int)+y1))) (GF mx (YW (if Q6 (pdH h8) (pdR (pdH h8) rs) (Q0 h8 rs) ((1:Int)+y1)=0 then (pdH h8) else 0) (QJ (pdH h8) (pdR (pdH h8) rs) (Q0 h8 rs) ((1:Int)+y1))))) (0:Int) (JI h8 rs))=[])/\((H9 (VR (Jd (if Q6 (pdH h8) (pdR (pdH h8) rs) (Q0 h8 rs) ((1:Int)+y1)=0 then (pdH h8) else 0) (QJ (pdH h8) (pdR (pdH h8) rs) (Q0 h8 rs) ((1:Int)+y1))) (GF mx (YW (if Q6 (pdH h8) (pdR (pdH h8) rs) (Q0 h8 rs) ((1:Int)+y1)=0 then (pdH h8) else 0) (QJ (pdH h8) (pdR (pdH h8) rs) (Q0 h8 rs) ((1:Int)+y1))))) (Wt (Jd (if Q6 (pdH h8) (pdR (pdH h8) rs) (Q0 h8 rs) ((1:Int)+y1)=0 then (pdH h8) else 0) (QJ (pdH h8) (pdR (pdH h8) rs) (Q0 h8 rs) ((1:Int)+y1))) (GF mx (YW (if Q6 (pdH h8) (pdR (pdH h8) rs) (Q0 h8 rs) ((1:Int)+y1)=0 then (pdH h8) else 0) (QJ (pdH h8) (pdR (pdH h8) rs) (Q0 h8 rs) ((1:Int)+y1))))) (0:Int) (JI h8 rs)).length<=1000)/\(Wm h8 rs)/\(KN h8 rs)/\((H9 (VR (Jd (if Q6 (pdH h8) (pdR (pdH h8) rs) (Q0 h8 rs) ((1:Int)+y1)=0 then (pdH h8) else 0) (QJ (pdH h8) (pdR (pdH h8) rs) (Q0 h8 rs) ((1:Int)+y1))) (GF mx (YW (if Q6 (pdH h8) (pdR (pdH h8) rs) (Q0 h8 rs) ((1:Int)+y1)=0 then (pdH h8) else 0) (QJ (pdH h8) (pdR (pdH h8) rs) (Q0 h8 rs) ((1:Int)+y1))))) (Wt (Jd (if Q6 (pdH h8) (pdR (pdH h8) rs) (Q0 h8 rs) ((1:Int)+y1)=0 then (pdH h8) else 0) (QJ (pdH h8) (pdR (pdH h8) rs) (Q0 h8 rs) ((1:Int)+y1))) (GF mx (YW (if Q6 (pdH h8) (pdR (pdH h8) rs) (Q0 h8 rs) ((1:Int)+y1)=0 then (pdH h8) else 0) (QJ (pdH h8) (pdR (pdH h8) rs) (Q0 h8 rs) ((1:Int)+y1))))) (0:Int) (JI h8 rs)).length<=1000)/\(false=true->(H9 (VR (Jd (if Q6 (pdH h8) (pdR (pdH h8) rs) (Q0 h8 rs) ((1:Int)+y1)=0 then (pdH h8) else 0) (QJ (pdH h8) (pdR (pdH h8) rs) (Q0 h8 rs) ((1:Int)+y1))) (GF mx (YW (if Q6 (pdH h8) (pdR (pdH h8) rs) (Q0 h8 rs) ((1:Int)+y1)=0 then (pdH h8) else 0) (QJ (pdH h8) (pdR (pdH h8) rs) (Q0 h8 rs) ((1:Int)+y1))))) (Wt (Jd (if Q6 (pdH h8) (pdR (pdH h8) rs) (Q0 h8 rs) ((1:Int)+y1)=0 then (pdH h8) else 0) (QJ (pdH h8) (pdR (pdH h8) rs) (Q0 h8 rs) ((1:Int)+y1))) (GF mx (YW (if Q6 (pdH h8) (pdR (pdH h8) rs) (Q0 h8 rs) ((1:Int)+y1)=0 then (pdH h8) else 0) (QJ (pdH h8) (pdR (pdH h8) rs) (Q0 h8 rs) ((1:Int)+y1))))) (0:Int) (JI h8 rs))=[])/\((pdR (pdH h8) rs).length<=1000/\(H9 (VR (Jd (if Q6 (pdH h8) (pdR (pdH h8) rs) (Q0 h8 rs) ((1:Int)+y1)=0 then (pdH h8) else 0) (QJ (pdH h8) (pdR (pdH h8) rs) (Q0 h8 rs) ((1:Int)+y1))) (GF mx (YW (if Q6 (pdH h8) (pdR (pdH h8) rs) (Q0 h8 rs) ((1:Int)+y1)=0 then (pdH h8) else 0) (QJ (pdH h8) (pdR (pdH h8) rs) (Q0 h8 rs) ((1:Int)+y1))))) (Wt (Jd (if Q6 (pdH h8) (pdR (pdH h8) rs) (Q0 h8 rs) ((1:Int)+y1)=0 then (pdH h8) else 0) (QJ (pdH h8) (pdR (pdH h8) rs) (Q0 h8 rs) ((1:Int)+y1))) (GF mx (YW (if Q6 (pdH h8) (pdR (pdH h8) rs) (Q0 h8 rs) ((1:Int)+y1)=0 then (pdH h8) else 0) (QJ (pdH h8) (pdR (pdH h8) rs) (Q0 h8 rs) ((1:Int)+y1))))) (0:Int) (JI h8 rs)).length<=1000)/\∀ (qP:Bool),qP=((QQ (Jd (if Q6 (pdH h8) (pdR (pdH h8) rs) (Q0 h8 rs) ((1:Int)+y1)=0 then (pdH h8) else 0) (QJ (pdH h8) (pdR (pdH h8) rs) (Q0 h8 rs) ((1:Int)+y1))) (GF mx (YW (if Q6 (pdH h8) (pdR (pdH h8) rs) (Q0 h8 rs) ((1:Int)+y1)=0 then (pdH h8) else 0) (QJ (pdH h8) (pdR (pdH h8) rs) (Q0 h8 rs) ((1:Int)+y1)))))==(0:Int))->∀ (qQ:Bool),qQ=((Ja (VR (Jd (if Q6 (pdH h8) (pdR (pdH h8) rs) (Q0 h8 rs) ((1:Int)+y1)=0 then (pdH h8) else 0) (QJ (pdH h8) (pdR (pdH h8) rs) (Q0 h8 rs) ((1:Int)+y1))) (GF mx (YW (if Q6 (pdH h8) (pdR (pdH h8) rs) (Q0 h8 rs) ((1:Int)+y1)=0 then (pdH h8) else 0) (QJ (pdH h8) (pdR (pdH h8) rs) (Q0 h8 rs) ((1:Int)+y1))))) (Wt (Jd (if Q6 (pdH h8) (pdR (pdH h8) rs) (Q0 h8 rs) ((1:Int)+y1)=0 then (pdH h8) else 0) (QJ (pdH h8) (pdR (pdH h8) rs) (Q0 h8 rs) ((1:Int)+y1))) (GF mx (YW (if Q6 (pdH h8) (pdR (pdH h8) rs) (Q0 h8 rs) ((1:Int)+y1)=0 then (pdH h8) else 0) (QJ (pdH h8) (pdR (pdH h8) rs) (Q0 h8 rs) ((1:Int)+y1))))) (0:Int) (JI h8 rs))==(0:Int))->∀ (qR:Bool),qR=(qP&&qQ)->∀ (qS:Bool),qS=((Kb (pdH h8) (H9 (VR (Jd (if Q6 (pdH h8) (pdR (pdH h8) rs) (Q0 h8 rs) ((1:Int)+y1)=0 then (pdH h8) else 0) (QJ (pdH h8) (pdR (pdH h8) rs) (Q0 h8 rs) ((1:Int)+y1))) (GF mx (YW (if Q6 (pdH h8) (pdR (pdH h8) rs) (Q0 h8 rs) ((1:Int)+y1)=0 then (pdH h8) else 0) (QJ (pdH h8) (pdR (pdH h8) rs) (Q0 h8 rs) ((1:Int)+y1))))) (Wt (Jd (if Q6 (pdH h8) (pdR (pdH h8) rs) (Q0 h8 rs) ((1:Int)+y1)=0 then (pdH h8) else 0) (QJ (pdH h8) (pdR (pdH h8) rs) (Q0 h8 rs) ((1:Int)+y1))) (GF mx (YW (if Q6 (pdH h8) (pdR (pdH h8) rs) (Q0 h8 rs) ((1:Int)+y1)=0 then (pdH h8) else 0) (QJ (pdH h8) (pdR (pdH h8) rs) (Q0 h8 rs) ((1:Int)+y1))))) (0:Int) (JI h8 rs)) ((1:Int)+y1))==(0:Int))->∀ (qT:Bool),qT=(qR&&qS)->∀ (qU:Bool),qU=((Ug (pdH h8) (pdR (pdH h8) rs) (pdH h8) (H9 (VR (Jd (if Q6 (pdH h8) (pdR (pdH h8) rs) (Q0 h8 rs) ((1:Int)+y1)=0 then (pdH h8) else 0) (QJ (pdH h8) (pdR (pdH h8) rs) (Q0 h8 rs) ((1:Int)+y1))) (GF mx (YW (if Q6 (pdH h8) (pdR (pdH h8) rs) (Q0 h8 rs) ((1:Int)+y1)=0 then (pdH h8) else 0) (QJ (pdH h8) (pdR (pdH h8) rs) (Q0 h8 rs) ((1:Int)+y1))))) (Wt (Jd (if Q6 (pdH h8) (pdR (pdH h8) rs) (Q0 h8 rs) ((1:Int)+y1)=0 then (pdH h8) else 0) (QJ (pdH h8) (pdR (pdH h8) rs) (Q0 h8 rs) ((1:Int)+y1))) (GF mx (YW (if Q6 (pdH h8) (pdR (pdH h8) rs) (Q0 h8 rs) ((1:Int)+y1)=0 then (pdH h8) else 0) (QJ (pdH h8) (pdR (pdH h8) rs) (Q0 h8 rs) ((1:Int)+y1))))) (0:Int) (JI h8 rs)))==(0:Int))->∀ (qV:Bool),qV=(qT&&qU)->∀ (qW:Bool),qW=((Me (VR (Jd (if Q6 (pdH h8) (pdR (pdH h8) rs) (Q0 h8 rs) ((1:Int)+y1)=0 then (pdH h8) else 0) (QJ (pdH h8) (pdR (pdH h8) rs) (Q0 h8 rs) ((1:Int)+y1))) (GF mx (YW (if Q6 (pdH h8) (pdR (pdH h8) rs) (Q0 h8 rs) ((1:Int)+y1)=0 then (pdH h8) else 0) (QJ (pdH h8) (pdR (pdH h8) rs) (Q0 h8 rs) ((1:Int)+y1))))) (Wt (Jd (if Q6 (pdH h8) (pdR (pdH h8) rs) (Q0 h8 rs) ((1:Int)+y1)=0 then (pdH h8) else 0) (QJ (pdH h8) (pdR (pdH h8) rs) (Q0 h8 rs) ((1:Int)+y1))) (GF mx (YW (if Q6 (pdH h8) (pdR (pdH h8) rs) (Q0 h8 rs) ((1:Int)+y1)=0 then (pdH h8) else 0) (QJ (pdH h8) (pdR (pdH h8) rs) (Q0 h8 rs) ((1:Int)+y1))))) (0:Int) (JI h8 rs))==(0:Int))->∀ (oW:Bool),oW=(qV&&qW)->(oW=true->(H9 (VR (Jd (if Q6 (pdH h8) (pdR (pdH h8) rs) (Q0 h8 rs) ((1:Int)+y1)=0 then (pdH h8) else 0) (QJ (pdH h8) (pdR (pdH h8) rs) (Q0 h8 rs) ((1:Int)+y1))) (GF mx (YW (if Q6 (pdH h8) (pdR (pdH h8) rs) (Q0 h8 rs) ((1:Int)+y1)=0 then (pdH h8) else 0) (QJ (pdH h8) (pdR (pdH h8) rs) (Q0 h8 rs) ((1:Int)+y1))))) (Wt (Jd (if Q6 (pdH h8) (pdR (pdH h8) rs) (Q0 h8 rs) ((1:Int)+y1)=0 then (pdH h8) else 0) (QJ (pdH h8) (pdR (pdH h8) rs) (Q0 h8 rs) ((1:Int)+y1))) (GF mx (YW (if Q6 (pdH h8) (pdR (pdH h8) rs) (Q0 h8 rs) ((1:Int)+y1)=0 then (pdH h8) else 0) (QJ (pdH h8) (pdR (pdH h8) rs) (Q0 h8 rs) ((1:Int)+y1))))) (0:Int) (JI h8 rs)).length<=1000000)/\∀ (qX:Bool),qX=(oW&&((H9 (VR (Jd (if Q6 (pdH h8) (pdR (pdH h8) rs) (Q0 h8 rs) ((1:Int)+y1)=0 then (pdH h8) else 0) (QJ (pdH h8) (pdR (pdH h8) rs) (Q0 h8 rs) ((1:Int)+y1))) (GF mx (YW (if Q6 (pdH h8) (pdR (pdH h8) rs) (Q0 h8 rs) ((1:Int)+y1)=0 then (pdH h8) else 0) (QJ (pdH h8) (pdR (pdH h8) rs) (Q0 h8 rs) ((1:Int)+y1))))) (Wt (Jd (if Q6 (pdH h8) (pdR (pdH h8) rs) (Q0 h8 rs) ((1:Int)+y1)=0 then (pdH h8) else 0) (QJ (pdH h8) (pdR (pdH h8) rs) (Q0 h8 rs) ((1:Int)+y1))) (GF mx (YW (if Q6 (pdH h8) (pdR (pdH h8) rs) (Q0 h8 rs) ((1:Int)+y1)=0 then (pdH h8) else 0) (QJ (pdH h8) (pdR (pdH h8) rs) (Q0 h8 rs) ((1:Int)+y1))))) (0:Int) (JI h8 rs))==(QJ (pdH h8) (pdR (pdH h8) rs) (Q0 h8 rs) ((1:Int)+y1))))->∀ (qY:Bool),qY=((lI (E_ (pdH h8) (H9 (VR (Jd (if Q6 (pdH h8) (pdR (pdH h8) rs) (Q0 h8 rs) ((1:Int)+y1)=0 then (pdH h8) else 0) (QJ (pdH h8) (pdR (pdH h8) rs) (Q0 h8 rs) ((1:Int)+y1))) (GF mx (YW (if Q6 (pdH h8) (pdR (pdH h8) rs) (Q0 h8 rs) ((1:Int)+y1)=0 then (pdH h8) else 0) (QJ (pdH h8) (pdR (pdH h8) rs) (Q0 h8 rs) ((1:Int)+y1))))) (Wt (Jd (if Q6 (pdH h8) (pdR (pdH h8) rs) (Q0 h8 rs) ((1:Int)+y1)=0 then (pdH h8) else 0) (QJ (pdH h8) (pdR (pdH h8) rs) (Q0 h8 rs) ((1:Int)+y1))) (GF mx (YW (if Q6 (pdH h8) (pdR (pdH h8) rs) (Q0 h8 rs) ((1:Int)+y1)=0 then (pdH h8) else 0) (QJ (pdH h8) (pdR (pdH h8) rs) (Q0 h8 rs) ((1:Int)+y1))))) (0:Int) (JI h8 rs)) ((1:Int)+y1)))==(0:Int))->∀ (qZ:Bool),qZ=(qX&&qY)->∀ (q8:Bool),q8=(((FL (pdH h8) (pdR (pdH h8) rs) (pdH h8) (H9 (VR (Jd (if Q6 (pdH h8) (pdR (pdH h8) rs) (Q0 h8 rs) ((1:Int)+y1)=0 then (pdH h8) else 0) (QJ (pdH h8) (pdR (pdH h8) rs) (Q0 h8 rs) ((1:Int)+y1))) (GF mx (YW (if Q6 (pdH h8) (pdR (pdH h8) rs) (Q0 h8 rs) ((1:Int)+y1)=0 then (pdH h8) else 0) (QJ (pdH h8) (pdR (pdH h8) rs) (Q0 h8 rs) ((1:Int)+y1))))) (Wt (Jd (if Q6 (pdH h8) (pdR (pdH h8) rs) (Q0 h8 rs) ((1:Int)+y1)=0 then (pdH h8) else 0) (QJ (pdH h8) (pdR (pdH h8) rs) (Q0 h8 rs) ((1:Int)+y1))) (GF mx (YW (if Q6 (pdH h8) (pdR (pdH h8) rs) (Q0 h8 rs) ((1:Int)+y1)=0 then (pdH h8) else 0) (QJ (pdH h8) (pdR (pdH h8) rs) (Q0 h8 rs) ((1:Int)+y1))))) (0:Int) (JI h8 rs))).1)==(DQ (pdH h8) (pdR (pdH h8) rs) (Q0 h8 rs) ((1:Int)+y1)))->∀ (oX:Bool),oX=(qZ&&q8)->(oX=true->True)/\∀ (oY:Bool),oY=(oX&&true)->(oY=true->True)/\∀ (oZ:Bool),oZ=(oY&&true)->(oZ=true/\(True))))
def Hn:Cx:=⟨[(3,(.i .i64))],[(4,UG),(5,VQ),(7,VI),(6,Nx),(8,ND),(9,NP),(10,Gz),(12,NQ),(11,Be),(14,Yi),(15,GA),(13,VK),(17,Gn),(16,KB),(18,NY),(19,YE)],160,[],0,[],[],[],[2,7,8,9,10,11,45],true,[],[],[],[]⟩
def AH (h8:Int) (rs:List Int) (mx:List Int):List (Nat×LoopAnn):=[]
theorem Ea (d:Int×List Int×List Int):gwp (Hn) (AH d.1 d.2.1 d.2.2) c3 0 (Wj [.tmp 6] (Dd d) (GX d)) (Qp 160 (AL.can Hm d))=Yu d.1 d.2.1 d.2.2:=by kernel_rfl
abbrev CL:Prop:=OkC Tryz.prog 3 Pr
theorem Cs (h:∀ (h8:Int) (rs:List Int) (mx:List Int),((0<=h8/\h8<=255)/\(rs.length<=9223372036854775807/\∀ x∈rs,0<=x/\x<=65535)/\mx.length<=9223372036854775807/\∀ x∈mx,0<=x/\x<=255)->Yu h8 rs mx):OkC Tryz.prog 3 Pr :=
 Qs fun3 mixed (C:=Hn) (V:=λ(d:Int×List Int×List Int)=>Yu d.1 d.2.1 d.2.2) ⟨(.cons Ld (.cons P9 (.cons Pk (.cons TT (.cons Ce (.cons Cr (.cons F5 (.cons Ao (.cons Q05 (.cons NI (.cons Fg (.cons Pz (.cons FH (.cons DU (.cons CI (.cons NG .nil)))))))))))))))),XsOk.nil,ItsOk.nil,YlOk.nil,IysOk.nil,XfOk.nil⟩ (Ea) λd hp=>h d.1 d.2.1 d.2.2 hp
theorem Q3b {H:Int}{R:List Int}(h:1<=H/\H<=24) (r:R≠[]/\R.length<=12/\∀ x∈R,0<=x/\x<2 ^ H.toNat):Qb H R=0:=by
 have hr:1<=R.length:=zt.2 r.1;have hl:=r.2.1;have i1:inI H 1 24=true:=by unfold inI;rw[zL (by omega),zL (by omega)];rfl
 unfold Qb;rw[z0 (by rw[i1];decide),z0 (by omega),z0 (by omega),z0];rw[xy];rintro⟨x,hx,hb⟩;have:=r.2.2 x hx;rw[show inI x 0 (2 ^ H.toNat-1)=true by unfold inI;rw[zL (by omega),zL (by omega)];rfl] at hb;cases hb
set_option maxHeartbeats 2000000 in
theorem ok_top_TopBound:CL:=Cs λh8 rs mx h=>by
 obtain⟨⟨h0,h1⟩,⟨h2,h3⟩,h4,h5⟩:=h;unfold Yu
 (try delta Q0 Jj JI VJ VV VO U4 VS KN U7 Wm q4)
 (try delta lI gD sT I64 Q2 pj8 pj4)
 have hr:=Q2f h0;have hR:=Z3j (hk:=pdH h8) (rs:=rs) (by omega);refine⟨⟨h0,h1,h2,h3⟩,⟨h4,by decide,h5⟩,by decide,?_⟩;generalize pdH h8=H at *
 generalize pdR H rs=R at *
 have t:=Oc h5 (show (0:Int)<=0 by omega);have t1:=Int.tmod_nonneg 3 t.1;have t2:=Int.tmod_lt_of_pos (Za mx 0) (show (0:Int)<3 by decide);intro y1 e1;have hB:1<=1+y1/\1+y1<=3:=by omega
 generalize 1+y1=B at hB |-;have jr:1<=H/\H<=24:=by omega
 have pe:=Q3b jr hR;obtain⟨r1,r2,r3⟩:=hR;have wz:1<=R.length:=zt.2 r1;obtain⟨La,Lb⟩:=Z5e hr pe hB (rfl:List.replicate R.length (0:Int)=_);simp only[z4];have wA:(List.replicate R.length (0:Int)).length<=1000:=by rw[xl];omega
 have sD:(QJ H R (List.replicate R.length (0:Int)) B).isEmpty=true->QJ H R (List.replicate R.length (0:Int)) B=[]:=List.isEmpty_iff.1;have wB:R.length<=1000:=by omega
 have ik:InK .i64 B:=by rw[Q7];omega
 repeat (first|(refine And.intro (by first|assumption|omega|(intro h;cases h;done)|(and_intros<;>first|assumption|omega|rfl|trivial|(intro h;cases h;done))) ?_))
 intro y2 e2;refine⟨λ_=>by decide,?_⟩;intro y3 e3 y4 e4 y5 e5;refine⟨λc=>?_,λc=>?_⟩
 .have hh:B=1/\Int.tmod H 2=1:=by
   rw[e5,e4,e2,z1,zD,zD,e3] at c;exact c
  have e9:=La hh;intro y6 e6;refine⟨λ_=>trivial,?_⟩;intro y7 e7;refine⟨λ_=>trivial,?_⟩;intro y8 e8;have z:y8=true:=by rw[e8,e7,e6,e9];rfl
  first|exact z|exact⟨z,trivial⟩
 .have hh:¬ (B=1/\Int.tmod H 2=1):=by
   rintro⟨a,b⟩;rw[e5,e4,e2,e3,a,b] at c;cases c
  obtain⟨q1,q2,q3,q4,q5,q6,q7⟩:=Lb hh;have qi:(if Q6 H R (List.replicate R.length (0:Int)) B=0 then H else 0)=H:=z2 q1;simp only[qi];simp only[q1];generalize QJ H R (List.replicate R.length (0:Int)) B=V at *
  have Vn:V≠[]:=by rintro rfl;simp at q2;omega
  have pz:=Q3f jr q3 Vn (by omega);have pw:YW H V=Co V:=by unfold YW;rw[z2 pz]
  have pk:Jd H V=H:=by unfold Jd;rw[z2 pz]
  have pl:=HE V;have iG:MarkI V (GF mx (Co V)):=MarkI.mix (Z2t V) h5 _ (z5 _);have fU:=iG.len;have u7:=A7 jr q3 fU Vn (by omega) iG.val;have q_:=Q2v iG u7;have fW:Wt H (GF mx (Co V))=Co V:=by unfold Wt;rw[z2 q_];exact Q8q fU iG.nd iG.val
  have jA:VR H (GF mx (Co V))=H:=by unfold VR;rw[z2 q_]
  obtain⟨w1,w2,w3⟩:=Q2w jr q3 Vn (by omega);rw[q2] at w1 w2 w3;have ep:(List.replicate R.length (1:Int)).length=R.length:=by simp
  simp only[pz,pw,pk,fW,jA,w1,w2,w3,q_,q4,q5,q6,q7];repeat (first|(refine And.intro (by first|assumption|omega|(intro h;cases h;done)|(and_intros<;>first|assumption|omega|rfl|trivial|(intro h;cases h;done))) ?_))
  intro y9 e9 qM aB qN sv qO u9 ob u_;have vd:ob=false:=by rw[u_,u9,sv,aB,e9,pl,q2];simp
  refine⟨λh=>(by rw[vd] at h;cases h),λ_=>?_⟩;repeat (first|(refine And.intro (by first|assumption|omega|(intro h;cases h;done)|(and_intros<;>first|assumption|omega|rfl|trivial|(intro h;omega)|(intro h;cases h;done))) ?_))
  intro qP ak qQ aD qR nR qS lA qT aw qU ve qV so qW vf oW ao;refine⟨λ_=>by omega,?_⟩;intro qX vg qY vh qZ ae q8 vi oX vj;refine⟨λ_=>trivial,?_⟩;intro oY vl;refine⟨λ_=>trivial,?_⟩;intro oZ vm;have z:oZ=true:=by rw[vm,vl,vj,vi,ae,vh,vg,ao,vf,so,ve,aw,lA,nR,aD,ak,beq_self_eq_true V,beq_self_eq_true (DQ H R (List.replicate R.length (0:Int)) B)];rfl
  first|exact z|exact⟨z,trivial⟩
end Go.Proofs.Tryz
namespace Go.V
open Go Go.ChangeShapes Go.WideShapes Go.RowKit Go.Deep Go.Joins
def Heap.RO (U:Heap):Prop:=∀ i b,U.get i=some b->b.wr=false
structure View (w:World) (ρ:Plc) (U:Heap):Prop where
 rel:HRel ρ U w
 ro:U.RO
structure More (ρ:Plc) (U:Heap) (ρ':Plc) (U':Heap):Prop where
 n:U.n<=U'.n
 pl:∀ i,i<U.n->∀ p,ρ' i=some p->ρ i=some p
 ag:Agree U U'
theorem More.refl (ρ:Plc) (U:Heap):More ρ U ρ U:=⟨z5 _,λ_ _ _ h=>h,Agree.refl _⟩
theorem More.trans {ρ ρ' ef:Plc}{U U' aM:Heap}(h:More ρ U ρ' U') (k:More ρ' U' ef aM):More ρ U ef aM :=
 ⟨xu h.n k.n,λi hi p hp=>h.pl i hi p (k.pl i (zQ hi h.n) p hp),h.ag.trans k.ag h.n⟩
def Z9k (w:World):Prop:=∀ g cs,Z40 g=some cs->∃ e f,w.heap[g]?=some (.cells cs.toArray e f)
theorem View.emptyT (w:World) (ht:Z9k w):View w (λ_=>none) Heap.empty where
 rel:=⟨⟨λi b h=>(by cases h),λ_ _=>rfl,λi p h=>(by cases h),λi j p q b _ h=>(by cases h)⟩,λg cs hg=>⟨ht g cs hg,λ⟨_,_,_,h,_⟩=>by cases h⟩⟩
 ro:=λi b h=>by cases h
theorem View.add {w:World}{ρ:Plc}{U:Heap}(h:View w ρ U) (p:Pl) (c:List Value) {C:Array Value}{e:TypeId}{f:Nat×Nat}(hb:w.heap[p.blk]?=some (.cells C e f)) (hs:p.shift+p.ext<=C.size) (hl:c.length<=p.ext) (ht:e=p.esz.ty)
  (hc:∀ (k:Nat) (v:Value),c[k]?=some v->∃ u,w.cell? ⟨p.blk,p.shift+k,none⟩=some u/\VRel ρ U.n v u) :
  View w (ρ.put U.n (some p)) (U.push (.cells c p.esz false p.tight))/\More ρ U (ρ.put U.n (some p)) (U.push (.cells c p.esz false p.tight)):=by
 have aX:∀ i,i<U.n->∀ q,(ρ.put U.n (some p)) i=some q->ρ i=some q:=λi hi q hq=>by unfold Plc.put at hq;rwa [z0 (by omega)] at hq
 have bY:(U.push (.cells c p.esz false p.tight)).RO:=λi b hi=>by
  by_cases e:i=U.n
  .subst e;rw[Heap.q0a] at hi;obtain rfl:=osj hi;rfl
  .rw[Heap.q0e _ _ e] at hi;exact h.ro i b hi
 refine⟨⟨⟨⟨?_,?_,?_,?_⟩,λg cs hg=>⟨(h.rel.tab g cs hg).1,λ⟨i,_,b,_,hi,hw,_⟩=>by rw[bY i b hi] at hw;cases hw⟩⟩,bY⟩,⟨by simp,aX,λi hi=>Heap.q0l _ _ hi⟩⟩
 .intro i b hi;by_cases a7:i=U.n
  .subst a7;rw[Heap.q0a] at hi;obtain rfl:=osj hi;refine⟨p,by simp[Plc.put],rfl,rfl,hl,⟨C,e,f,hb,hs,ht⟩,λk v hk=>?_,λh=>by cases h⟩;obtain⟨u,hu,hv⟩:=hc k v hk;exact⟨u,hu,hv.mono (by simp) aX⟩
  .rw[Heap.q0e _ _ a7] at hi;obtain⟨q,hq,hB⟩:=h.rel.live i b hi;exact⟨q,by simp[Plc.put,a7,hq],hB.mono (by simp) aX rfl⟩
 .intro i hi;by_cases a7:i=U.n
  .grind [Heap.q0a]
  .rw[Heap.q0e _ _ a7] at hi;simp[Plc.put,a7,h.rel.dead i hi]
 .intro i q hq;by_cases a7:i=U.n
  .subst a7;simp[Plc.put] at hq
   grind
  .simp[Plc.put,a7] at hq;exact h.rel.lt i q hq
 .intro i j q r b _ _ _ cZ hw _;rw[bY i b cZ] at hw;cases hw
theorem Q8m {P:Program}{fits:TypeId->Bool}{d:Nat}{e:TypeId}{count off n:Nat}(h:rowAt P fits d e count off n=true):off<=count*P.cellsOf e:=by
 cases d with
 |zero=>cases h
 |succ d =>
  unfold rowAt at h;by_cases hs:P.cellsOf e=0
  .simp[hs] at h
  .have br:0<P.cellsOf e:=Nat.pos_of_ne_zero hs;simp only[hs,if_false,zp,z1,zD,ze] at h;have hd:=Nat.div_add_mod off (P.cellsOf e);have hm:=x6 off br;rcases h with⟨⟨h1,h2⟩,_⟩|⟨h1,_⟩
   .have:P.cellsOf e*(off / P.cellsOf e)<=P.cellsOf e*count:=Nat.mul_le_mul_left _ (by omega);rw[xZ count];omega
   .have:P.cellsOf e*(off / P.cellsOf e+1)<=P.cellsOf e*count:=Nat.mul_le_mul_left _ (by omega)
    grind
theorem IA {P:Program}:∀ {d:Nat}{e:TypeId}{count off:Nat}{u:TypeId}{n:Nat},liesAt P d e count off u n=true->off<=count*P.cellsOf e
 |0,_,_,_,_,_,h=>by cases h
 |d+1,e,count,off,u,n,h=>by
  unfold liesAt at h;rw[zp] at h;rcases h with h|h
  .exact Q8m h
  .split at h
   .exact IA h
   .cases h
theorem Q0f {P:Program}{w:World}{r:Reach}{base:Nat}{a:Addr}{e:TypeId}{n:Nat}(h:w.has P r base a e n):∃ C row f,w.heap[a.block]?=some (.cells C row f)/\a.off<=C.size/\a.spot=none:=by
 obtain⟨_,hs,row,cells,eA,hl⟩:=h;unfold World.shape? at eA;split at eA
 .rename_i C e' f hb;obtain⟨rfl,rfl⟩:=(by simpa using eA:e'=row/\C.size=cells);exact⟨C,e',f,hb,xu (IA hl) (Nat.div_mul_le_self _ _),hs⟩
 .cases eA
theorem SS {P:Program}{w:World}{r:Reach}{base:Nat}{t e:TypeId}{v:Value}(ht:P.underlying t=some (.slice e)) (h:Cell.okWide P w r base t v) :
  v=.slice none 0 0\/∃ a len cap,v=.slice (some a) len cap/\w.has P r base a e cap:=by
 unfold Cell.okWide at h;rw[ht] at h;have h':Cell.ok P w r base t v:=by omega
 unfold Cell.ok at h'
 grind
theorem Z6v {k:IntKind}{x:Int}(h:(Lit.int k x).wf=true):k.min<=x/\x<=k.max:=by simpa [Lit.wf] using h
theorem View.calls {P:Program}{f:FuncId}{w:World}{ρ:Plc}{U:Heap}(h:View w ρ U) {args:List Value}{aG:Array Value}(hl:LRel ρ U.n args aG.toList) (hc:VCallsTo P f args U λv _=>v=.bool true) :
  Calls P f aG w λe w'=>e=.returned (.bool true)/\Below w.heap.size w w':=by
 refine (hc ρ w aG h.rel hl).mono λe w' ⟨c,he,v,ρ',U',hv,hr,_,hx⟩=>?_;subst hv;have:c=.bool true:=by cases hr;rfl
 subst this;exact⟨he,hx.os,hx.tape,hx.output,hx.size,λB hB=>hx.keep B hB λ⟨i,p,b,_,hi,hw,_⟩=>by rw[h.ro i b hi] at hw;cases hw⟩
theorem Rl {H:Type}{enc:TypeId×Value->H}{P:Program}(hl:laidOutB P=true) {W W':World}{sp:Nat->Bool}(hb:Below W.heap.size W W') :
  ∀ {ts:List TypeId}{vs:List Value}{ds:List (DataW H)}{ps:List MemPlace},(∀ t∈ts,P.readableRec t=true/\t<P.types.size)->DataW.TrodAll enc P W 0 (λ_=>true) true ts vs ds ps->(∀ p∈ps,p.block<W.heap.size)->(∀ p∈ps,sp p.block=true) ->
   DataW.TrodAll enc P W' 0 sp true ts vs ds ps
 |[],vs,ds,ps,_,h,_,_=>by obtain⟨rfl,rfl,rfl⟩:=trodAll_nil h;rfl
 |t::ts,vs,ds,ps,ht,h,aj,hs=>by
  obtain⟨v,cq,d,ds',p,q,rfl,rfl,rfl,h1,h2⟩:=trodAll_cons h;obtain⟨r1,r2⟩:=ht t (by simp);exact⟨p,q,WideElems.Trod_stays hl r1 r2 h1 (λx hx=>hb.same (aj x (by simp[hx]))) (λx hx=>hs x (by simp[hx])),
   Rl hl hb (λt o3=>ht t (by simp[o3])) h2 (λx hx=>aj x (by simp[hx])) (λx hx=>hs x (by simp[hx])),rfl⟩
theorem Q9l {H:Type}{enc:TypeId×Value->H}{P:Program}{f:Func}{s:ChangeSpec}{apart fresh handsOn again:Bool}{W W':World}{args:Array Value}{ds gs:List (DataW H)}{before:List MemPlace}{tb:TypeId}
  (hl:laidOutB P=true) (hp:f.params.toList.all (λt=>P.readableRec t&&decide (t<P.types.size))=true) (j5:s.vars=[]) (hr:f.resultTypes=#[tb]) (bF:P.underlying tb=some .bool) (hs:s.fn H ds={results:=[.lit (.bool true)],args:=ds})
  (hW:DataW.Whole enc P f.params.toList s.vars apart W args.toList ds gs before) (hb:Below W.heap.size W W'):s.post enc P f apart fresh handsOn again W args (.bool true) W':=by
 have aj:∀ p∈before,p.block<W.heap.size:=λp hp=>hW.lt p hp;have sD:=hW;obtain⟨p,q,hA,hV,rfl,hz,hn⟩:=hW;rw[j5] at hV;obtain⟨rfl,rfl⟩:=trodVars_none hV;have bu:∀ t∈f.params.toList,P.readableRec t=true/\t<P.types.size:=(by grind);have ft:s.fn H (ds++[])={results:=[.lit (.bool true)],args:=ds}:=by rw[xn];exact hs
 have cf:∀ (b:Nat) (sp:Nat->Bool) (hd:Bool),DataW.TrodAll enc P W' b sp hd f.resultTypes.toList ((Value.bool true).resultList f.resultTypes.size) (s.fn H (ds++[])).results []:=λb sp hd=>by rw[ft,hr];exact trodAll_mk1 (shut_bool bF _)
 have az:∀ sp:Nat->Bool,(∀ x∈p++[],sp x.block=true)->DataW.TrodAll enc P W' 0 sp true f.params.toList args.toList (s.fn H (ds++[])).args p:=(by grind [Rl]);have cy:∀ sp:Nat->Bool,DataW.TrodVars enc P W' sp s.vars (s.fn H (ds++[])).vars []:=λsp=>by rw[ft,j5];rfl
 have hold:∀ x∈p++[],(λb=>decide (b<W.heap.size)) x.block=true:=λx hx=>by simpa using aj x hx
 refine⟨ds,[],p++[],[],p,[],sD,cf _ _ _,az _ hold,cy _,World.keptBut_mono (λx hx=>⟨hx,?_⟩) (hb.frame (·∈p++[])),λ_=>?_⟩
 .exact .inr (by simpa using hx)
 .refine⟨ok_one hr rfl (okWide_bool_mk bF _),_,_,([]++p)++[],⟨[]++p,[],trodAll_append (az _ (λ_ _=>rfl)) (cf _ _ _),cy _,rfl,?_,?_⟩,?_⟩
  .intro b off hx;have a7:MemPlace.cell b off∈p++[]:=by simpa using hx
   rw[hb.frozen (aj _ a7)];exact hz b off a7
  .intro ha;simpa using hn ha
  .intro x hx _;simpa using hx
def KFs (T:Kind->TypeId->Bool) (sz:TypeId->Nat):Kind->List (TypeId×Nat)->Nat->Bool
 |_,[],_=>false
 |k,[p],off=>p.2==off&&(sz p.1==k.size&&T k p.1)
 |.pair a b,p::q::r,off=>p.2==off&&(sz p.1==a.size&&(T a p.1&&KFs T sz b (q::r) (off+a.size)))
 |_,_::_::_,_=>false
def Kind.row:Kind->Bool
 |.list k=>k.flat
 |_=>false
def J1d (P:Program) (t:TypeId):Bool:=match P.underlying t with|some (.slice _)=>true|_=>false
def KTy (P:Program):Nat->Kind->TypeId->Bool
 |0,_,_=>false
 |n+1,k,t=>match P.underlying t with
  |some (.struct fs)=>P.cellsOf t==k.size&&KFs (KTy P n) P.cellsOf k (fs.toList.map λf=>(f.type,f.offset)) 0
  |some (.array m e)=>P.cellsOf t==k.size&&KFs (KTy P n) P.cellsOf k ((List.range m).map λi=>(e,i*P.cellsOf e)) 0
  |some (.int ik)=>(match k with|.i k'=>decide (k'=ik)|_=>false)
  |some .bool=>(match k with|.bo=>true|_=>false)
  |some .string=>(match k with|.st=>true|_=>false)
  |some (.slice e)=>(match k with|.list k'=>P.cellsOf e==k'.size&&((k'.flat||(k'.row&&J1d P e))&&KTy P n k' e)|_=>false)
  |_=>false
def KWf:(k:Kind)->k.T->Prop
 |.i ik,x=>InK ik x
 |.bo,_=>True
 |.st,s=>s.length<=maxLen
 |.list k,l=>l.length<=maxLen/\∀ x∈l,KWf k x
 |.pair a b,x=>KWf a x.1/\KWf b x.2
theorem More.le {ρ ρ':Plc}{U U':Heap}(h:More ρ U ρ' U'):U.Le U':=⟨h.n,λi b hb=>by rw[h.ag i (U.lt hb)];exact hb⟩
def ArgIs (w:World) (ρ:Plc) (U:Heap) (k:Kind) (cs:List Value):Prop :=
 ∃ ρ' U' vs x,View w ρ' U'/\More ρ U ρ' U'/\LRel ρ' U'.n vs cs/\KC U' k x vs/\KWf k x
theorem ArgIs.pair {w:World}{ρ:Plc}{U:Heap}{a b:Kind}{cs ds:List Value}(h1:ArgIs w ρ U a cs) (h2:∀ ρ U,View w ρ U->ArgIs w ρ U b ds):ArgIs w ρ U (.pair a b) (cs++ds):=by obtain⟨ρ1,σ1,oT,x1,k1,k2,k3,k4,k5⟩:=h1;obtain⟨ρ2,σ2,jN,x2,m1,m2,m3,m4,m5⟩:=h2 ρ1 σ1 k1;exact⟨ρ2,σ2,oT++jN,(x1,x2),m1,k2.trans m2,(k3.mono m2.n m2.pl).append m3,⟨oT,jN,rfl,k4.mono m2.le,m4⟩,k5,m5⟩
section
variable {H:Type}{enc:TypeId×Value->H}{P:Program}{w:World}{r:Reach}{base:Nat}
def okc (P:Program) (w:World) (r:Reach) (base:Nat) (ts:List TypeId) (cs:List Value):Prop:=∀ (i:Nat) v u,cs[i]?=some v->ts[i]?=some u->Cell.okWide P w r base u v
theorem Q3j {T:Kind->TypeId->Bool}{sz:TypeId->Nat}{g:TypeId->Option (List TypeId)}(hT:∀ k t ts,T k t=true->g t=some ts->ts.length=k.size) :
  ∀ {k:Kind}{L:List (TypeId×Nat)}{off:Nat}{gM:List (List TypeId)},KFs T sz k L off=true->L.mapM (λp=>g p.1)=some gM->gM.flatten.length=k.size
 |k,[],_,_,h,_=>by simp[KFs] at h
 |k,[p],off,gM,h,hm=>by
  simp only[KFs,z1] at h;cases hg:g p.1 with
  |none=>simp[hg] at hm
  |some ts =>simp[hg] at hm;subst hm;simpa using hT _ _ _ h.2.2 hg
 |.pair a b,p::q::r,off,gM,h,hm=>by
  simp only[KFs,z1] at h;rw[x4] at hm;cases hg:g p.1 with
  |none=>simp[hg] at hm
  |some ts =>
   cases hr:(q::r).mapM (λp=>g p.1) with
   |none=>simp[hg,hr] at hm
   |some tr =>simp[hg,hr] at hm;subst hm;have:=Q3j hT h.2.2.2 hr;simp only[List.flatten_cons,zP,this,hT _ _ _ h.2.2.1 hg,Kind.size]
 |.i _,_::_::_,_,_,h,_|.bo,_::_::_,_,_,h,_|.st,_::_::_,_,_,h,_|.list _,_::_::_,_,_,h,_=>by cases h
theorem Rp {α β γ:Type}{f:α->β}{g:β->Option γ}:∀ (l:List α),(l.map f).mapM g=l.mapM (λx=>g (f x))
 |[]=>rfl
 |a::l=>by simp only[zx,x4,Rp l]
theorem Sn {β:Type}{x:β}{f:Nat->Option β}(h:∀ i,f i=some x):∀ l:List Nat,l.mapM f=some (List.replicate l.length x)
 |[]=>rfl
 |a::l=>by simp[x4,h,Sn h l,xr]
theorem Q3c:∀ {n:Nat}{k:Kind}{t:TypeId}{d:Nat}{ts:List TypeId},KTy P n k t=true->P.cellTypes d t=some ts->ts.length=k.size
 |0,_,_,_,_,h,_=>by cases h
 |_+1,_,_,0,_,_,h=>by cases h
 |n+1,k,t,d+1,ts,h,ht=>by
  have ih:∀ k t ts,KTy P n k t=true->P.cellTypes d t=some ts->ts.length=k.size:=λk t ts h1 h2=>Q3c h1 h2;unfold Program.cellTypes at ht;unfold KTy at h;cases hu:P.underlying t with
  |none=>rw[hu] at h;cases h
  |some u =>
   rw[hu] at h ht;cases u<;>first|(cases h;done)|skip
   all_goals simp only at h ht
   .split at h<;>first|(cases h;done)|(obtain rfl:=osj ht;rfl)
   .split at h<;>first|(cases h;done)|(obtain rfl:=osj ht;rfl)
   .split at h<;>first|(cases h;done)|(obtain rfl:=osj ht;rfl)
   .split at h<;>first|(cases h;done)|(obtain rfl:=osj ht;rfl)
   .rename_i m e;rw[z1] at h;cases hc:P.cellTypes d e with
    |none=>rw[hc] at ht;cases ht
    |some te =>rw[hc] at ht;obtain rfl:=osj ht;refine Q3j (g:=λt=>P.cellTypes d t) ih h.2 ?_;rw[Rp,Sn (x:=te) (λ_=>hc)];simp
   .rename_i fs;rw[z1] at h;cases hc:fs.toList.mapM λf=>P.cellTypes d f.type with
    |none=>rw[hc] at ht;cases ht
    |some gM =>rw[hc] at ht;obtain rfl:=osj ht;refine Q3j (g:=λt=>P.cellTypes d t) ih h.2 ?_;rw[Rp];exact hc
theorem TY {T:Kind->TypeId->Bool}{sz:TypeId->Nat}{Q:TypeId->List Value->Prop}{R:Kind->List Value->Prop}(hT:∀ k t cs,T k t=true->Q t cs->R k cs) (hR:∀ a b cs ds,R a cs->R b ds->R (.pair a b) (cs++ds)) (cs:List Value) :
  ∀ {k:Kind}{L:List (TypeId×Nat)}{off:Nat},KFs T sz k L off=true->(∀ p∈L,Q p.1 ((cs.drop p.2).take (sz p.1)))->R k ((cs.drop off).take k.size)
 |k,[],_,h,_=>by simp[KFs] at h
 |k,[p],off,h,hq=>by
  simp only[KFs,z1,zD] at h
  grind
 |.pair a b,p::q::r,off,h,hq=>by
  simp only[KFs,z1,zD] at h;have h1:=hq p (by simp);rw[h.1,h.2.1] at h1;have h2:=TY hT hR cs h.2.2.2 (by simp_all);have e:(cs.drop off).take (Kind.pair a b).size=(cs.drop off).take a.size++(cs.drop (off+a.size)).take b.size:=by rw[Kind.size,List.take_add,List.drop_drop]
  grind
 |.i _,_::_::_,_,h,_|.bo,_::_::_,_,h,_|.st,_::_::_,_,h,_|.list _,_::_::_,_,h,_=>by cases h
def FlatIs (k:Kind) (cs:List Value):Prop:=∃ y:k.T,(∀ h,KC h k y cs)/\KWf k y/\∀ ρ m,LRel ρ m cs cs
theorem FlatIs.pair {a b:Kind}{cs ds:List Value}(h1:FlatIs a cs) (h2:FlatIs b ds):FlatIs (.pair a b) (cs++ds):=by obtain⟨x,k1,k2,k3⟩:=h1;obtain⟨y,m1,m2,m3⟩:=h2;exact⟨(x,y),λh=>⟨cs,ds,rfl,k1 h,m1 h⟩,⟨k2,m2⟩,fun ρ m=>(k3 ρ m).append (m3 ρ m)⟩
theorem LRel.one {ρ:Plc}{n:Nat}{v c:Value}(h:VRel ρ n v c):LRel ρ n [v] [c]:=.cons h (.nil _ _)
theorem TK {fs:Array Field}{f:Field}(h:f∈fs.toList):∃ i:Nat,fs[i]?=some f:=by obtain⟨i,hi,rfl⟩:=List.mem_iff_getElem.1 h;exact⟨i,by simp at hi;simp[hi]⟩
theorem LP {sp:Nat->Bool}{held:Bool}:∀ {n:Nat}{k:Kind}{t:TypeId}{fuel:Nat}{cs:List Value}{x:DataW H×List MemPlace},KTy P n k t=true->k.flat=true->DataW.trod enc P w base sp held fuel t cs=some x->FlatIs k cs
 |0,_,_,_,_,_,h,_,_=>by cases h
 |n+1,k,t,fuel,cs,x,h,hf,hx=>by
  unfold KTy at h;cases hu:P.underlying t with
  |none=>rw[hu] at h;cases h
  |some u =>
   rw[hu] at h;have hR:∀ a b cs ds,((a.flat=true->FlatIs a cs)/\True)->((b.flat=true->FlatIs b ds)/\True)->(((Kind.pair a b).flat=true->FlatIs (.pair a b) (cs++ds))/\True):=λa b cs ds h1 h2=>⟨λhf=>by
    simp only[Kind.flat,z1] at hf;exact(h1.1 hf.1).pair (h2.1 hf.2),trivial⟩
   have hT:∀ k t cs,KTy P n k t=true->(∃ fuel x,DataW.trod enc P w base sp held fuel t cs=some x)->((k.flat=true->FlatIs k cs)/\True):=λk t cs h1 ⟨fuel,x,h2⟩=>⟨λhf=>LP h1 hf h2,trivial⟩;cases u<;>first|(cases h;done)|skip
   all_goals simp only at h
   .split at h<;>first|(cases h;done)|skip
    obtain⟨b,rfl,_⟩:=DataW.trod_bool hu hx;exact⟨b,λ_=>rfl,trivial,λ_ _=>.one (.bool _)⟩
   .split at h<;>first|(cases h;done)|skip
    obtain rfl:=z7 h;obtain⟨z,rfl,_,hw⟩:=DataW.trod_int hu hx;exact⟨z,λ_=>rfl,Z6v hw,λ_ _=>.one (.int _ _)⟩
   .split at h<;>first|(cases h;done)|skip
    obtain⟨s,rfl,_,hs⟩:=DataW.trod_string hu hx;exact⟨s.data.toList,λ_=>rfl,hs,λ_ _=>.one (.string _)⟩
   .split at h<;>first|(cases h;done)|(cases hf;done)
   .rename_i m e;simp only[z1,zD] at h;obtain⟨xs,m',_,_,hl,eN,hx⟩:=DataW.trod_array hu hx;have:=(TY (R:=λk cs=>(k.flat=true->FlatIs k cs)/\True) hT hR cs h.2 (by grind)).1 hf
    grind
   .rename_i fs;simp only[z1,zD] at h;obtain⟨xs,m',_,_,hl,eN,hx⟩:=DataW.trod_struct hu hx;have:=(TY (R:=λk cs=>(k.flat=true->FlatIs k cs)/\True) hT hR cs h.2 (by grind [TK,Array.getElem?_eq_some_iff,List.getElem?_eq_getElem])).1 hf
    grind
theorem Rows.range {α:Type}{R:α->List Value->Prop}{n:Nat}{c:List Value}{x:Nat->α}:∀ (m:Nat),(∀ i,i<m->R (x i) ((c.drop (i*n)).take n))->Rows R ((List.range m).map x) (c.take (m*n))
 |0,_=>by simp;exact .nil
 |m+1,h=>by
  have e:c.take ((m+1)*n)=c.take (m*n)++(c.drop (m*n)).take n:=by rw[zB,xx,List.take_add]
  rw[List.range_succ,xw,e];exact(Rows.range m λi hi=>h i (by omega)).append (by simpa using Rows.cons (h m (by omega)) .nil)
theorem SC {α:Type}[Inhabited α] {m:Nat}{p:Nat->α->Prop}(h:∀ i,i<m->∃ x,p i x):∃ f:Nat->α,∀ i,i<m->p i (f i) :=
 ⟨λi=>if hi:i<m then (h i hi).choose else default,(by grind)⟩
instance KInh (k:Kind):Inhabited k.T:=⟨k.dflt⟩
theorem View.list {ρ:Plc}{U:Heap}(h:View w ρ U) {n:Nat}{k:Kind}{t e:TypeId}{fuel:Nat}{cs:List Value}{x:DataW H×List MemPlace}(hu:P.underlying t=some (.slice e)) (hs:P.cellsOf e=k.size) (hf:k.flat=true) (hk:KTy P n k e=true)
  (hx:DataW.trod enc P w 0 (λ_=>true) true fuel t cs=some x) (av:okc P w r base [t] cs):ArgIs w ρ U (.list k) cs:=by
 rcases open_slice hu hx with⟨rfl,_⟩|⟨a,len,cap,m,fu,D,Pl,rfl,hb,hl,hm,eD,_,hel⟩
 .exact⟨ρ,U,[.slice none 0 0],[],h,More.refl _ _,.one .nilSl,⟨_,rfl,.inl ⟨rfl,rfl⟩⟩,by simp[maxLen],λ_ hx=>by cases hx⟩
 simp only[zn] at eD;subst eD;rw[hs] at hel;have lF:w.has P r base a e m:=by
  rcases SS hu (av 0 _ t rfl rfl) with hh|⟨a',nT,ax,hh,h2⟩
  .cases hh
  .cases hh;exact h2
 obtain⟨C,row,f,aI,aQ,cQ⟩:=Q0f lF;obtain⟨blk,off,spot⟩:=a;simp only at aI aQ cQ;subst cQ;have fE:∀ i,(⟨blk,off,none⟩:Addr).add i=⟨blk,off+i,none⟩:=λi=>by unfold Addr.add;split<;>simp_all
 obtain⟨X,hX⟩:=SC (α:=k.T×List Value) (m:=m) (p:=λi p=>p.2.length=k.size/\(∀ j,j<k.size->w.cell? ⟨blk,off+i*k.size+j,none⟩=p.2[j]?)/\(∀ h,KC h k p.1 p.2)/\KWf k p.1/\∀ ρ m,LRel ρ m p.2 p.2) λi hi=>by
  obtain⟨cs',h1,h2⟩:=hel i hi;obtain⟨_,k1,k2⟩:=World.cells?_some h1;obtain⟨y,m1,m2,m3⟩:=LP hk hf h2;refine⟨(y,cs'),k1,λj hj=>?_,m1,m2,m3⟩;have:=k2 j hj;rw[fE] at this;have e2:(⟨blk,off+i*k.size,none⟩:Addr).add j=⟨blk,off+i*k.size+j,none⟩:=by unfold Addr.add;split<;>simp_all
  rw[e2] at this;exact this
 have br:=k.size_pos;let c:List Value:=(List.range (m*k.size)).map λj=>((X (j / k.size)).2[j % k.size]?).getD undef;have cg:c.length=m*k.size:=by simp[c]
 have hdiv:∀ j,j<m*k.size->j / k.size<m:=λj hj=>Nat.div_lt_of_lt_mul (by rw[xZ];exact hj);have bq:∀ j,j<m*k.size->∃ v,c[j]?=some v/\w.cell? ⟨blk,off+j,none⟩=some v/\∀ ρ m,VRel ρ m v v:=λj hj=>by
  have h1:=hX (j / k.size) (hdiv j hj);have fq:j % k.size<k.size:=x6 _ br;have h2:=h1.2.1 _ fq;have e:off+j / k.size*k.size+j % k.size=off+j:=by rw[zo,Nat.div_add_mod']
  rw[e] at h2;have h3:j % k.size<(X (j / k.size)).2.length:=by rw[h1.1];exact fq
  refine⟨(X (j / k.size)).2[j % k.size],?_,?_,fun ρ m=>(h1.2.2.2.2 ρ m).2 _ _ _ (z3 h3) (z3 h3)⟩
  .grind
  .rw[h2,z3 h3]
 have ra:∀ i,i<m->(c.drop (i*k.size)).take k.size=(X i).2:=λi hi=>by
  have h1:=hX i hi;have hle:i*k.size+k.size<=m*k.size:=by have:(i+1)*k.size<=m*k.size:=zj _ hi;rw[zB] at this;omega
  apply x3
  grind
 have aP:off+m*k.size<=C.size:=by
  rcases Nat.eq_zero_or_pos (m*k.size) with h0|h0
  .omega
  .obtain⟨v,_,h2,_⟩:=bq (m*k.size-1) (by omega);unfold World.cell? at h2
   grind
 obtain⟨hv,gB⟩:=h.add ⟨blk,off,m*k.size,⟨k.size,row⟩,false⟩ c aI aP (by simp[cg]) rfl (by grind);have hlen:((List.range len).map λi=>(X i).1).length=len:=by simp
 refine⟨_,_,[.slice (some ⟨U.n,0,none⟩) len m],(List.range len).map λi=>(X i).1,hv,gB,.one ?_,⟨_,rfl,.inr ⟨U.n,0,m,c,⟨k.size,row⟩,false,false,by rw[hlen],by rw[hlen];exact hl,Heap.q0a _ _,rfl,?_,?_⟩⟩,?_,λy hy=>?_⟩
 .refine .sl _ _ _ _ _ _ (by simp) λp hp=>?_;simp[Plc.put] at hp;subst hp;simp_all
 .rw[hlen,cg,zN];exact zj _ hl
 .grind [Rows.range]
 .rw[hlen];exact xu hl hm
 grind
theorem View.listH {ρ:Plc}{U:Heap}(h:View w ρ U) {n:Nat}{k:Kind}{t e:TypeId}{fuel:Nat}{cs:List Value}{x:DataW H×List MemPlace}(hu:P.underlying t=some (.slice e)) (hs:P.cellsOf e=k.size) (hf:k.flat=true) (hk:KTy P n k e=true)
  (hx:DataW.trod enc P w 0 (λ_=>true) true fuel t cs=some x) (hA:∃ (b:Nat) (C:Array Value) (e:TypeId) (f:Nat×Nat),w.heap[b]?=some (Obj.cells C e f)):ArgIs w ρ U (.list k) cs:=by
 rcases open_slice hu hx with⟨rfl,_⟩|⟨a,len,cap,m,fu,D,Pl,rfl,hb,hl,hm,eD,_,hel⟩
 .exact⟨ρ,U,[.slice none 0 0],[],h,More.refl _ _,.one .nilSl,⟨_,rfl,.inl ⟨rfl,rfl⟩⟩,by simp[maxLen],λ_ hx=>by cases hx⟩
 simp only[zn] at eD;subst eD;rw[hs] at hel;have br:=k.size_pos;by_cases cA:m=0
 .
  subst cA;obtain rfl:len=0:=by omega
  obtain⟨b0,C0,e0,f0,o5⟩:=hA;obtain⟨hv,gB⟩:=h.add ⟨b0,0,0,⟨k.size,e0⟩,false⟩ [] o5 (Nat.zero_le _) (z5 _) rfl (λj v hj=>by simp at hj);refine⟨_,_,[.slice (some ⟨U.n,0,none⟩) 0 0],[],hv,gB,.one ?_,⟨_,rfl,.inr ⟨U.n,0,0,[],⟨k.size,e0⟩,false,false,rfl,z5 _,Heap.q0a _ _,rfl,?_,?_⟩⟩,by simp[KWf],λy hy=>by cases hy⟩
  .refine .sl _ _ _ _ _ _ (by simp) (by omega)
  .simp
  .simpa using Rows.nil
 obtain⟨C,row,f,aI,aQ,cQ⟩:∃ C row f,w.heap[a.block]?=some (Obj.cells C row f)/\a.off<=C.size/\a.spot=none:=by
  obtain⟨cs',h1,_⟩:=hel 0 (by omega);obtain⟨_,c1,c2⟩:=World.cells?_some h1;have c3:=c2 0 br;have e0:(a.add (0*k.size)).add 0=a:=by simp[Addr.add]
  rw[e0,z3 (by omega)] at c3;unfold World.cell? at c3;split at c3
  .rename_i C row f aI;split at c3
   .cases c3
   .rename_i hs;exact⟨C,row,f,aI,(by grind),by simpa using hs⟩
  .cases c3
 obtain⟨blk,off,spot⟩:=a;simp only at aI aQ cQ;subst cQ;have fE:∀ i,(⟨blk,off,none⟩:Addr).add i=⟨blk,off+i,none⟩:=λi=>by unfold Addr.add;split<;>simp_all
 obtain⟨X,hX⟩:=SC (α:=k.T×List Value) (m:=m) (p:=λi p=>p.2.length=k.size/\(∀ j,j<k.size->w.cell? ⟨blk,off+i*k.size+j,none⟩=p.2[j]?)/\(∀ h,KC h k p.1 p.2)/\KWf k p.1/\∀ ρ m,LRel ρ m p.2 p.2) λi hi=>by
  obtain⟨cs',h1,h2⟩:=hel i hi;obtain⟨_,k1,k2⟩:=World.cells?_some h1;obtain⟨y,m1,m2,m3⟩:=LP hk hf h2;refine⟨(y,cs'),k1,λj hj=>?_,m1,m2,m3⟩;have:=k2 j hj;rw[fE] at this;have e2:(⟨blk,off+i*k.size,none⟩:Addr).add j=⟨blk,off+i*k.size+j,none⟩:=by unfold Addr.add;split<;>simp_all
  rw[e2] at this;exact this
 let c:List Value:=(List.range (m*k.size)).map λj=>((X (j / k.size)).2[j % k.size]?).getD undef;have cg:c.length=m*k.size:=by simp[c]
 have hdiv:∀ j,j<m*k.size->j / k.size<m:=λj hj=>Nat.div_lt_of_lt_mul (by rw[xZ];exact hj);have bq:∀ j,j<m*k.size->∃ v,c[j]?=some v/\w.cell? ⟨blk,off+j,none⟩=some v/\∀ ρ m,VRel ρ m v v:=λj hj=>by
  have h1:=hX (j / k.size) (hdiv j hj);have fq:j % k.size<k.size:=x6 _ br;have h2:=h1.2.1 _ fq;have e:off+j / k.size*k.size+j % k.size=off+j:=by rw[zo,Nat.div_add_mod']
  rw[e] at h2;have h3:j % k.size<(X (j / k.size)).2.length:=by rw[h1.1];exact fq
  refine⟨(X (j / k.size)).2[j % k.size],?_,?_,fun ρ m=>(h1.2.2.2.2 ρ m).2 _ _ _ (z3 h3) (z3 h3)⟩
  .grind
  .rw[h2,z3 h3]
 have ra:∀ i,i<m->(c.drop (i*k.size)).take k.size=(X i).2:=λi hi=>by
  have h1:=hX i hi;have hle:i*k.size+k.size<=m*k.size:=by have:(i+1)*k.size<=m*k.size:=zj _ hi;rw[zB] at this;omega
  apply x3
  grind
 have aP:off+m*k.size<=C.size:=by
  rcases Nat.eq_zero_or_pos (m*k.size) with h0|h0
  .omega
  .obtain⟨v,_,h2,_⟩:=bq (m*k.size-1) (by omega);unfold World.cell? at h2
   grind
 obtain⟨hv,gB⟩:=h.add ⟨blk,off,m*k.size,⟨k.size,row⟩,false⟩ c aI aP (by simp[cg]) rfl (by grind);have hlen:((List.range len).map λi=>(X i).1).length=len:=by simp
 refine⟨_,_,[.slice (some ⟨U.n,0,none⟩) len m],(List.range len).map λi=>(X i).1,hv,gB,.one ?_,⟨_,rfl,.inr ⟨U.n,0,m,c,⟨k.size,row⟩,false,false,by rw[hlen],by rw[hlen];exact hl,Heap.q0a _ _,rfl,?_,?_⟩⟩,?_,λy hy=>?_⟩
 .refine .sl _ _ _ _ _ _ (by simp) λp hp=>?_;simp[Plc.put] at hp;subst hp;simp_all
 .rw[hlen,cg,zN];exact zj _ hl
 .grind [Rows.range]
 .rw[hlen];exact xu hl hm
 grind
theorem View.list2 {ρ:Plc}{U:Heap}(h:View w ρ U) {n:Nat}{k:Kind}{t e e2:TypeId}{fuel:Nat}{cs:List Value}{x:DataW H×List MemPlace}(hu:P.underlying t=some (.slice e)) (hs:P.cellsOf e=1)
  (lP:P.underlying e=some (.slice e2)) (mg:P.cellsOf e2=k.size) (hf:k.flat=true) (hk:KTy P n k e2=true)
  (hx:DataW.trod enc P w 0 (λ_=>true) true fuel t cs=some x) (av:okc P w r base [t] cs):ArgIs w ρ U (.list (.list k)) cs:=by
 rcases open_slice hu hx with⟨rfl,_⟩|⟨a,len,cap,m,fu,D,Pl,rfl,hb,hl,hm,eD,_,hel⟩
 .exact⟨ρ,U,[.slice none 0 0],[],h,More.refl _ _,.one .nilSl,⟨_,rfl,.inl ⟨rfl,rfl⟩⟩,by simp[maxLen],λ_ hx=>by cases hx⟩
 simp only[zn] at eD;subst eD;rw[hs] at hel;have lF:w.has P r base a e m:=by
  rcases SS hu (av 0 _ t rfl rfl) with hh|⟨a',nT,ax,hh,h2⟩
  .cases hh
  .cases hh;exact h2
 obtain⟨C,row,f,aI,aQ,cQ⟩:=Q0f lF;obtain⟨blk,off,spot⟩:=a;simp only at aI aQ cQ;subst cQ;have fE:∀ i,(⟨blk,off,none⟩:Addr).add i=⟨blk,off+i,none⟩:=λi=>by unfold Addr.add;split<;>simp_all
 have rows:∀ j,j<=m->∃ ρ' U',∃ vs:List Value,∃ xs:List (List k.T),View w ρ' U'/\More ρ U ρ' U'/\vs.length=j/\xs.length=j/\(∀ (i:Nat) v,vs[i]?=some v->∃ u,w.cell? ⟨blk,off+i,none⟩=some u/\VRel ρ' U'.n v u) /\
   Rows (KC U' (.list k)) xs vs/\∀ y∈xs,KWf (.list k) y:=by
  intro j;induction j with
  |zero=>exactλ_=>⟨ρ,U,[],[],h,More.refl _ _,rfl,rfl,λi v hi=>by simp at hi,.nil,λy hy=>by cases hy⟩
  |succ j ih =>
   intro hj;obtain⟨ρ1,σ1,vs,xs,k1,k2,k3,k4,k5,k6,k7⟩:=ih (by omega);obtain⟨cs',h1,h2⟩:=hel j (by omega);obtain⟨_,c1,c2⟩:=World.cells?_some h1;have c3:=c2 0 (by omega);obtain⟨u,rfl⟩:=zT.1 c1;have qy:((⟨blk,off,none⟩:Addr).add (j*1)).add 0=⟨blk,off+j,none⟩:=by rw[fE,wI];unfold Addr.add;split<;>simp_all
   rw[qy] at c3;have c4:w.cell? ⟨blk,off+j,none⟩=some u:=c3;obtain⟨ρ2,σ2,vv,y,m1,m2,m3,m4,m5⟩:=k1.listH lP mg hf hk h2 ⟨blk,C,row,f,aI⟩;have mh:vv.length=1:=by obtain⟨v,rfl,_⟩:=m4;rfl
   obtain⟨v,rfl⟩:=zT.1 mh;refine⟨ρ2,σ2,vs++[v],xs++[y],m1,k2.trans m2,by rw[zP,k3];rfl,by rw[zP,k4];rfl,λi v' hi=>?_,?_,λz hz=>?_⟩
   .by_cases cB:i<vs.length
    .rw[xD cB] at hi;obtain⟨u',g1,g2⟩:=k5 i v' hi;exact⟨u',g1,g2.mono m2.n m2.pl⟩
    .have mH:i<(vs++[v]).length:=(zm.1 hi).1;rw[zP,xm] at mH;have vn:i=j:=by omega
     subst vn;rw[xA (by omega),k3,Nat.sub_self] at hi;obtain rfl:=osj hi;exact⟨u,c4,m3.2 0 _ _ rfl rfl⟩
   .exact(k6.mono λ_ _ hc=>KC.mono m2.le hc).append (by simpa using Rows.cons m4 .nil)
   .grind
 obtain⟨ρ1,σ1,vs,xs,k1,k2,k3,k4,k5,k6,k7⟩:=rows m (z5 _);have aP:off+m<=C.size:=by
  rcases Nat.eq_zero_or_pos m with h0|h0
  .omega
  .obtain⟨u,h2,_⟩:=k5 (m-1) _ (z3 (by omega));unfold World.cell? at h2
   grind
 obtain⟨hv,gB⟩:=k1.add ⟨blk,off,m,⟨1,row⟩,false⟩ vs aI aP (by simp[k3]) rfl (λj v hj=>k5 j v hj);have hR:Rows (KC (σ1.push (.cells vs ⟨1,row⟩ false false)) (.list k)) xs vs:=k6.mono λ_ _ hc=>KC.mono gB.le hc;have hlen:(xs.take len).length=len:=by rw[wD,k4];omega
 have rb:(Kind.list k).size=1:=rfl;refine⟨_,_,[.slice (some ⟨σ1.n,0,none⟩) len m],xs.take len,hv,k2.trans gB,.one ?_,⟨_,rfl,.inr ⟨σ1.n,0,m,vs,⟨1,row⟩,false,false,by rw[hlen],by rw[hlen];exact hl,Heap.q0a _ _,rfl,?_,?_⟩⟩,?_,λy hy=>?_⟩
 .refine .sl _ _ _ _ _ _ (by simp) λp hp=>?_;simp[Plc.put] at hp;subst hp;simp_all
 .rw[rb,k3];omega
 .grind [Rows.take,KC.length]
 .rw[hlen];exact xu hl hm
 .exact k7 y (List.mem_of_mem_take hy)
def Kind.lev1:Kind->Bool
 |.list k=>k.flat||k.row
 |.pair a b=>a.lev1&&b.lev1
 |_=>true
theorem Q3z {ts:List TypeId}{cs:List Value}(h:okc P w r base ts cs) (o n:Nat):okc P w r base ((ts.drop o).take n) ((cs.drop o).take n):=λi v u h1 h2=>by
 have hi:i<n:=by
  grind
 rw[List.getElem?_take_of_lt hi,zV] at h1 h2;exact h _ v u h1 h2
theorem Ct {T:Kind->TypeId->Bool}{sz:TypeId->Nat}{g:TypeId->Option (List TypeId)}(hT:∀ k t ts,T k t=true->g t=some ts->ts.length=k.size) :
  ∀ {k:Kind}{L:List (TypeId×Nat)}{off:Nat}{gM:List (List TypeId)},KFs T sz k L off=true->L.mapM (λp=>g p.1)=some gM->∀ p∈L,off<=p.2/\g p.1=some ((gM.flatten.drop (p.2-off)).take (sz p.1))
 |k,[],_,_,h,_=>by simp[KFs] at h
 |k,[p],off,gM,h,hm=>by
  simp only[KFs,z1,zD] at h;intro p' hp;obtain rfl:=zO.1 hp;cases hg:g p'.1 with
  |none=>simp[hg] at hm
  |some ts =>
   simp[hg] at hm;subst hm;refine⟨by omega,?_⟩;rw[h.1,Nat.sub_self,xG,h.2.1,x9]
   .simp
   .simp[hT _ _ _ h.2.2 hg]
 |.pair a b,p::q::r,off,gM,h,hm=>by
  simp only[KFs,z1,zD] at h;rw[x4] at hm;intro p' hp;cases hg:g p.1 with
  |none=>simp[hg] at hm
  |some ts =>
   cases hr:(q::r).mapM (λp=>g p.1) with
   |none=>simp[hg,hr] at hm
   |some tr =>
    simp[hg,hr] at hm;subst hm;have hlen:=hT _ _ _ h.2.2.1 hg;rcases zK.1 hp with rfl|hp
    .simp_all
    .obtain⟨h1,h2⟩:=Ct hT h.2.2.2 hr p' hp
     grind [List.drop_eq_nil_of_le,List.flatten_cons,List.drop_append]
 |.i _,_::_::_,_,_,h,_|.bo,_::_::_,_,_,h,_|.st,_::_::_,_,_,h,_|.list _,_::_::_,_,_,h,_=>by cases h
theorem IY:∀ {n:Nat}{k:Kind}{t:TypeId}{d:Nat}{ts:List TypeId}{fuel:Nat}{cs:List Value}{x:DataW H×List MemPlace},KTy P n k t=true->k.lev1=true->P.cellTypes d t=some ts->okc P w r base ts cs->DataW.trod enc P w 0 (λ_=>true) true fuel t cs=some x->∀ ρ U,View w ρ U->ArgIs w ρ U k cs
 |0,_,_,_,_,_,_,_,h,_,_,_,_=>by cases h
 |_+1,_,_,0,_,_,_,_,_,_,h,_,_=>by cases h
 |n+1,k,t,d+1,ts,fuel,cs,x,h,hf,eJ,av,hx=>by
  intro ρ U hv;by_cases aV:k.flat=true
  .obtain⟨y,h1,h2,h3⟩:=LP h aV hx;exact⟨ρ,U,cs,y,hv,More.refl _ _,h3 _ _,h1 _,h2⟩
  unfold KTy at h;cases hu:P.underlying t with
  |none=>rw[hu] at h;cases h
  |some u =>
   rw[hu] at h;let Q:TypeId->List Value->Prop:=λt cs=>(∃ fuel x,DataW.trod enc P w 0 (λ_=>true) true fuel t cs=some x)/\∃ ts,P.cellTypes d t=some ts/\okc P w r base ts cs;let R:Kind->List Value->Prop:=λk cs=>k.lev1=true->∀ ρ U,View w ρ U->ArgIs w ρ U k cs;have hR:∀ a b cs ds,R a cs->R b ds->R (.pair a b) (cs++ds):=λa b cs ds h1 h2 hl ρ U hv=>by simp only[Kind.lev1,z1] at hl;exact(h1 hl.1 ρ U hv).pair fun ρ U hv=>h2 hl.2 ρ U hv
   have hT:∀ k t cs,KTy P n k t=true->Q t cs->R k cs:=λk t cs h1 ⟨⟨fuel,x,h2⟩,ts,h3,h4⟩ hl=>IY h1 hl h3 h4 h2;have hlen:∀ k t ts,KTy P n k t=true->P.cellTypes d t=some ts->ts.length=k.size:=λk t ts h1 h2=>Q3c h1 h2;unfold Program.cellTypes at eJ;rw[hu] at eJ;cases u<;>first|(cases h;done)|skip
   all_goals simp only at h
   .split at h<;>first|(cases h;done)|(exact absurd rfl aV)
   .split at h<;>first|(cases h;done)|(exact absurd rfl aV)
   .split at h<;>first|(cases h;done)|(exact absurd rfl aV)
   .rename_i e;split at h<;>first|(cases h;done)|skip
    simp only[z1,zD] at h;simp only[xg] at eJ;subst eJ;rcases zp _ _▸h.2.1 with hk|hk
    .exact hv.list hu h.1 hk h.2.2 hx av
    .rename_i k';rw[z1] at hk;obtain⟨hk,fT⟩:=hk;cases k'<;>first|(cases hk;done)|skip
     rename_i k2;have h3:=h.2.2;unfold J1d at fT;split at fT<;>first|(cases fT;done)|skip
     rename_i e2 lP;cases n with
     |zero=>cases h3
     |succ n =>unfold KTy at h3;rw[lP] at h3;simp only[z1,zD] at h3;exact hv.list2 hu h.1 lP h3.1 hk h3.2.2 hx av
   .rename_i m e;simp only[z1,zD] at h;obtain⟨xs,m',_,_,hl,eN,hx⟩:=DataW.trod_array hu hx;simp only at eJ;cases hc:P.cellTypes d e with
    |none=>rw[hc] at eJ;cases eJ
    |some te =>
     rw[hc] at eJ;obtain rfl:=osj eJ;have mU:((List.range m).map λi=>(e,i*P.cellsOf e)).mapM (λp:TypeId×Nat=>P.cellTypes d p.1)=some (List.replicate m te):=by rw[Rp,Sn (x:=te) (λ_=>hc)];simp
     have:=TY (Q:=Q) (R:=R) hT hR cs h.2 (λp hp=>by
      have ou:=Ct (g:=λt=>P.cellTypes d t) hlen h.2 mU p hp
      grind [List.getElem?_eq_getElem,Q3z]) hf ρ U hv
     rwa [xG,x9 (by omega)] at this
   .rename_i fs;simp only[z1,zD] at h;obtain⟨xs,m',_,_,hl,eN,hx⟩:=DataW.trod_struct hu hx;simp only at eJ;cases hc:fs.toList.mapM λf=>P.cellTypes d f.type with
    |none=>rw[hc] at eJ;cases eJ
    |some gM =>
     rw[hc] at eJ;obtain rfl:=osj eJ;have mU:(fs.toList.map λf=>(f.type,f.offset)).mapM (λp:TypeId×Nat=>P.cellTypes d p.1)=some gM:=by rw[Rp];exact hc
     have:=TY (Q:=Q) (R:=R) hT hR cs h.2 (λp hp=>by
      have ou:=Ct (g:=λt=>P.cellTypes d t) hlen h.2 mU p hp
      grind [TK,Array.getElem?_eq_some_iff,List.getElem?_eq_getElem,Q3z]) hf ρ U hv
     rwa [xG,x9 (by omega)] at this
def isAgg (P:Program) (t:TypeId):Bool:=match P.underlying t with
 |some (.struct _)=>true
 |some (.array _ _)=>true
 |_=>false
theorem View.arg {ρ:Plc}{U:Heap}(h:View w ρ U) {n:Nat}{k:Kind}{t:TypeId}{v:Value}{d:DataW H}{p:List MemPlace}(hk:KTy P n k t=true) (hl:k.lev1=true) (ha:isAgg P t=!k.one) (av:Value.okWide P w r base t v) (hd:DataW.Trod enc P w 0 (λ_=>true) true t v d p) :
  ∃ ρ' U' vv x,View w ρ' U'/\More ρ U ρ' U'/\VRel ρ' U'.n vv v/\KV U' k x vv/\KWf k x:=by
 obtain⟨fuel,hd⟩:=hd;by_cases fN:isAgg P t=true
 .have bJ:k.one=false:=by rw[fN] at ha;simpa using ha.symm
  have:∃ cs,v=.agg cs/\cs.size=P.cellsOf t/\Row.okWide P w r base t cs:=by
   unfold isAgg at fN;unfold Value.okWide at av
   grind
  obtain⟨cs,rfl,aP,ts,eJ,_,cw⟩:=this;have hlen:=Q3c hk eJ;have aE:P.cellsOf t=k.size:=by
   unfold isAgg at fN;cases n with
   |zero=>cases hk
   |succ n =>
    unfold KTy at hk;split at fN<;>first|(cases fN;done)|skip
    all_goals
     rename_i hu;rw[hu] at hk;simp only[z1,zD] at hk;exact hk.1
  have lG:okc P w r base ts cs.toList:=λi v u h1 h2=>by
   grind [List.getElem?_eq_some_iff,Nat.mod_eq_of_lt,osj]
  obtain⟨ρ',U',vs,x,k1,k2,k3,k4,k5⟩:=IY hk hl eJ lG (show DataW.trod enc P w 0 _ true fuel t cs.toList=_ from hd) ρ U h;exact⟨ρ',U',.agg vs.toArray,x,k1,k2,VRel.q1h (ds:=cs.toList) k3,.inr ⟨bJ,vs,rfl,k4⟩,k5⟩
 .have bJ:k.one=true:=by
   simp_all
  have ic:=Kind.q1k bJ;have bq:Cell.okWide P w r base t v/\v.cells.toList=[v]:=by
   have h1:isAgg P t=false:=by simpa using fN
   unfold isAgg at h1;have h2:Cell.okWide P w r base t v:=by
    unfold Value.okWide at av
    grind
   refine⟨h2,?_⟩;cases v<;>first|rfl|skip
   all_goals
    exfalso;cases n with
    |zero=>cases hk
    |succ n =>
     unfold KTy at hk;unfold Cell.okWide Cell.ok at h2;cases hu:P.underlying t with
     |none=>rw[hu] at hk;cases hk
     |some u =>rw[hu] at hk h2 h1;cases u<;>first|(cases hk;done)|(cases h1;done)|(cases h2;done)|(simp at h2;done)
  have eJ:P.cellTypes 1 t=some [t]:=by
   have h1:isAgg P t=false:=by simpa using fN
   unfold isAgg at h1;unfold Program.cellTypes;cases n with
   |zero=>cases hk
   |succ n =>
    unfold KTy at hk;cases hu:P.underlying t with
    |none=>rw[hu] at hk;cases hk
    |some u =>rw[hu] at h1;cases u<;>first|rfl|(cases h1;done)
  rw[bq.2] at hd;have lG:okc P w r base [t] [v]:=λi v' u h1 h2=>by
   grind
  obtain⟨ρ',U',vs,x,k1,k2,k3,k4,k5⟩:=IY hk hl eJ lG hd ρ U h;have:vs.length=1:=by rw[KC.length k4];exact ic
  obtain⟨vv,rfl⟩:=zT.1 this;exact⟨ρ',U',vv,x,k1,k2,k3.2 0 _ _ rfl rfl,.inl ⟨bJ,k4⟩,k5⟩
def AWf:(ks:List Kind)->AT ks->Prop
 |[],_=>True
 |[k],x=>KWf k x
 |k::k'::ks,x=>KWf k x.1/\AWf (k'::ks) x.2
def Z60 (P:Program):List Kind->List TypeId->Bool
 |[],[]=>true
 |k::ks,t::ts=>(KTy P 8 k t&&(k.lev1&&(isAgg P t==!k.one)))&&Z60 P ks ts
 |_,_=>false
theorem View.args:∀ {ks:List Kind}{ts:List TypeId}{vs:List Value}{ds:List (DataW H)}{ps:List MemPlace}{ρ:Plc}{U:Heap},View w ρ U->Z60 P ks ts=true->(∀ (j:Nat) t v,ts[j]?=some t->vs[j]?=some v->Value.okWide P w r base t v)->DataW.TrodAll enc P w 0 (λ_=>true) true ts vs ds ps ->
  ∃ ρ' U' l9 x,View w ρ' U'/\More ρ U ρ' U'/\LRel ρ' U'.n l9 vs/\I5 U' ks x l9/\AWf ks x
 |[],[],vs,ds,ps,ρ,U,h,_,_,hA=>by obtain⟨rfl,rfl,rfl⟩:=trodAll_nil hA;exact⟨ρ,U,[],(),h,More.refl _ _,.nil _ _,rfl,trivial⟩
 |[k],[t],vs,ds,ps,ρ,U,h,hk,hv,hA=>by obtain⟨v,cq,d,ds',p,q,rfl,rfl,rfl,h1,h2⟩:=trodAll_cons hA;obtain⟨rfl,rfl,rfl⟩:=trodAll_nil h2;simp only[Z60,z1,zD] at hk;obtain⟨ρ',U',vv,x,k1,k2,k3,k4,k5⟩:=h.arg hk.1.1 hk.1.2.1 hk.1.2.2 (hv 0 t v rfl rfl) h1;exact⟨ρ',U',[vv],x,k1,k2,.one k3,⟨vv,rfl,k4⟩,k5⟩
 |k::k'::ks,t::ts,vs,ds,ps,ρ,U,h,hk,hv,hA=>by obtain⟨v,cq,d,ds',p,q,rfl,rfl,rfl,h1,h2⟩:=trodAll_cons hA;simp only[Z60,z1,zD] at hk;obtain⟨ρ1,σ1,vv,x,k1,k2,k3,k4,k5⟩:=h.arg hk.1.1 hk.1.2.1 hk.1.2.2 (hv 0 t v rfl rfl) h1;obtain⟨ρ2,σ2,l9,y,m1,m2,m3,m4,m5⟩:=k1.args (ks:=k'::ks) hk.2 (λj t v h1 h2=>hv (j+1) t v h1 h2) h2;exact⟨ρ2,σ2,vv::l9,(x,y),m1,k2.trans m2,.cons (k3.mono m2.n m2.pl) m3,⟨vv,l9,rfl,k4.vcall m2.le,m4⟩,k5,m5⟩
 |[],_::_,_,_,_,_,_,_,hk,_,_|_::_,[],_,_,_,_,_,_,hk,_,_|[_],_::_::_,_,_,_,_,_,_,hk,_,_=>by simp[Z60] at hk
theorem Q98 (hT:Z9k w) {f:Nat}{sp:CSp}(cQ:OkC P f sp) (he:Yq P f) {ks:List Kind}{ts:List TypeId}{args:Array Value}{ds:List (DataW H)}{ps:List MemPlace}(hk:Z60 P ks ts=true)
  (hv:∀ (j:Nat) t v,ts[j]?=some t->args.toList[j]?=some v->Value.okWide P w r base t v) (hA:DataW.TrodAll enc P w 0 (λ_=>true) true ts args.toList ds ps)
  (hs:∀ x:AT ks,AWf ks x->∃ c,sp (λ_ _=>none) (IM ks x)=some (c,.val .bo true,[])/\c):Calls P f args w λe w'=>e=.returned (.bool true)/\Below w.heap.size w w':=by
 obtain⟨ρ,U,l9,x,k1,k2,k3,k4,k5⟩:=(View.emptyT w hT).args hk hv hA;obtain⟨c,h1,h2⟩:=hs x k5;exact k1.calls k3 (cQ.true he (PX k4) h1 h2)
end
end Go.V
namespace Go.V
open Go
theorem Al {H:Type}{enc:TypeId×Value->H}{P:Program}{w:World}{b:Nat}{sp:Nat->Bool}{hd:Bool}:∀ {ts:List TypeId}{vs:List Value}{ds:List (DataW H)}{ps:List MemPlace},DataW.TrodAll enc P w b sp hd ts vs ds ps->ds.length=ts.length
 |[],[],[],_,_=>rfl
 |t::ts,v::vs,d::ds,ps,h=>by obtain⟨p,q,_,h2,_⟩:=h;simp[Al h2]
 |[],[],_::_,_,h|[],_::_,_,_,h|_::_,[],_,_,h|_::_,_::_,[],_,h=>h.elim
end Go.V
namespace Go.Proofs.Tryz
open Go Go.V Go.Proofs
theorem Q4z {α β:Type}{f:α->Option β}:∀ {L:List α}{ys:List β},L.mapM f=some ys->ys.length=L.length/\∀ (i:Nat) (h:i<L.length) (h2:i<ys.length),f L[i]=some ys[i]
 |[],ys,h=>by simp at h;subst h;simp
 |a::L,ys,h=>by
  simp only[x4,zw,zR,Option.pure_def,xg] at h;obtain⟨y,hy,zs,hz,rfl⟩:=h;obtain⟨e1,e2⟩:=Q4z hz;refine⟨by simp[e1],λi h1 h2=>?_⟩;cases i with
  |zero=>exact hy
  |succ i=>exact e2 i (by simpa using h1) (by simpa using h2)
theorem Z35 {H:Type}{enc:TypeId×Value->H}{P:Program}{w:World}{base:Nat}{sp:Nat->Bool}{held:Bool}{fuel:Nat}{t:TypeId}{k:IntKind}{c:Value}{y:DataW H×List MemPlace}
  (ht:P.underlying t=some (.int k)) (h:DataW.trod enc P w base sp held fuel t [c]=some y):∃ n,c=.int k n/\y=(.lit (.int k n),[]):=by
 cases fuel with
 |zero=>simp[DataW.trod] at h
 |succ fuel =>cases c<;>simp[DataW.trod,ht] at h;rename_i k' n;obtain⟨⟨rfl,_⟩,rfl⟩:=h;exact⟨n,rfl,rfl⟩
theorem Z25 {H:Type}{enc:TypeId×Value->H}{P:Program}{w:World}{base:Nat}{sp:Nat->Bool}{held:Bool}{fuel:Nat}{t e:TypeId}{k:IntKind}{n:Nat}{l:List Value}{xs:List Int}{p:List MemPlace}
  (ht:P.underlying t=some (.array n e)) (he:P.underlying e=some (.int k)) (h1:P.cellsOf e=1) (hc:P.cellsOf t=n) (h:DataW.trod enc P w base sp held fuel t l=some (.agg (xs.map λx=>.lit (.int k x)),p)):l=xs.map λx=>.int k x:=by
 cases fuel with
 |zero=>simp[DataW.trod] at h
 |succ fuel =>
  simp only[DataW.trod,ht,h1,hc,wI] at h;split at h
  .rename_i hl;simp only[zi,Prod.mk.injEq,DataW.agg.injEq] at h;obtain⟨ys,hm,hx,_⟩:=h;obtain⟨e1,e2⟩:=Q4z hm;rw[wC] at e1;have hlen:xs.length=ys.length:=by
    have:=congrArg List.length hx;simpa using this.symm
   refine List.ext_getElem (by rw[xR];omega) λi k1 k2=>?_;have hy:=e2 i (by rw[wC];omega) (by omega);rw[List.getElem_range,xK k1] at hy;simp only[xO,List.take_zero] at hy;obtain⟨m,jh,fg⟩:=Z35 he hy;rw[jh,xq];have rf:(ys.map (·.1))[i]'(by rw[xR];omega)=(xs.map λx=>(DataW.lit (Lit.int k x):DataW H))[i]'(by rw[xR];omega):=by
    simp only[hx]
   rw[xq,xq,fg] at rf;simp only[DataW.lit.injEq,Lit.int.injEq,true_and] at rf;rw[rf]
  .cases h
theorem tab_heap {P:Program}{nm:String}{g G:Nat}{t e:TypeId}{k:IntKind}{n fuel:Nat}{cs:Array Value}{xs:List Int}{p:List MemPlace}{W:World}(hv:W.var? P nm=some cs) (hG:P.globalNamed nm=some G) (hg:P.globalNamed nm=some g) {T:TypeId}(hT:(P.globals[G]?).map (·.type)=some T) (gG:(P.globals[g]?).map (·.type)=some t)
  (ht:P.underlying T=some (.array n e)) (he:P.underlying e=some (.int k)) (h1:P.cellsOf e=1) (hc:P.cellsOf T=n) (hd:DataW.trod (λ_=>()) P W 0 (λ_=>true) false fuel t cs.toList=some (.agg (xs.map λx=>.lit (.int k x)),p)):∃ e f,W.heap[G]?=some (.cells (xs.map λx=>Value.int k x).toArray e f):=by
 obtain rfl:=osj (hG.symm.trans hg);obtain rfl:=osj (hT.symm.trans gG);have hl:=Z25 ht he h1 hc hd;unfold World.var? at hv;rw[hG] at hv;simp only[x8] at hv;split at hv
 .rename_i cs' a b hh;obtain rfl:=osj hv;refine⟨a,b,?_⟩;rw[hh,<-hl]
 .cases hv
theorem boundPre_of {x:Int×List Int×List Int}(h:AWf [.i .u8,.list (.i .u16),.list (.i .u8)] x):(0<=x.1/\x.1<=255)/\(x.2.1.length<=9223372036854775807/\∀ y∈x.2.1,0<=y/\y<=65535)/\x.2.2.length<=9223372036854775807/\∀ y∈x.2.2,0<=y/\y<=255:=by obtain⟨h1,h2,h3⟩:=h;exact⟨(Z0j _).1 h1,⟨h2.1,λy hy=>(Z5b y).1 (h2.2 y hy)⟩,h3.1,λy hy=>(Z0j y).1 (h3.2 y hy)⟩
end Go.Proofs.Tryz