/- A framework for walks, contracts of functions, and their proofs: part 5. -/
import Derived.Shelf.SlGeneric
import Derived.Shelf.Strings.SlTrimAscii
import Derived.Ground.NamesProg
import Derived.Test.YtglndbfamncmaaaDoorProg
import Derived.Below
import Derived.Shelf.Spec.SlicesGrow
import Derived.ProofKit
import Derived.OpenShut
import Derived.LaidMore
import Derived.Carry
import Derived.Lib.SmallJoins
import Derived.Test.YtglndbfamncmaaaDoorT4
set_option linter.unusedVariables false
set_option maxRecDepth 100000
namespace Go.Proofs.Tryd
open Go Go.V Go.Proofs
def DG:AL ((Int×List Int)×Int×List Int):=(.cons (.agg (.cons (.k (.i .i64)) (.one (.k (.list (.i .i64)))))) (.one (.agg (.cons (.k (.i .i64)) (.one (.k (.list (.i .i64))))))))
def R7 (d:(Int×List Int)×Int×List Int):Prop:=d.1.2.length<=110/\d.2.2.length<=110
def Gt (d:(Int×List Int)×Int×List Int):SV:=.tup [.lst 0,.val (.i .i64) (Qa d.1.1 d.1.2 d.2.1 d.2.2)]
def Mk (d:(Int×List Int)×Int×List Int):List OB:=[.lst 9 .st (Qf d.1.1 d.1.2 d.2.1 d.2.2) ((Qf d.1.1 d.1.2 d.2.1 d.2.2).isEmpty)]
def Vj:CSp:=W0 DG R7 Gt Mk
def K3 (hk:Int) (lw:List Int) (hd:Int) (rows:List Int):Prop :=
 (lw.length<=1000000)/\(((QV hk lw) != (0:Int))=true ->
  ((True/\(QV hk lw)=Qa hk lw hd rows/\(([]:List SV)=[]))/\(((Qf hk lw hd rows)=[]/\(Qf hk lw hd rows).isEmpty=true)/\True))) /\
 (((QV hk lw) != (0:Int))=false ->
  (rows.length<=1000000)/\(((QD hd rows) != (0:Int))=true ->
   ((True/\(QD hd rows)=Qa hk lw hd rows/\(([]:List SV)=[]))/\(((Qf hk lw hd rows)=[]/\(Qf hk lw hd rows).isEmpty=true)/\True))) /\
  (((QD hd rows) != (0:Int))=false ->
   ((hd != hk)=true ->
    ((True/\(4:Int)=Qa hk lw hd rows/\(([]:List SV)=[]))/\(((Qf hk lw hd rows)=[]/\(Qf hk lw hd rows).isEmpty=true)/\True))) /\
   ((hd != hk)=false ->
    ∃ (e4:Unit) (d40:(List (List UInt8))×Int),((True/\True/\rows=rows/\(lI rows)=(lI rows)/\(0:Int)=d40.2/\True)/\((hk=hk/\lw=lw/\(([]:List SV)=[]))/\(d40.1=[]/\(List.isEmpty d40.1)=true)/\True)) /\
    LoopP (λ(d4:(List (List UInt8))×Int) (q4:((List (List UInt8))×Int)->Prop) =>
     ((decide (d4.2<(lI rows)))=true ->
      (0<=d4.2)/\(d4.2<(List.length rows))/\(lw.length<=110/\0<=(gD rows d4.2 0)/\(gD rows d4.2 0)<9223372036854775808/\∀ x∈lw,0<=x/\x<=60)/\(((List.length d4.1)+(List.length [(QP lw (gD rows d4.2 0))]))*16<=70368744177664)/\(I64 (d4.2+(1:Int)))/\(∃ d5:(List (List UInt8))×Int,((True/\True/\rows=rows/\(lI rows)=(lI rows)/\(d4.2+(1:Int))=d5.2/\True)/\((hk=hk/\lw=lw/\(([]:List SV)=[]))/\((d4.1++[(QP lw (gD rows d4.2 0))])=d5.1/\false=(List.isEmpty d5.1))/\True))/\q4 d5)) /\
     ((decide (d4.2<(lI rows)))=false ->
      ((True/\(0:Int)=Qa hk lw hd rows/\(([]:List SV)=[]))/\((d4.1=(Qf hk lw hd rows)/\(List.isEmpty d4.1)=(Qf hk lw hd rows).isEmpty)/\True)))) d40)))
def Dv:Cx:=⟨[(9,.st)],[(39,YK),(40,Y7),(41,XS)],43,[],0,[],[],[],[],false,[],[],[],[]⟩
def Lo (hk:Int) (lw:List Int) (hd:Int) (rows:List Int):List (Nat×LoopAnn):=[(1,⟨Unit,(List (List UInt8))×Int,[2,4,28,29,30],λe x=>[.box 2 0,.lst 40,.val (.list (.i .i64)) rows,.val (.i .i64) (((List.length rows):Nat):Int),.val (.i .i64) x.2],λe x=>[(2,.slot 2,.cells [.val (.i .i64) hk,.val (.list (.i .i64)) lw] (some 29)),(40,.slot 4,.lst 9 .st x.1 (List.isEmpty x.1))]⟩)]
theorem Se (d:(Int×List Int)×Int×List Int):gwp (Dv) (Lo d.1.1 d.1.2 d.2.1 d.2.2) c20 0 (WY [.tmp 4,.tmp 5] (Gt d) (Mk d)) (Qk 43 (AL.can DG d))=K3 d.1.1 d.1.2 d.2.1 d.2.2:=by kernel_rfl
abbrev LO:Prop:=OkC Tryd.prog 20 Vj
theorem Sf (h:∀ (hk:Int) (lw:List Int) (hd:Int) (rows:List Int),(lw.length<=110/\rows.length<=110)->K3 hk lw hd rows):OkC Tryd.prog 20 Vj :=
 QF Q3o mixed (C:=Dv) (V:=λ(d:(Int×List Int)×Int×List Int)=>K3 d.1.1 d.1.2 d.2.1 d.2.2) ⟨(.cons Ua (.cons Nq (.cons M6 .nil))),XsOk.nil,ItsOk.nil,YlOk.nil,IysOk.nil,XfOk.nil⟩ (Se) λd hp=>h d.1.1 d.1.2 d.2.1 d.2.2 hp
theorem Gw {hd:Int}{rows:List Int}(h:QD hd rows=0):1<=hd/\hd<=24/\rows.length<=60/\rows.length≠0/\∀ x∈rows,0<=x/\x<2 ^ hd.toNat:=by
 unfold QD at h;split at h
 .cases h
 .rename_i h1;split at h
  .cases h
  .rename_i h2;split at h
   .cases h
   .rename_i h3;split at h
    .cases h
    .rename_i h4;have h1:1<=hd/\hd<=24:=by simpa [inI] using h1
     refine⟨h1.1,h1.2,by omega,h3,λx hx=>?_⟩;have h5:∀ x∈rows,inI x 0 (2 ^ hd.toNat-1)=true:=by simpa using h4
     have:=h5 x hx;simp only[inI,z1,zg] at this;omega
theorem DU:LO:=Sf λhk lw hd rows h=>by
 obtain⟨h1,h2⟩:=h;unfold K3;(try delta lI gD sT I64 Q4 pj8 pj4);simp only[true_and,and_true,exists_const,zg,zk,bne_iff_ne,ne_eq,bne_eq_false_iff_eq,Zs];refine⟨by omega,λhe=>?_,λhe=>⟨by omega,λhp=>?_,λhp=>⟨λhh=>?_,λhh=>?_⟩⟩⟩
 .have e:Qa hk lw hd rows=QV hk lw:=by simp[Qa,he]
  have e2:Qf hk lw hd rows=[]:=by simp[Qf,e,he]
  rw[e,e2];exact⟨rfl,rfl,rfl⟩
 .have e:Qa hk lw hd rows=QD hd rows:=by simp[Qa,he,hp]
  have e2:Qf hk lw hd rows=[]:=by simp[Qf,e,hp]
  rw[e,e2];exact⟨rfl,rfl,rfl⟩
 .have e:Qa hk lw hd rows=4:=by simp[Qa,he,hp,hh]
  have e2:Qf hk lw hd rows=[]:=by simp[Qf,e]
  rw[e,e2];exact⟨rfl,rfl,rfl⟩
 have e:Qa hk lw hd rows=0:=by unfold Qa;rw[z6 (by omega),z6 (by omega),z6 (by omega)]
 have e2:Qf hk lw hd rows=rows.map (QP lw):=by simp[Qf,e]
 obtain⟨t1,t2,t3,t4,t5⟩:=Po he;obtain⟨p1,p2,p3,p4,p5⟩:=Gw hp;have jm:=KJ p1 p2;rw[e,e2];refine⟨([],0),⟨rfl,rfl,rfl⟩,?_⟩;refine LoopP.count2 rows.length (λk xs=>xs=(rows.take k).map (QP lw)) (by simp) λk xs hk hJ q hq=>?_;have du:xs.length=k:=by rw[hJ];simp;omega
 dsimp only;refine⟨λaf=>?_,λaZ=>?_⟩
 .have af:k<rows.length:=by omega
  have hr:=p5 _ (zi af);simp only[zh,Q7 af,zl];refine⟨by omega,by omega,⟨h1,hr.1,by omega,λx hx=>by have:=t5 x hx;omega⟩,by omega,by omega,(xs++[QP lw rows[k]],(k:Int)+1),⟨rfl,rfl,by simp⟩,hq _ af ?_⟩;rw[Qc af,xr,<-hJ];rfl
 .have:k=rows.length:=by omega
  subst this;rw[List.take_length] at hJ;rw[hJ];exact⟨rfl,rfl,rfl⟩
def DA:AL ((Int×List Int)×List Int):=(.cons (.agg (.cons (.k (.i .i64)) (.one (.k (.list (.i .i64)))))) (.one (.k (.list (.i .i64)))))
def RE (d:(Int×List Int)×List Int):Prop:=d.1.2.length<=110/\d.2.length<=110
def Mn (d:(Int×List Int)×List Int):SV:=.tup [.lst 0,.val (.i .i64) (ZD d.1.1 d.1.2 d.2)]
def MU (d:(Int×List Int)×List Int):List OB:=[.lst 3 (.i .i64) (WU d.1.1 d.1.2 d.2) ((WU d.1.1 d.1.2 d.2).isEmpty)]
def Mh:CSp:=W0 DA RE Mn MU
def K1 (hk:Int) (lw:List Int) (l:List Int):Prop :=
 (lw.length<=110/\l.length<=110)/\(((ZD hk lw l) != (0:Int))=true ->
  ((True/\(ZD hk lw l)=ZD hk lw l/\(([]:List SV)=[]))/\(((WU hk lw l)=[]/\(WU hk lw l).isEmpty=true)/\True))) /\
 (((ZD hk lw l) != (0:Int))=false ->
  ∃ (e4:Unit) (d40:(List Int)×Int),((l=l/\True/\True/\(lI l)=(lI l)/\(0:Int)=d40.2/\True)/\((hk=hk/\lw=lw/\(([]:List SV)=[]))/\(d40.1=[]/\(List.isEmpty d40.1)=true)/\True)) /\
  LoopP (λ(d4:(List Int)×Int) (q4:((List Int)×Int)->Prop) =>
   ((decide (d4.2<(lI l)))=true ->
    (0<=d4.2/\d4.2<l.length/\l.length<=lw.length/\∀ x∈l,-1<=x/\x<lw.length)/\((!(isRight lw l d4.2))=true ->
     (((List.length d4.1)+(List.length [d4.2]))*8<=70368744177664)/\(I64 (d4.2+(1:Int)))/\(∃ d5:(List Int)×Int,((l=l/\True/\True/\(lI l)=(lI l)/\(d4.2+(1:Int))=d5.2/\True)/\((hk=hk/\lw=lw/\(([]:List SV)=[]))/\((d4.1++[d4.2])=d5.1/\false=(List.isEmpty d5.1))/\True))/\q4 d5)) /\
    ((!(isRight lw l d4.2))=false ->
     (I64 (d4.2+(1:Int)))/\(∃ d6:(List Int)×Int,((l=l/\True/\True/\(lI l)=(lI l)/\(d4.2+(1:Int))=d6.2/\True)/\((hk=hk/\lw=lw/\(([]:List SV)=[]))/\(d4.1=d6.1/\(List.isEmpty d4.1)=(List.isEmpty d6.1))/\True))/\q4 d6))) /\
   ((decide (d4.2<(lI l)))=false ->
    ((True/\(0:Int)=ZD hk lw l/\(([]:List SV)=[]))/\((d4.1=(WU hk lw l)/\(List.isEmpty d4.1)=(WU hk lw l).isEmpty)/\True)))) d40)
def Dq:Cx:=⟨[(3,(.i .i64))],[(19,Vg),(31,Xh)],31,[],0,[],[],[],[],false,[],[],[],[]⟩
def Lx (hk:Int) (lw:List Int) (l:List Int):List (Nat×LoopAnn):=[(0,⟨Unit,(List Int)×Int,[1,2,4,15,16],λe x=>[.val (.list (.i .i64)) l,.box 2 0,.lst 28,.val (.i .i64) (((List.length l):Nat):Int),.val (.i .i64) x.2],λe x=>[(2,.slot 2,.cells [.val (.i .i64) hk,.val (.list (.i .i64)) lw] (some 29)),(28,.slot 4,.lst 3 (.i .i64) x.1 (List.isEmpty x.1))]⟩)]
theorem Ly (d:(Int×List Int)×List Int):gwp (Dq) (Lx d.1.1 d.1.2 d.2) c16 0 (WY [.tmp 4,.tmp 5] (Mn d) (MU d)) (Qk 31 (AL.can DA d))=K1 d.1.1 d.1.2 d.2:=by kernel_rfl
abbrev L0:Prop:=OkC Tryd.prog 16 Mh
theorem LG (h:∀ (hk:Int) (lw:List Int) (l:List Int),(lw.length<=110/\l.length<=110)->K1 hk lw l):OkC Tryd.prog 16 Mh :=
 QF Q40 mixed (C:=Dq) (V:=λ(d:(Int×List Int)×List Int)=>K1 d.1.1 d.1.2 d.2) ⟨(.cons DE (.cons Nh .nil)),XsOk.nil,ItsOk.nil,YlOk.nil,IysOk.nil,XfOk.nil⟩ (Ly) λd hp=>h d.1.1 d.1.2 d.2 hp
theorem Hu (lw l:List Int) (n:Nat):Nx lw l (n+1)=Nx lw l n++if isRight lw l n then [] else [(n:Int)]:=by simp only[Nx,List.range_succ,List.filter_append,xr];congr 1;cases h:isRight lw l n<;>simp[h]
theorem EE (lw l:List Int) (n:Nat):(Nx lw l n).length<=n:=by simp only[Nx,xP];exact zJ (List.length_filter_le _ _) (by simp)
theorem C3:L0:=LG λhk lw l h=>by
 unfold K1;(try delta lI gD sT I64 Q4 pj8 pj4);simp only[true_and,and_true,exists_const,zg,zk,bne_iff_ne,ne_eq,bne_eq_false_iff_eq,Bool.not_eq_true',x9,Zs];refine⟨h,λhe=>?_,λhe=>?_⟩
 .simp[WU,he]
 obtain⟨h2,h0,h3⟩:=H6 he;refine⟨([],0),⟨rfl,rfl,rfl⟩,?_⟩;refine LoopP.count2 l.length (λk xs=>xs=Nx lw l k) rfl λk xs fM hJ q hq=>?_;have du:xs.length<=k:=by rw[hJ];exact EE lw l k
 dsimp only;refine⟨λaf=>?_,λaZ=>?_⟩
 .have af:k<l.length:=by omega
  refine⟨⟨by omega,by omega,by omega,h3⟩,λhr=>?_,λhr=>?_⟩
  .simp only[zl];refine⟨by omega,by omega,(xs++[(k:Int)],(k:Int)+1),⟨rfl,rfl,by simp⟩,hq _ af ?_⟩;rw[Hu,hr,hJ];rfl
  .refine⟨by omega,(xs,(k:Int)+1),⟨rfl,rfl,rfl⟩,hq _ af ?_⟩;rw[Hu,hr,hJ];simp
 .have:k=l.length:=by omega
  subst this;have e:WU hk lw l=Nx lw l l.length:=by simp[WU,he,TC]
  rw[e,hJ];exact⟨he.symm,rfl,rfl⟩
def Dr:AL ((Int×List Int)×List Int×Int×List Int):=(.cons (.agg (.cons (.k (.i .i64)) (.one (.k (.list (.i .i64)))))) (.cons (.k (.list (.i .i64))) (.one (.agg (.cons (.k (.i .i64)) (.one (.k (.list (.i .i64)))))))))
def RU (d:(Int×List Int)×List Int×Int×List Int):Prop:=d.1.2.length<=110/\d.2.1.length<=110/\d.2.2.2.length<=110
def GF (d:(Int×List Int)×List Int×Int×List Int):SV:=.tup [.lst 0,.val (.i .i64) (Zp d.1.1 d.1.2 d.2.1 d.2.2.1 d.2.2.2)]
def Gv (d:(Int×List Int)×List Int×Int×List Int):List OB:=[.lst 9 .st (Q9 d.1.1 d.1.2 d.2.1 d.2.2.1 d.2.2.2) ((Q9 d.1.1 d.1.2 d.2.1 d.2.2.1 d.2.2.2).isEmpty)]
def Me:CSp:=W0 Dr RU GF Gv
def Kf (hk:Int) (lw:List Int) (l:List Int) (hd:Int) (rows:List Int):Prop :=
 (lw.length<=110/\l.length<=110)/\(((ZD hk lw l) != (0:Int))=true ->
  ((True/\(ZD hk lw l)=Zp hk lw l hd rows/\(([]:List SV)=[]))/\(((Q9 hk lw l hd rows)=[]/\(Q9 hk lw l hd rows).isEmpty=true)/\True))) /\
 (((ZD hk lw l) != (0:Int))=false ->
  (lw.length<=110/\rows.length<=110)/\((Qa hk lw hd rows != (0:Int))=true ->
   ((True/\Qa hk lw hd rows=Zp hk lw l hd rows/\(([]:List SV)=[]))/\(((Q9 hk lw l hd rows)=[]/\(Q9 hk lw l hd rows).isEmpty=true)/\True))) /\
  ((Qa hk lw hd rows != (0:Int))=false ->
   ∃ (e4:Unit) (d40:(List (List UInt8))×Int),((l=l/\True/\True/\(lI (Qf hk lw hd rows))=(lI (Qf hk lw hd rows))/\(0:Int)=d40.2/\True)/\((d40.1=[]/\(List.isEmpty d40.1)=true)/\((Qf hk lw hd rows)=(Qf hk lw hd rows)/\(Qf hk lw hd rows).isEmpty=(List.isEmpty (Qf hk lw hd rows)))/\True)) /\
   LoopP (λ(d4:(List (List UInt8))×Int) (q4:((List (List UInt8))×Int)->Prop) =>
    ((decide (d4.2<(lI (Qf hk lw hd rows))))=true ->
     (0<=d4.2)/\(d4.2<(List.length (Qf hk lw hd rows)))/\∃ (e8:(List (List UInt8))×(List UInt8)×Int) (d80:(List Int)×Int),((l=l/\True/\(gD (Qf hk lw hd rows) d4.2 [])=e8.2.1/\True/\True/\(lI (Qf hk lw hd rows))=(lI (Qf hk lw hd rows))/\d4.2=e8.2.2/\l=l/\(lI l)=(lI l)/\(0:Int)=d80.2/\True)/\((d4.1=e8.1/\(List.isEmpty d4.1)=(List.isEmpty e8.1))/\(d80.1=[]/\(List.isEmpty d80.1)=true)/\((Qf hk lw hd rows)=(Qf hk lw hd rows)/\(List.isEmpty (Qf hk lw hd rows))=(List.isEmpty (Qf hk lw hd rows)))/\True)) /\
     LoopP (λ(d8:(List Int)×Int) (q8:((List Int)×Int)->Prop) =>
      ((decide (d8.2<(lI l)))=true ->
       (0<=d8.2)/\(d8.2<(List.length l))/\(((gD l d8.2 0)==(-1:Int))=true ->
        (((List.length d8.1)+(List.length [(46:Int)]))*1<=70368744177664)/\(I64 (d8.2+(1:Int)))/\(∃ d9:(List Int)×Int,((l=l/\True/\e8.2.1=e8.2.1/\True/\True/\(lI (Qf hk lw hd rows))=(lI (Qf hk lw hd rows))/\e8.2.2=e8.2.2/\l=l/\(lI l)=(lI l)/\(d8.2+(1:Int))=d9.2/\True)/\((e8.1=e8.1/\(List.isEmpty e8.1)=(List.isEmpty e8.1))/\((d8.1++[(46:Int)])=d9.1/\false=(List.isEmpty d9.1))/\((Qf hk lw hd rows)=(Qf hk lw hd rows)/\(List.isEmpty (Qf hk lw hd rows))=(List.isEmpty (Qf hk lw hd rows)))/\True))/\q8 d9)) /\
       (((gD l d8.2 0)==(-1:Int))=false ->
        (0<=(gD l d8.2 0))/\((gD l d8.2 0)<(List.length e8.2.1))/\(((List.length d8.1)+(List.length [((UInt8.toNat (gD e8.2.1 (gD l d8.2 0) 0):Nat):Int)]))*1<=70368744177664)/\(I64 (d8.2+(1:Int)))/\(∃ d10:(List Int)×Int,((l=l/\True/\e8.2.1=e8.2.1/\True/\True/\(lI (Qf hk lw hd rows))=(lI (Qf hk lw hd rows))/\e8.2.2=e8.2.2/\l=l/\(lI l)=(lI l)/\(d8.2+(1:Int))=d10.2/\True)/\((e8.1=e8.1/\(List.isEmpty e8.1)=(List.isEmpty e8.1))/\((d8.1++[((UInt8.toNat (gD e8.2.1 (gD l d8.2 0) 0):Nat):Int)])=d10.1/\false=(List.isEmpty d10.1))/\((Qf hk lw hd rows)=(Qf hk lw hd rows)/\(List.isEmpty (Qf hk lw hd rows))=(List.isEmpty (Qf hk lw hd rows)))/\True))/\q8 d10))) /\
      ((decide (d8.2<(lI l)))=false ->
       (((List.length e8.1)+(List.length [(XM d8.1)]))*16<=70368744177664)/\(I64 (e8.2.2+(1:Int)))/\(∃ d11:(List (List UInt8))×Int,((l=l/\True/\True/\(lI (Qf hk lw hd rows))=(lI (Qf hk lw hd rows))/\(e8.2.2+(1:Int))=d11.2/\True)/\(((e8.1++[(XM d8.1)])=d11.1/\false=(List.isEmpty d11.1))/\((Qf hk lw hd rows)=(Qf hk lw hd rows)/\(List.isEmpty (Qf hk lw hd rows))=(List.isEmpty (Qf hk lw hd rows)))/\True))/\q4 d11))) d80) /\
    ((decide (d4.2<(lI (Qf hk lw hd rows))))=false ->
     ((True/\(0:Int)=Zp hk lw l hd rows/\(([]:List SV)=[]))/\((d4.1=(Q9 hk lw l hd rows)/\(List.isEmpty d4.1)=(Q9 hk lw l hd rows).isEmpty)/\True)))) d40))
def Df:Cx:=⟨[(5,(.i .u8)),(9,.st)],[(19,Vg),(20,Vj)],61,[],0,[],[],[],[],false,[],[],[],[]⟩
def Lh (hk:Int) (lw:List Int) (l:List Int) (hd:Int) (rows:List Int):List (Nat×LoopAnn):=[(0,⟨Unit,(List (List UInt8))×Int,[1,6,30,31,32],λe x=>[.val (.list (.i .i64)) l,.lst 58,.lst 24,.val (.i .i64) (((List.length (Qf hk lw hd rows)):Nat):Int),.val (.i .i64) x.2],λe x=>[(58,.slot 6,.lst 9 .st x.1 (List.isEmpty x.1)),(24,.slot 30,.lst 9 .st (Qf hk lw hd rows) (List.isEmpty (Qf hk lw hd rows)))]⟩),
 (2,⟨(List (List UInt8))×(List UInt8)×Int,(List Int)×Int,[1,6,11,12,30,31,32,36,37,38],λe x=>[.val (.list (.i .i64)) l,.lst 58,.val .st e.2.1,.lst 46,.lst 24,.val (.i .i64) (((List.length (Qf hk lw hd rows)):Nat):Int),.val (.i .i64) e.2.2,.val (.list (.i .i64)) l,.val (.i .i64) (((List.length l):Nat):Int),.val (.i .i64) x.2],λe x=>[(58,.slot 6,.lst 9 .st e.1 (List.isEmpty e.1)),(46,.slot 12,.lst 5 (.i .u8) x.1 (List.isEmpty x.1)),(24,.slot 30,.lst 9 .st (Qf hk lw hd rows) (List.isEmpty (Qf hk lw hd rows)))]⟩)]
theorem L6 (d:(Int×List Int)×List Int×Int×List Int):gwp (Df) (Lh d.1.1 d.1.2 d.2.1 d.2.2.1 d.2.2.2) c7 0 (WY [.tmp 6,.tmp 7] (GF d) (Gv d)) (Qk 61 (AL.can Dr d))=Kf d.1.1 d.1.2 d.2.1 d.2.2.1 d.2.2.2:=by kernel_rfl
abbrev LS:Prop:=OkC Tryd.prog 7 Me
theorem Sw (h:∀ (hk:Int) (lw:List Int) (l:List Int) (hd:Int) (rows:List Int),(lw.length<=110/\l.length<=110/\rows.length<=110)->Kf hk lw l hd rows):OkC Tryd.prog 7 Me :=
 QF Q8h mixed (C:=Df) (V:=λ(d:(Int×List Int)×List Int×Int×List Int)=>Kf d.1.1 d.1.2 d.2.1 d.2.2.1 d.2.2.2) ⟨(.cons DE (.cons DU .nil)),XsOk.nil,ItsOk.nil,YlOk.nil,IysOk.nil,XfOk.nil⟩ (L6) λd hp=>h d.1.1 d.1.2 d.2.1 d.2.2.1 d.2.2.2 hp
theorem Pm (l:List Int) (x:Int):XM (l++[x])=XM l++XM [x]:=by simp[XM]
theorem Ty (l:List Int) (x:Int) (p:List UInt8):Z7 (l++[x]) p=Z7 l p++[if x=-1 then 46 else p.getD x.toNat 0]:=by simp only[Z7,xr,zW,List.map_nil]
theorem S_:LS:=Sw λhk lw l hd rows h=>by
 obtain⟨h1,h2,h3⟩:=h;unfold Kf;(try delta lI gD sT I64 Q4 pj8 pj4);simp only[true_and,and_true,exists_const,zg,zk,zr,bne_iff_ne,ne_eq,xm,bne_eq_false_iff_eq,Zs];refine⟨⟨h1,h2⟩,λhe=>?_,λhe=>⟨⟨h1,h3⟩,λhw=>?_,λhw=>?_⟩⟩
 .simp[Zp,Q9,he]
 .simp[Zp,Q9,he,hw]
 obtain⟨k2,k0,k3⟩:=H6 he;have e1:Zp hk lw l hd rows=0:=by simp[Zp,he,hw]
 have e2:Q9 hk lw l hd rows=rows.map λr=>Z7 l (QP lw r):=by simp[Q9,e1]
 have e3:Qf hk lw hd rows=rows.map (QP lw):=by simp[Qf,hw]
 rw[e1,e2];generalize hc:Qf hk lw hd rows=cl;rw[e3] at hc;have cf:cl.length=rows.length:=by rw[<-hc];simp
 refine⟨([],0),⟨rfl,rfl,rfl⟩,?_⟩;refine LoopP.count2 cl.length (λk xs=>xs=(cl.take k).map (Z7 l)) (by simp) λk xs fM hJ q hq=>?_;have du:xs.length=k:=by rw[hJ];simp;omega
 dsimp only;refine⟨λaf=>?_,λaZ=>?_⟩
 .have af:k<cl.length:=by omega
  have aN:cl[k].length=lw.length:=by simp[<-hc,QP]
  simp only[zh,Q7 af];refine⟨by omega,by omega,(xs,cl[k],(k:Int)),([],0),(by and_intros<;>first|rfl|trivial),?_⟩;refine LoopP.count2 l.length (λj b=>b.length=j/\XM b=Z7 (l.take j) cl[k]) ⟨rfl,rfl⟩ λj b hj mH q2 ql=>?_;obtain⟨gd,mH⟩:=mH;dsimp only;refine⟨λbR=>?_,λvL=>?_⟩
  .have bR:j<l.length:=by omega
   have hx:=k3 _ (zi bR);simp only[zh,Q7 bR,zl];refine⟨by omega,by omega,λhm=>?_,λhm=>?_⟩
   .refine⟨by omega,by omega,(b++[46],(j:Int)+1),(by and_intros<;>first|rfl|trivial|simp),ql _ bR ⟨by simp[gd],?_⟩⟩;rw[Pm,mH,Qc bR,Ty,z7 hm];rfl
   .have hr:(l[j]).toNat<cl[k].length:=by omega
    simp only[Q7 hr];refine⟨by omega,by omega,by omega,by omega,(b++[((cl[k][(l[j]).toNat].toNat:Nat):Int)],(j:Int)+1),(by and_intros<;>first|rfl|trivial|simp),ql _ bR ⟨by simp[gd],?_⟩⟩;rw[Pm,mH,Qc bR,Ty,z6 hm,Q7 hr];simp[XM]
  .have:j=l.length:=by omega
   subst this;rw[List.take_length] at mH;refine⟨by simp only[zl];omega,by omega,(xs++[XM b],(k:Int)+1),⟨rfl,rfl,by simp⟩,hq _ af ?_⟩;rw[Qc af,xr,<-hJ,mH];rfl
 .have:k=cl.length:=by omega
  subst this;rw[List.take_length] at hJ;rw[hJ,<-hc];simp
def Mp:AL (Int×List Int):=(.one (.agg (.cons (.k (.i .i64)) (.one (.k (.list (.i .i64)))))))
def Tb (d:Int×List Int):Prop:=d.2.length<=110
def Ns (d:Int×List Int):SV:=.agg [.val (.i .i64) d.1,.lst 0]
def Nv (d:Int×List Int):List OB:=[.lst 3 (.i .i64) d.2 false]
def UD:CSp:=W0 Mp Tb Ns Nv
def Y9 (hd:Int) (rows:List Int):Prop :=
 (rows.length<=110)/\(false=true->rows=[])/\((hd=hd/\True/\(([]:List SV)=[]))/\((rows=rows/\false=false)/\True))
def MJ:Cx:=⟨[],[(9,WS)],9,[],0,[],[],[],[],false,[],[],[],[]⟩
def TV (hd:Int) (rows:List Int):List (Nat×LoopAnn):=[]
theorem RJ (d:Int×List Int):gwp (MJ) (TV d.1 d.2) c10 0 (WY [.cell 2 true 2] (Ns d) (Nv d)) (Qk 9 (AL.can Mp d))=Y9 d.1 d.2:=by kernel_rfl
abbrev R5:Prop:=OkC Tryd.prog 10 UD
theorem R_ (h:∀ (hd:Int) (rows:List Int),(rows.length<=110)->Y9 hd rows):OkC Tryd.prog 10 UD :=
 QF Q4q mixed (C:=MJ) (V:=λ(d:Int×List Int)=>Y9 d.1 d.2) ⟨(.cons Vo .nil),XsOk.nil,ItsOk.nil,YlOk.nil,IysOk.nil,XfOk.nil⟩ (RJ) λd hp=>h d.1 d.2 hp
theorem Rc:R5:=R_ λhd rows h=>by simp[Y9,h]
def Ms:AL (List (List UInt8)×List (List UInt8)):=(.cons (.k (.list .st)) (.one (.k (.list .st))))
def PR (d:List (List UInt8)×List (List UInt8)):Prop:=d.1.length<=1000/\d.2.length<=1000
def ND (d:List (List UInt8)×List (List UInt8)):SV:=.val .bo (decide (d.1=d.2))
def Ny (d:List (List UInt8)×List (List UInt8)):List OB:=[]
def U3:CSp:=W0 Ms PR ND Ny
def Yd (a:List (List UInt8)) (b:List (List UInt8)):Prop :=
 (((lI a) != (lI b))=true ->
  (false=(decide (a=b))/\(True))) /\
 (((lI a) != (lI b))=false ->
  ∃ (e2:Unit) (d20:Int),((a=a/\b=b/\(0:Int)=d20/\True)/\(True)) /\
  LoopP (λ(d2:Int) (q2:(Int)->Prop) =>
   ((decide (d2<(lI a)))=true ->
    (0<=d2)/\(d2<(List.length a))/\(0<=d2)/\(d2<(List.length b))/\((!((gD a d2 [])==(gD b d2 [])))=true ->
     (false=(decide (a=b))/\(True))) /\
    ((!((gD a d2 [])==(gD b d2 [])))=false ->
     (I64 (d2+(1:Int)))/\(∃ d3:Int,((a=a/\b=b/\(d2+(1:Int))=d3/\True)/\(True))/\q2 d3))) /\
   ((decide (d2<(lI a)))=false ->
    (true=(decide (a=b))/\(True)))) d20)
def MP:Cx:=⟨[],[],26,[],0,[],[],[],[],false,[],[],[],[]⟩
def RQ (a:List (List UInt8)) (b:List (List UInt8)):List (Nat×LoopAnn):=[(0,⟨Unit,Int,[0,1,5],λe x=>[.val (.list .st) a,.val (.list .st) b,.val (.i .i64) x],λe x=>[]⟩)]
theorem Rb (d:List (List UInt8)×List (List UInt8)):gwp (MP) (RQ d.1 d.2) c17 0 (WY [.tmp 4] (ND d) (Ny d)) (Qk 26 (AL.can Ms d))=Yd d.1 d.2:=by kernel_rfl
abbrev RY:Prop:=OkC Tryd.prog 17 U3
theorem Rs (h:∀ (a:List (List UInt8)) (b:List (List UInt8)),(a.length<=1000/\b.length<=1000)->Yd a b):OkC Tryd.prog 17 U3 :=
 QF Q3q mixed (C:=MP) (V:=λ(d:List (List UInt8)×List (List UInt8))=>Yd d.1 d.2) ⟨.nil,XsOk.nil,ItsOk.nil,YlOk.nil,IysOk.nil,XfOk.nil⟩ (Rb) λd hp=>h d.1 d.2 hp
theorem R8:RY:=Rs λa b h=>by
 unfold Yd;(try delta lI gD sT I64 Q4 pj8 pj4);simp only[true_and,and_true,exists_eq_left',exists_const,zg,zk,zr,bne_iff_ne,ne_eq,xm,bne_eq_false_iff_eq,Bool.not_eq_true',x9,Zs];refine⟨λaJ=>?_,λhe=>?_⟩
 .symm;rw[zk];rintro rfl;exact aJ rfl
 .have he:a.length=b.length:=by omega
  refine LoopP.count a.length (λk=>a.take k=b.take k) rfl λk hk hJ q hq=>?_;refine⟨λaf=>?_,λaZ=>?_⟩
  .have af:k<a.length:=by omega
   have kF:k<b.length:=by omega
   simp only[zh,Q7 af,Q7 kF];refine⟨by omega,by omega,by omega,by omega,λaJ=>?_,λheq=>⟨by omega,hq af ?_⟩⟩
   .symm;rw[zk];rintro rfl;exact aJ rfl
   .rw[Qc af,Qc kF,hJ,heq]
  .have:k=a.length:=by omega
   subst this;rw[List.take_length,he,List.take_length] at hJ;simp[hJ]
def WX:AL (Int×List Int×List Int×List Int):=(.one (.agg (.cons (.k (.i .u8)) (.cons (.k (.list (.i .u8))) (.cons (.k (.list (.i .u16))) (.one (.k (.list (.i .u8)))))))))
def VR (d:Int×List Int×List Int×List Int):Prop:=bOk d.1 d.2.1 d.2.2.1 d.2.2.2
def We (d:Int×List Int×List Int×List Int):SV:=.agg [.val (.i .i64) (bHk d.1),.lst 0]
def W1 (d:Int×List Int×List Int×List Int):List OB:=[.lst 3 (.i .i64) (Q2 d.1 d.2.2.1) false]
def JT:CSp:=W0 WX VR We W1
def ZO (h8:Int) (ws:List Int) (rs:List Int) (ds:List Int):Prop :=
 (I64 h8)/\((10:Int)≠0)/\(I64 ((1:Int)+(Int.tmod h8 (10:Int))))/\∃ (e4:Unit) (d40:(List Int)×Int),((True/\True/\True/\(0:Int)=d40.2/\True)/\((h8=h8/\ws=ws/\rs=rs/\ds=ds/\(([]:List SV)=[]))/\((0:Int)=(0:Int)/\True/\(([]:List SV)=[]))/\(((1:Int)+(Int.tmod h8 (10:Int)))=((1:Int)+(Int.tmod h8 (10:Int)))/\True/\(([]:List SV)=[]))/\(d40.1=[]/\(List.isEmpty d40.1)=true)/\True)) /\
 LoopP (λ(d4:(List Int)×Int) (q4:((List Int)×Int)->Prop) =>
  (((d4.2==(0:Int))||((decide (d4.2<(lI rs)))&&(decide (d4.2<(8:Int)))))=true ->
   ((decide (d4.2<(lI rs)))=true ->
    (0<=d4.2)/\(d4.2<(List.length rs))/\(I64 (gD rs d4.2 0))/\(InK .u64 ((1:Int)+(Int.tmod h8 (10:Int))))/\(0<=((1:Int)+(Int.tmod h8 (10:Int))))/\(I64 (PC .i64 (1:Int) ((1:Int)+(Int.tmod h8 (10:Int)))))/\(I64 ((PC .i64 (1:Int) ((1:Int)+(Int.tmod h8 (10:Int))))-(1:Int)))/\(((List.length d4.1)+(List.length [(ZS .and .i64 (gD rs d4.2 0) ((PC .i64 (1:Int) ((1:Int)+(Int.tmod h8 (10:Int))))-(1:Int)))]))*8<=70368744177664)/\(I64 (d4.2+(1:Int)))/\(∃ d5:(List Int)×Int,((True/\True/\True/\(d4.2+(1:Int))=d5.2/\True)/\((h8=h8/\ws=ws/\rs=rs/\ds=ds/\(([]:List SV)=[]))/\((0:Int)=(0:Int)/\True/\(([]:List SV)=[]))/\(((1:Int)+(Int.tmod h8 (10:Int)))=((1:Int)+(Int.tmod h8 (10:Int)))/\True/\(([]:List SV)=[]))/\((d4.1++[(ZS .and .i64 (gD rs d4.2 0) ((PC .i64 (1:Int) ((1:Int)+(Int.tmod h8 (10:Int))))-(1:Int)))])=d5.1/\false=(List.isEmpty d5.1))/\True))/\q4 d5)) /\
   ((decide (d4.2<(lI rs)))=false ->
    (InK .u64 ((1:Int)+(Int.tmod h8 (10:Int))))/\(0<=((1:Int)+(Int.tmod h8 (10:Int))))/\(I64 (PC .i64 (1:Int) ((1:Int)+(Int.tmod h8 (10:Int)))))/\(I64 ((PC .i64 (1:Int) ((1:Int)+(Int.tmod h8 (10:Int))))-(1:Int)))/\(((List.length d4.1)+(List.length [(ZS .and .i64 (21:Int) ((PC .i64 (1:Int) ((1:Int)+(Int.tmod h8 (10:Int))))-(1:Int)))]))*8<=70368744177664)/\(I64 (d4.2+(1:Int)))/\(∃ d6:(List Int)×Int,((True/\True/\True/\(d4.2+(1:Int))=d6.2/\True)/\((h8=h8/\ws=ws/\rs=rs/\ds=ds/\(([]:List SV)=[]))/\((0:Int)=(0:Int)/\True/\(([]:List SV)=[]))/\(((1:Int)+(Int.tmod h8 (10:Int)))=((1:Int)+(Int.tmod h8 (10:Int)))/\True/\(([]:List SV)=[]))/\((d4.1++[(ZS .and .i64 (21:Int) ((PC .i64 (1:Int) ((1:Int)+(Int.tmod h8 (10:Int))))-(1:Int)))])=d6.1/\false=(List.isEmpty d6.1))/\True))/\q4 d6))) /\
  (((d4.2==(0:Int))||((decide (d4.2<(lI rs)))&&(decide (d4.2<(8:Int)))))=false ->
   ((((1:Int)+(Int.tmod h8 (10:Int)))=(bHk h8)/\True/\(([]:List SV)=[]))/\((d4.1=(Q2 h8 rs)/\(List.isEmpty d4.1)=false)/\True)))) d40
def WG:Cx:=⟨[(3,(.i .i64))],[],51,[],0,[],[],[],[],false,[],[],[],[]⟩
def UI (h8:Int) (ws:List Int) (rs:List Int) (ds:List Int):List (Nat×LoopAnn):=[(0,⟨Unit,(List Int)×Int,[1,2,3,4],λe x=>[.box 1 0,.box 2 0,.box 3 0,.val (.i .i64) x.2],λe x=>[(1,.slot 1,.cells [.val (.i .u8) h8,.val (.list (.i .u8)) ws,.val (.list (.i .u16)) rs,.val (.list (.i .u8)) ds] (some 25)),(2,.slot 2,.cells [.val (.i .i64) (0:Int),.nilS] (some 32)),(3,.slot 3,.cells [.val (.i .i64) ((1:Int)+(Int.tmod h8 (10:Int))),.lst 48] (some 32)),(48,.cell 3 1,.lst 3 (.i .i64) x.1 (List.isEmpty x.1))]⟩)]
theorem Uz (d:Int×List Int×List Int×List Int):gwp (WG) (UI d.1 d.2.1 d.2.2.1 d.2.2.2) c5 0 (WY [.cell 2 true 2] (We d) (W1 d)) (Qk 51 (AL.can WX d))=ZO d.1 d.2.1 d.2.2.1 d.2.2.2:=by kernel_rfl
abbrev Ud:Prop:=OkC Tryd.prog 5 JT
theorem UF (h:∀ (h8:Int) (ws:List Int) (rs:List Int) (ds:List Int),(bOk h8 ws rs ds)->ZO h8 ws rs ds):OkC Tryd.prog 5 JT :=
 QF Q85 mixed (C:=WG) (V:=λ(d:Int×List Int×List Int×List Int)=>ZO d.1 d.2.1 d.2.2.1 d.2.2.2) ⟨.nil,XsOk.nil,ItsOk.nil,YlOk.nil,IysOk.nil,XfOk.nil⟩ (Uz) λd hp=>h d.1 d.2.1 d.2.2.1 d.2.2.2 hp
theorem OU {x h:Int}(h0:0<=x) (h1:x<9223372036854775808) (a:1<=h) (b:h<=24):ZS .and .i64 x (PC .i64 1 h-1)=x % 2 ^ h.toNat:=by
 obtain⟨n,rfl⟩:=zo h0;obtain⟨m,rfl⟩:=zo (show 0<=h by omega);have hp:=KJ a b;rw[R2 (by omega) (by omega)];simp only[zh] at hp |-;have e2:((2:Int) ^ m)=((2 ^ m:Nat):Int):=by rw[Int.natCast_pow];rfl
 rw[e2] at hp |-;have e:(((2 ^ m:Nat):Int)-1)=((2 ^ m-1:Nat):Int):=by omega
 rw[e,R9 (by omega) (by omega),Nat.and_two_pow_sub_one_eq_mod];rfl
theorem SX {hk:Int}{cap:Nat}{rs:List Int}:(A7 hk cap rs).length=if rs=[] then 1 else min cap rs.length:=by unfold A7;split<;>simp
theorem IN {hk:Int}{cap:Nat}{rs:List Int}{i:Nat}(h:i<rs.length) (hc:i<cap):(A7 hk cap rs)[i]?=some (rs.getD i 0 % 2 ^ hk.toNat):=by
 have aJ:rs≠[]:=by rintro rfl;simp at h
 unfold A7;rw[z6 aJ];simp[hc,h]
theorem UH:Ud:=UF λh8 ws rs ds h=>by
 obtain⟨h1,h2,lJ,mG,hds⟩:=h;have hk:1<=bHk h8/\bHk h8<=10:=HH (m:=10) (by omega) h1;have e:(1+Int.tmod h8 10)=bHk h8:=rfl;have hp:=KJ hk.1 (show bHk h8<=24 by omega);have hs:=R2 (show 0<=bHk h8 by omega) (show bHk h8<=62 by omega);have hm:∀ x,0<=x->x<9223372036854775808->ZS .and .i64 x (2 ^ (bHk h8).toNat-1)=x % 2 ^ (bHk h8).toNat:=λx a b=>by
  have:=OU a b hk.1 (show bHk h8<=24 by omega)
  rwa [hs] at this
 have hu:InK .u64 (bHk h8):=⟨by show (0:Int)<=_;omega,by show _<=(18446744073709551615:Int);omega⟩;unfold ZO;(try delta lI gD sT I64 Q4 pj8 pj4);simp only[true_and,and_true,exists_const,zg,zk,ne_eq,Zs,e,hs,hu];refine⟨by omega,by omega,by omega,([],0),⟨rfl,rfl,rfl⟩,?_⟩;have hN:(Q2 h8 rs).length=if rs=[] then 1 else min 8 rs.length:=SX
 have ah:∀ k:Nat,(((k:Int)==0)||(decide ((k:Int)<rs.length)&&decide ((k:Int)<8)))=decide (k<(Q2 h8 rs).length):=λk=>by
  rw[hN];by_cases hz:rs=[]
  .subst hz;cases k<;>simp;omega
  .have:0<rs.length:=xl.2 hz;rw[z6 hz];cases k with
   |zero=>simp;omega
   |succ k =>rw[Bool.eq_iff_iff];simp;omega
 have sq:(Q2 h8 rs).length<=8:=by rw[hN];split<;>omega
 refine LoopP.count2 (Q2 h8 rs).length (λk xs=>xs=(Q2 h8 rs).take k) (by simp) λk xs fM hJ q hq=>?_;dsimp only;rw[ah];simp only[zg,zk,zh,Int.ofNat_lt];refine⟨λaf=>⟨λhw=>?_,λhw=>?_⟩,λaZ=>?_⟩
 .have hw:k<rs.length:=by omega
  have vM:=mG _ (zi hw);have vN:k<8:=by omega
  simp only[Q7 hw,zl];have hv:(Q2 h8 rs)[k]=rs[k] % 2 ^ (bHk h8).toNat:=by have:=IN (hk:=bHk h8) hw vN;rw[Q7 hw] at this;have h3:=z8 af;exact osj (h3.symm.trans this)
  rw[hm _ (by omega) (by omega)];refine⟨by omega,by omega,by omega,by omega,by omega,by omega,by rw[hJ,xi];omega,by omega,(xs++[rs[k] % 2 ^ (bHk h8).toNat],(k:Int)+1),⟨rfl,rfl,by simp⟩,hq _ af ?_⟩;rw[Qc af,<-hJ,hv]
 .have hz:rs=[]:=by
   cases mG:rs with
   |nil=>rfl
   |cons a l =>
    exfalso;rw[hN] at af;have:rs≠[]:=by rw[mG];simp
    rw[z6 this] at af;omega
  have gZ:k=0:=by rw[hN,z7 hz] at af;omega
  subst gZ;simp only[zl];rw[hm _ (by omega) (by omega)];refine⟨by omega,by omega,by omega,by rw[hJ,xi];omega,by omega,(xs++[21 % 2 ^ (bHk h8).toNat],1),⟨rfl,rfl,by simp⟩,hq _ af ?_⟩;rw[Qc af,<-hJ];simp[Q2,A7,hz]
 .have:k=(Q2 h8 rs).length:=by omega
  subst this;rw[List.take_length] at hJ;subst hJ;refine⟨rfl,?_⟩;rw[List.isEmpty_eq_false_iff];intro hz;rw[hz] at hN;split at hN
  .cases hN
  .rename_i aJ;have:=xl.2 aJ;simp only[List.length_nil] at hN;omega
def K6:AL (Int×Int):=(.cons (.k (.i .u32)) (.one (.k (.i .u32))))
def M1 (d:Int×Int):Prop:=False
def Yp (d:Int×Int):SV:=.tup [.val (.i .u32) (0:Int),.val (.i .u32) (0:Int)]
def YI (d:Int×Int):List OB:=[]
def Wt:CSp:=W0 K6 M1 Yp YI
def XO (a:Int) (b:Int):Prop :=
 (InK .u64 a)/\(InK .u64 b)/\(InK .u64 (a*b))/\(0<=(32:Int))/\(InK .u32 (Mj .u64 (a*b) (32:Int)))/\(InK .u32 (a*b))/\(((Mj .u64 (a*b) (32:Int))=(0:Int)/\(a*b)=(0:Int)/\(([]:List SV)=[]))/\(True))
def Kh:Cx:=⟨[],[],17,[],0,[],[],[],[],false,[],[],[],[]⟩
def ML (a:Int) (b:Int):List (Nat×LoopAnn):=[]
theorem Gr (d:Int×Int):gwp (Kh) (ML d.1 d.2) c68 0 (WY [.tmp 4,.tmp 5] (Yp d) (YI d)) (Qk 17 (AL.can K6 d))=XO d.1 d.2:=by kernel_rfl
abbrev G1:Prop:=OkC Tryd.prog 68 Wt
theorem G6 (h:∀ (a:Int) (b:Int),(False)->XO a b):OkC Tryd.prog 68 Wt :=
 QF Q4i mixed (C:=Kh) (V:=λ(d:Int×Int)=>XO d.1 d.2) ⟨.nil,XsOk.nil,ItsOk.nil,YlOk.nil,IysOk.nil,XfOk.nil⟩ (Gr) λd hp=>h d.1 d.2 hp
theorem Mv:G1:=G6 λa b h=>h.elim
def Kc:AL (Int×Int):=(.cons (.k (.i .u64)) (.one (.k (.i .u64))))
def Ma (d:Int×Int):Prop:=0<=d.1/\d.1<=65535/\0<=d.2/\d.2<=65535
def Yv (d:Int×Int):SV:=.tup [.val (.i .u64) (0:Int),.val (.i .u64) (d.1*d.2)]
def YP (d:Int×Int):List OB:=[]
def Ws:CSp:=W0 Kc Ma Yv YP
abbrev N5 (a:Int) (b:Int):=(((Mj .u64 a (32:Int))*(ZS .and .u64 b (4294967295:Int)))+(Mj .u64 ((ZS .and .u64 a (4294967295:Int))*(ZS .and .u64 b (4294967295:Int))) (32:Int)))
abbrev S7 (a:Int) (b:Int):=((((Mj .u64 a (32:Int))*(Mj .u64 b (32:Int)))+(Mj .u64 (N5 a b) (32:Int)))+(Mj .u64 ((ZS .and .u64 (N5 a b) (4294967295:Int))+((ZS .and .u64 a (4294967295:Int))*(Mj .u64 b (32:Int)))) (32:Int)))
def Ju (a:Int) (b:Int):Prop :=
 (0<=(32:Int))/\(0<=(32:Int))/\(InK .u64 ((ZS .and .u64 a (4294967295:Int))*(ZS .and .u64 b (4294967295:Int))))/\(InK .u64 ((Mj .u64 a (32:Int))*(ZS .and .u64 b (4294967295:Int))))/\(0<=(32:Int))/\(InK .u64 (N5 a b))/\(0<=(32:Int))/\(InK .u64 ((ZS .and .u64 a (4294967295:Int))*(Mj .u64 b (32:Int))))/\(InK .u64 ((ZS .and .u64 (N5 a b) (4294967295:Int))+((ZS .and .u64 a (4294967295:Int))*(Mj .u64 b (32:Int)))))/\(InK .u64 ((Mj .u64 a (32:Int))*(Mj .u64 b (32:Int))))/\(InK .u64 (((Mj .u64 a (32:Int))*(Mj .u64 b (32:Int)))+(Mj .u64 (N5 a b) (32:Int))))/\(0<=(32:Int))/\(InK .u64 (S7 a b))/\(InK .u64 (a*b))/\(((S7 a b)=(0:Int)/\(a*b)=(a*b)/\(([]:List SV)=[]))/\(True))
def YZ:Cx:=⟨[],[],51,[],0,[],[],[],[],false,[],[],[],[]⟩
def MM (a:Int) (b:Int):List (Nat×LoopAnn):=[]
theorem Gx (d:Int×Int):gwp (YZ) (MM d.1 d.2) c69 0 (WY [.tmp 4,.tmp 5] (Yv d) (YP d)) (Qk 51 (AL.can Kc d))=Ju d.1 d.2:=by kernel_rfl
abbrev GA:Prop:=OkC Tryd.prog 69 Ws
theorem Gy (h:∀ (a:Int) (b:Int),(0<=a/\a<=65535/\0<=b/\b<=65535)->Ju a b):OkC Tryd.prog 69 Ws :=
 QF Q58 mixed (C:=YZ) (V:=λ(d:Int×Int)=>Ju d.1 d.2) ⟨.nil,XsOk.nil,ItsOk.nil,YlOk.nil,IysOk.nil,XfOk.nil⟩ (Gx) λd hp=>h d.1 d.2 hp
theorem Q04 {x:Nat}(h:x<18446744073709551616):IntKind.wrap .u64 (x:Int)=x:=by
 have e:((x:Int) % (18446744073709551616:Int))=x:=by omega
 show (if (false&&decide ((x:Int) % (18446744073709551616:Int)>=9223372036854775808))=true then (x:Int) % (18446744073709551616:Int)-18446744073709551616 else (x:Int) % (18446744073709551616:Int))=x;simp only[e,Bool.false_and,zq,if_false]
theorem H8 {x:Nat}(h:x<=4294967295):ZS .and .u64 (x:Int) 4294967295=x:=by
 have e:(BitVec.ofInt 64 (x:Int) &&& BitVec.ofInt 64 (4294967295:Int)).toNat=x:=by rw[BitVec.toNat_and,Wh (by omega),show (4294967295:Int)=((4294967295:Nat):Int) from rfl,Wh (by omega)];have:=Nat.and_two_pow_sub_one_eq_mod x 32;simp only[Nat.reducePow,Nat.add_one_sub_one] at this;rw[this];omega
 show IntKind.wrap .u64 ((BitVec.ofInt 64 (x:Int) &&& BitVec.ofInt 64 (4294967295:Int)).toNat:Int)=_;rw[e,Q04 (by omega)]
theorem Mz {x:Nat}(h:x<=4294967295):Mj .u64 (x:Int) 32=0:=by have:Nat.min (Int.toNat 32) 64=32:=rfl;simp only[Mj,IntKind.bits,this];rw[Int.fdiv_eq_ediv_of_nonneg _ (Int.le_of_lt (Int.pow_pos (by omega)))];omega
theorem Mr:GA:=Gy λa b h=>by
 obtain⟨h1,h2,h3,h4⟩:=h;obtain⟨x,rfl⟩:=zo h1;obtain⟨y,rfl⟩:=zo h3;have wN:x*y<=65535*65535:=Nat.mul_le_mul (by omega) (by omega);have e0:((0:Nat):Int)=0:=rfl;have s0:=Mz (x:=0) (by omega);have m0:=H8 (x:=0) (by omega);rw[e0] at s0 m0;have s3:=Mz (x:=x*y) (by omega);have e1:(x:Int)*(y:Int)=((x*y:Nat):Int):=by norm_cast
 unfold Ju;(try delta N5 S7);(try delta lI gD sT I64 Q4 pj8 pj4);simp only[and_true,H8 (show x<=4294967295 by omega),H8 (show y<=4294967295 by omega),Mz (show x<=4294967295 by omega),Mz (show y<=4294967295 by omega),e1,s3,Int.zero_mul,Int.mul_zero,Int.add_zero,m0,s0,CO];and_intros<;>omega
def VF:AL (Int×Int):=(.cons (.k (.i .u64)) (.one (.k (.i .u64))))
def D5 (d:Int×Int):Prop:=0<=d.1/\d.1<=65535/\0<=d.2/\d.2<=65535
def KG (d:Int×Int):SV:=.tup [.val (.i .u64) (0:Int),.val (.i .u64) (d.1*d.2)]
def V6 (d:Int×Int):List OB:=[]
def XC:CSp:=W0 VF D5 KG V6
def Xc (a:Int) (b:Int):Prop :=
 (false=true ->
  (InK .u32 a)/\(InK .u32 b)/\(False)/\(InK .u64 (0:Int))/\(InK .u64 (0:Int))/\(((0:Int)=(0:Int)/\(0:Int)=(a*b)/\(([]:List SV)=[]))/\(True))) /\
 (false=false ->
  (0<=a/\a<=65535/\0<=b/\b<=65535)/\(((0:Int)=(0:Int)/\(a*b)=(a*b)/\(([]:List SV)=[]))/\(True)))
def VM:Cx:=⟨[],[(68,Wt),(69,Ws)],30,[],0,[],[],[],[],false,[],[],[],[]⟩
def Bn (a:Int) (b:Int):List (Nat×LoopAnn):=[]
theorem Bi (d:Int×Int):gwp (VM) (Bn d.1 d.2) c45 0 (WY [.tmp 4,.tmp 5] (KG d) (V6 d)) (Qk 30 (AL.can VF d))=Xc d.1 d.2:=by kernel_rfl
abbrev Bl:Prop:=OkC Tryd.prog 45 XC
theorem Bj (h:∀ (a:Int) (b:Int),(0<=a/\a<=65535/\0<=b/\b<=65535)->Xc a b):OkC Tryd.prog 45 XC :=
 QF Q3l mixed (C:=VM) (V:=λ(d:Int×Int)=>Xc d.1 d.2) ⟨(.cons Mv (.cons Mr .nil)),XsOk.nil,ItsOk.nil,YlOk.nil,IysOk.nil,XfOk.nil⟩ (Bi) λd hp=>h d.1 d.2 hp
theorem VH:Bl:=Bj λa b h=>by simp only[Xc];exact⟨λh=>by simp at h,λ_=>⟨h,(by and_intros<;>first|rfl|trivial|simp)⟩⟩
def Xp:AL (List Int×Int):=(.cons (.k (.list (.i .i64))) (.one (.k (.i .i64))))
def Kp (d:List Int×Int):Prop:=d.1.length<=1000/\0<=d.2/\d.2<=1000
def Xa (d:List Int×Int):SV:=.lst 0
def X7 (d:List Int×Int):List OB:=[.lst 3 (.i .i64) (NC d.1 d.2.toNat) false]
def Jh:CSp:=W0 Xp Kp Xa X7
def Z5 (l:List Int) (n:Int):Prop :=
 ((decide (n<(0:Int)))=true ->
  False) /\
 ((decide (n<(0:Int)))=false ->
  (InK .u64 (lI l))/\(InK .u64 n)/\(0<=(lI l)/\(lI l)<=65535/\0<=n/\n<=65535)/\(((decide ((0:Int) > (0:Int)))||(decide (((lI l)*n) > (9223372036854775807:Int))))=true ->
   False) /\
  (((decide ((0:Int) > (0:Int)))||(decide (((lI l)*n) > (9223372036854775807:Int))))=false ->
   (I64 ((lI l)*n))/\(0<=((lI l)*n))/\(((lI l)*n)<=((lI l)*n))/\(((lI l)*n)*8<=70368744177664)/\(((lI l)*n)<=70368744177664)/\∃ (e2:Unit) (d20:(List Int)×Int),((True/\((Nat.min (List.length l) (List.length (List.replicate (Int.toNat ((lI l)*n)) (0:Int))):Nat):Int)=d20.2/\True)/\((((List.take (List.length (List.replicate (Int.toNat ((lI l)*n)) (0:Int))) l)++(List.drop (List.length l) (List.replicate (Int.toNat ((lI l)*n)) (0:Int))))=d20.1/\false=false)/\True)) /\
   LoopP (λ(d2:(List Int)×Int) (q2:((List Int)×Int)->Prop) =>
    ((decide (d2.2<(lI d2.1)))=true ->
     (0<=d2.2)/\(d2.2<=(lI d2.1))/\((lI d2.1)<=(List.length d2.1))/\(0<=(0:Int))/\((0:Int)<=d2.2)/\(d2.2<=(List.length d2.1))/\(I64 (d2.2+((Nat.min (List.length (List.take (Int.toNat (d2.2-(0:Int))) (List.drop (Int.toNat (0:Int)) d2.1))) (Int.toNat ((lI d2.1)-d2.2)):Nat):Int)))/\(∃ d3:(List Int)×Int,((True/\(d2.2+((Nat.min (List.length (List.take (Int.toNat (d2.2-(0:Int))) (List.drop (Int.toNat (0:Int)) d2.1))) (Int.toNat ((lI d2.1)-d2.2)):Nat):Int))=d3.2/\True)/\((((List.take (Int.toNat d2.2) d2.1)++((List.take (Int.toNat ((lI d2.1)-d2.2)) (List.take (Int.toNat (d2.2-(0:Int))) (List.drop (Int.toNat (0:Int)) d2.1)))++(List.drop ((Int.toNat d2.2)+Nat.min (List.length (List.take (Int.toNat (d2.2-(0:Int))) (List.drop (Int.toNat (0:Int)) d2.1))) (Int.toNat ((lI d2.1)-d2.2))) d2.1)))=d3.1/\false=false)/\True))/\q2 d3)) /\
    ((decide (d2.2<(lI d2.1)))=false ->
     (True/\((d2.1=(NC l n.toNat)/\false=false)/\True)))) d20))
def Xo:Cx:=⟨[(3,(.i .i64))],[(45,XC)],48,[],0,[],[],[],[],false,[],[],[],[]⟩
def KW (l:List Int) (n:Int):List (Nat×LoopAnn):=[(0,⟨Unit,(List Int)×Int,[7,8],λe x=>[.lst 30,.val (.i .i64) x.2],λe x=>[(30,.slot 7,.lst 3 (.i .i64) x.1 false)]⟩)]
theorem K_ (d:List Int×Int):gwp (Xo) (KW d.1 d.2) c25 0 (WY [.tmp 4] (Xa d) (X7 d)) (Qk 48 (AL.can Xp d))=Z5 d.1 d.2:=by kernel_rfl
abbrev KB:Prop:=OkC Tryd.prog 25 Jh
theorem KA (h:∀ (l:List Int) (n:Int),(l.length<=1000/\0<=n/\n<=1000)->Z5 l n):OkC Tryd.prog 25 Jh :=
 QF Q53 mixed (C:=Xo) (V:=λ(d:List Int×Int)=>Z5 d.1 d.2) ⟨(.cons VH .nil),XsOk.nil,ItsOk.nil,YlOk.nil,IysOk.nil,XfOk.nil⟩ (K_) λd hp=>h d.1 d.2 hp
theorem KU:KB:=KA λl n h=>by
 obtain⟨h1,h2,h3⟩:=h;obtain⟨m,rfl⟩:=zo h2;have vO:l.length*m<=1000*1000:=Nat.mul_le_mul h1 (by omega);have e1:(l.length:Int)*(m:Int)=((l.length*m:Nat):Int):=by norm_cast
 unfold Z5;(try delta lI gD sT I64 Q4 pj8 pj4);simp only[true_and,and_true,exists_const,zg,zk,zh,gt_iff_lt,e1,Zs,CO,Int.sub_zero,xH,Int.toNat_zero,xk];refine⟨by omega,λ_=>⟨by omega,by omega,by omega,λh=>?_,λh=>⟨by omega,by omega,by omega,by omega,by omega,?_⟩⟩⟩
 .simp at h;omega
 refine⟨(_,_),(by and_intros<;>first|rfl|trivial|simp),?_⟩;refine⟨λd=>∃ k:Nat,d.2=k/\Q3d l m d.1 k,λd=>d.1.length-d.2.toNat,⟨_,rfl,Ls l m _⟩,?_⟩;rintro⟨xs,_⟩ ⟨k,rfl,hI⟩;dsimp only at hI |-;have du:=hI.1;have hk:=hI.2.1;refine⟨λaf=>?_,λaZ=>?_⟩
 .have af:k<xs.length:=by omega
  obtain⟨g1,g2⟩:=Sp hI af;have e2:((xs.length:Int)-(k:Int)).toNat=xs.length-k:=by omega
  have g3:=g1.2.1;have g4:=g1.1;have hc:Nat.min (List.take k xs).length (xs.length-k)<=1000000:=by have:Nat.min (List.take k xs).length (xs.length-k)<=_:=Nat.min_le_left _ _;simp only[xi] at this |-;omega
  simp only[zh,e2];generalize Nat.min (List.take k xs).length (xs.length-k)=c at g1 g2 g3 g4 hc |-;refine⟨by omega,by omega,by omega,by omega,by omega,by omega,⟨by omega,by omega⟩,(_,((k+c:Nat):Int)),(by and_intros<;>first|rfl|trivial|omega),⟨_,rfl,g1⟩,?_⟩;dsimp only;rw[g4];omega
 .have:=E1 hI (by omega);rw[this]
def JQ:AL (List Bool×Int):=(.cons (.k (.list .bo)) (.one (.k (.i .i64))))
def YD (d:List Bool×Int):Prop:=d.1.length<=1000/\0<=d.2/\d.2<=1000
def Jx (d:List Bool×Int):SV:=.lst 0
def JA (d:List Bool×Int):List OB:=[.lst 4 .bo (NC d.1 d.2.toNat) false]
def ZU:CSp:=W0 JQ YD Jx JA
def QU (l:List Bool) (n:Int):Prop :=
 ((decide (n<(0:Int)))=true ->
  False) /\
 ((decide (n<(0:Int)))=false ->
  (InK .u64 (lI l))/\(InK .u64 n)/\(0<=(lI l)/\(lI l)<=65535/\0<=n/\n<=65535)/\(((decide ((0:Int) > (0:Int)))||(decide (((lI l)*n) > (9223372036854775807:Int))))=true ->
   False) /\
  (((decide ((0:Int) > (0:Int)))||(decide (((lI l)*n) > (9223372036854775807:Int))))=false ->
   (I64 ((lI l)*n))/\(0<=((lI l)*n))/\(((lI l)*n)<=((lI l)*n))/\(((lI l)*n)*1<=70368744177664)/\(((lI l)*n)<=70368744177664)/\∃ (e2:Unit) (d20:(List Bool)×Int),((True/\((Nat.min (List.length l) (List.length (List.replicate (Int.toNat ((lI l)*n)) (false:Bool))):Nat):Int)=d20.2/\True)/\((((List.take (List.length (List.replicate (Int.toNat ((lI l)*n)) (false:Bool))) l)++(List.drop (List.length l) (List.replicate (Int.toNat ((lI l)*n)) (false:Bool))))=d20.1/\false=false)/\True)) /\
   LoopP (λ(d2:(List Bool)×Int) (q2:((List Bool)×Int)->Prop) =>
    ((decide (d2.2<(lI d2.1)))=true ->
     (0<=d2.2)/\(d2.2<=(lI d2.1))/\((lI d2.1)<=(List.length d2.1))/\(0<=(0:Int))/\((0:Int)<=d2.2)/\(d2.2<=(List.length d2.1))/\(I64 (d2.2+((Nat.min (List.length (List.take (Int.toNat (d2.2-(0:Int))) (List.drop (Int.toNat (0:Int)) d2.1))) (Int.toNat ((lI d2.1)-d2.2)):Nat):Int)))/\(∃ d3:(List Bool)×Int,((True/\(d2.2+((Nat.min (List.length (List.take (Int.toNat (d2.2-(0:Int))) (List.drop (Int.toNat (0:Int)) d2.1))) (Int.toNat ((lI d2.1)-d2.2)):Nat):Int))=d3.2/\True)/\((((List.take (Int.toNat d2.2) d2.1)++((List.take (Int.toNat ((lI d2.1)-d2.2)) (List.take (Int.toNat (d2.2-(0:Int))) (List.drop (Int.toNat (0:Int)) d2.1)))++(List.drop ((Int.toNat d2.2)+Nat.min (List.length (List.take (Int.toNat (d2.2-(0:Int))) (List.drop (Int.toNat (0:Int)) d2.1))) (Int.toNat ((lI d2.1)-d2.2))) d2.1)))=d3.1/\false=false)/\True))/\q2 d3)) /\
    ((decide (d2.2<(lI d2.1)))=false ->
     (True/\((d2.1=(NC l n.toNat)/\false=false)/\True)))) d20))
def JR:Cx:=⟨[(4,.bo)],[(45,XC)],48,[],0,[],[],[],[],false,[],[],[],[]⟩
def YX (l:List Bool) (n:Int):List (Nat×LoopAnn):=[(0,⟨Unit,(List Bool)×Int,[7,8],λe x=>[.lst 30,.val (.i .i64) x.2],λe x=>[(30,.slot 7,.lst 4 .bo x.1 false)]⟩)]
theorem YV (d:List Bool×Int):gwp (JR) (YX d.1 d.2) c26 0 (WY [.tmp 4] (Jx d) (JA d)) (Qk 48 (AL.can JQ d))=QU d.1 d.2:=by kernel_rfl
abbrev YU:Prop:=OkC Tryd.prog 26 ZU
theorem YW (h:∀ (l:List Bool) (n:Int),(l.length<=1000/\0<=n/\n<=1000)->QU l n):OkC Tryd.prog 26 ZU :=
 QF Q4x mixed (C:=JR) (V:=λ(d:List Bool×Int)=>QU d.1 d.2) ⟨(.cons VH .nil),XsOk.nil,ItsOk.nil,YlOk.nil,IysOk.nil,XfOk.nil⟩ (YV) λd hp=>h d.1 d.2 hp
theorem YT:YU:=YW λl n h=>by
 obtain⟨h1,h2,h3⟩:=h;obtain⟨m,rfl⟩:=zo h2;have vO:l.length*m<=1000*1000:=Nat.mul_le_mul h1 (by omega);have e1:(l.length:Int)*(m:Int)=((l.length*m:Nat):Int):=by norm_cast
 unfold QU;(try delta lI gD sT I64 Q4 pj8 pj4);simp only[true_and,and_true,exists_const,zg,zk,zh,gt_iff_lt,e1,Zs,CO,Int.sub_zero,xH,Int.toNat_zero,xk];refine⟨by omega,λ_=>⟨by omega,by omega,by omega,λh=>?_,λh=>⟨by omega,by omega,by omega,by omega,by omega,?_⟩⟩⟩
 .simp at h;omega
 refine⟨(_,_),(by and_intros<;>first|rfl|trivial|simp),?_⟩;refine⟨λd=>∃ k:Nat,d.2=k/\Q3d l m d.1 k,λd=>d.1.length-d.2.toNat,⟨_,rfl,Ls l m _⟩,?_⟩;rintro⟨xs,_⟩ ⟨k,rfl,hI⟩;dsimp only at hI |-;have du:=hI.1;have hk:=hI.2.1;refine⟨λaf=>?_,λaZ=>?_⟩
 .have af:k<xs.length:=by omega
  obtain⟨g1,g2⟩:=Sp hI af;have e2:((xs.length:Int)-(k:Int)).toNat=xs.length-k:=by omega
  have g3:=g1.2.1;have g4:=g1.1;have hc:Nat.min (List.take k xs).length (xs.length-k)<=1000000:=by have:Nat.min (List.take k xs).length (xs.length-k)<=_:=Nat.min_le_left _ _;simp only[xi] at this |-;omega
  simp only[zh,e2];generalize Nat.min (List.take k xs).length (xs.length-k)=c at g1 g2 g3 g4 hc |-;refine⟨by omega,by omega,by omega,by omega,by omega,by omega,⟨by omega,by omega⟩,(_,((k+c:Nat):Int)),(by and_intros<;>first|rfl|trivial|omega),⟨_,rfl,g1⟩,?_⟩;dsimp only;rw[g4];omega
 .have:=E1 hI (by omega);rw[this]
def Ug:AL (List (Int×Int×Bool)):=(.one (.k (.list (.pair (.i .i64) (.pair (.i .i64) .bo)))))
def Bs (d:List (Int×Int×Bool)):Prop:=d.length<=110
def VE (d:List (Int×Int×Bool)):SV:=.lst 0
def VA (d:List (Int×Int×Bool)):List OB:=[.lst 50 (.pair (.i .i64) (.pair (.i .i64) .bo)) d false]
def Ky:CSp:=W0 Ug Bs VE VA
def XN (s:List (Int×Int×Bool)):Prop :=
 (((List.length ([]:List (Int×Int×Bool)))+(List.length s))*24<=70368744177664)/\(True/\(((([]:List (Int×Int×Bool))++s)=s/\((List.isEmpty s)&&false)=false)/\True))
def Up:Cx:=⟨[(50,(.pair (.i .i64) (.pair (.i .i64) .bo)))],[],6,[],0,[],[],[],[],false,[],[],[],[]⟩
def Ha (s:List (Int×Int×Bool)):List (Nat×LoopAnn):=[]
theorem Pc (d:List (Int×Int×Bool)):gwp (Up) (Ha d) c12 0 (WY [.tmp 2] (VE d) (VA d)) (Qk 6 (AL.can Ug d))=XN d:=by kernel_rfl
abbrev P1:Prop:=OkC Tryd.prog 12 Ky
theorem HN (h:∀ (s:List (Int×Int×Bool)),(s.length<=110)->XN s):OkC Tryd.prog 12 Ky :=
 QF Q3j mixed (C:=Up) (V:=λ(d:List (Int×Int×Bool))=>XN d) ⟨.nil,XsOk.nil,ItsOk.nil,YlOk.nil,IysOk.nil,XfOk.nil⟩ (Pc) λd hp=>h d hp
theorem Hg:P1:=HN λs h=>by
 (unfold XN;(try delta lI gD sT I64 Q4 pj8 pj4);simp);omega
def Vv:AL ((Int×List Int)×Int×List Int):=(.cons (.agg (.cons (.k (.i .i64)) (.one (.k (.list (.i .i64)))))) (.one (.agg (.cons (.k (.i .i64)) (.one (.k (.list (.i .i64))))))))
def GU (d:(Int×List Int)×Int×List Int):Prop:=d.1.2.length<=1000000/\d.2.2.length<=1000000
def KS (d:(Int×List Int)×Int×List Int):SV:=.val (.i .i64) (Qa d.1.1 d.1.2 d.2.1 d.2.2)
def V4 (d:(Int×List Int)×Int×List Int):List OB:=[]
def XU:CSp:=W0 Vv GU KS V4
def Xd (hk:Int) (lw:List Int) (hd:Int) (rows:List Int):Prop :=
 (lw.length<=1000000)/\(((QV hk lw) != (0:Int))=true ->
  ((QV hk lw)=(Qa hk lw hd rows)/\(True))) /\
 (((QV hk lw) != (0:Int))=false ->
  (rows.length<=1000000)/\(((QD hd rows) != (0:Int))=true ->
   ((QD hd rows)=(Qa hk lw hd rows)/\(True))) /\
  (((QD hd rows) != (0:Int))=false ->
   ((hk != hd)=true ->
    ((4:Int)=(Qa hk lw hd rows)/\(True))) /\
   ((hk != hd)=false ->
    ((0:Int)=(Qa hk lw hd rows)/\(True)))))
def VO:Cx:=⟨[],[(39,YK),(40,Y7)],22,[],0,[],[],[],[],false,[],[],[],[]⟩
def Bv (hk:Int) (lw:List Int) (hd:Int) (rows:List Int):List (Nat×LoopAnn):=[]
theorem B4 (d:(Int×List Int)×Int×List Int):gwp (VO) (Bv d.1.1 d.1.2 d.2.1 d.2.2) c23 0 (WY [.tmp 4] (KS d) (V4 d)) (Qk 22 (AL.can Vv d))=Xd d.1.1 d.1.2 d.2.1 d.2.2:=by kernel_rfl
abbrev B6:Prop:=OkC Tryd.prog 23 XU
theorem Bd (h:∀ (hk:Int) (lw:List Int) (hd:Int) (rows:List Int),(lw.length<=1000000/\rows.length<=1000000)->Xd hk lw hd rows):OkC Tryd.prog 23 XU :=
 QF Q4t mixed (C:=VO) (V:=λ(d:(Int×List Int)×Int×List Int)=>Xd d.1.1 d.1.2 d.2.1 d.2.2) ⟨(.cons Ua (.cons Nq .nil)),XsOk.nil,ItsOk.nil,YlOk.nil,IysOk.nil,XfOk.nil⟩ (B4) λd hp=>h d.1.1 d.1.2 d.2.1 d.2.2 hp
theorem VN:B6:=Bd λhk lw hd rows h=>by
 unfold Xd;(try delta lI gD sT I64 Q4 pj8 pj4);simp only[and_true,bne_iff_ne,ne_eq,bne_eq_false_iff_eq];refine⟨h.1,λh1=>by simp[Qa,h1],λh1=>⟨h.2,λh2=>by simp[Qa,h1,h2],λh2=>⟨λh3=>?_,λh3=>?_⟩⟩⟩
 .have:¬ hd=hk:=λe=>h3 e.symm;simp[Qa,h1,h2,this]
 .subst h3;simp[Qa,h1,h2]
def QH:AL ((List (Int×Int×Bool))×((Int×Int×Bool->Prop)×(Int×Int×Bool->Bool))):=(.cons (.k (.list (.pair (.i .i64) (.pair (.i .i64) .bo)))) (.one (.fn [(.pair (.i .i64) (.pair (.i .i64) .bo))] .bo)))
def Zz (d:(List (Int×Int×Bool))×((Int×Int×Bool->Prop)×(Int×Int×Bool->Bool))):Prop:=d.1.length<=1000000/\∀ x∈d.1,d.2.1 x
def QC (d:(List (Int×Int×Bool))×((Int×Int×Bool->Prop)×(Int×Int×Bool->Bool))):SV:=.val (.i .i64) (A9 d.1 d.2.2)
def QB (d:(List (Int×Int×Bool))×((Int×Int×Bool->Prop)×(Int×Int×Bool->Bool))):List OB:=[]
def Qj:CSp:=W0 QH Zz QC QB
def Qe (l:List (Int×Int×Bool)) (p:(Int×Int×Bool->Prop)×(Int×Int×Bool->Bool)):Prop :=
 ∃ (e2:Unit) (d20:Int),((l=l/\(SV.pf [(.pair (.i .i64) (.pair (.i .i64) .bo))] .bo p.1 p.2=SV.pf [(.pair (.i .i64) (.pair (.i .i64) .bo))] .bo p.1 p.2)/\(lI l)=(lI l)/\(0:Int)=d20/\True)/\(True)) /\
 LoopP (λ(d2:Int) (q2:(Int)->Prop) =>
  ((decide (d2<(lI l)))=true ->
   (0<=d2)/\(d2<(List.length l))/\(p.1 ((gD l d2 (0,(0,false))).1,((gD l d2 (0,(0,false))).2.1,(gD l d2 (0,(0,false))).2.2)))/\((p.2 ((gD l d2 (0,(0,false))).1,((gD l d2 (0,(0,false))).2.1,(gD l d2 (0,(0,false))).2.2)))=true ->
    (d2=(A9 l p.2)/\(True))) /\
   ((p.2 ((gD l d2 (0,(0,false))).1,((gD l d2 (0,(0,false))).2.1,(gD l d2 (0,(0,false))).2.2)))=false ->
    (I64 (d2+(1:Int)))/\(∃ d3:Int,((l=l/\(SV.pf [(.pair (.i .i64) (.pair (.i .i64) .bo))] .bo p.1 p.2=SV.pf [(.pair (.i .i64) (.pair (.i .i64) .bo))] .bo p.1 p.2)/\(lI l)=(lI l)/\(d2+(1:Int))=d3/\True)/\(True))/\q2 d3))) /\
  ((decide (d2<(lI l)))=false ->
   ((-1:Int)=(A9 l p.2)/\(True)))) d20
def QG:Cx:=⟨[],[],19,[],0,[],[],[],[],false,[],[],[],[]⟩
def ZI (l:List (Int×Int×Bool)) (p:(Int×Int×Bool->Prop)×(Int×Int×Bool->Bool)):List (Nat×LoopAnn):=[(0,⟨Unit,Int,[0,1,7,8],λe x=>[.val (.list (.pair (.i .i64) (.pair (.i .i64) .bo))) l,.pf [(.pair (.i .i64) (.pair (.i .i64) .bo))] .bo p.1 p.2,.val (.i .i64) (((List.length l):Nat):Int),.val (.i .i64) x],λe x=>[]⟩)]
theorem ZE (d:(List (Int×Int×Bool))×((Int×Int×Bool->Prop)×(Int×Int×Bool->Bool))):gwp (QG) (ZI d.1 d.2) c44 0 (WY [.tmp 4] (QC d) (QB d)) (Qk 19 (AL.can QH d))=Qe d.1 d.2:=by kernel_rfl
abbrev ZG:Prop:=OkC Tryd.prog 44 Qj
theorem ZH (h:∀ (l:List (Int×Int×Bool)) (p:(Int×Int×Bool->Prop)×(Int×Int×Bool->Bool)),(l.length<=1000000/\∀ x∈l,p.1 x)->Qe l p):OkC Tryd.prog 44 Qj :=
 QF Q47 mixed (C:=QG) (V:=λ(d:(List (Int×Int×Bool))×((Int×Int×Bool->Prop)×(Int×Int×Bool->Bool)))=>Qe d.1 d.2) ⟨.nil,XsOk.nil,ItsOk.nil,YlOk.nil,IysOk.nil,XfOk.nil⟩ (ZE) λd hp=>h d.1 d.2 hp
theorem ZF:ZG:=ZH λl p hp=>by
 unfold Qe;(try delta lI gD sT I64 Q4 pj8 pj4);simp only[true_and,and_true,exists_eq_left',exists_const,zg,zk];refine LoopP.count l.length (λk=>(l.take k).any p.2=false) (by simp) λk bu hJ q hq=>?_;simp only[zh,Int.ofNat_lt,Zs];refine⟨λaf=>?_,λaZ=>?_⟩
 .have af:k<l.length:=by omega
  rw[Q7 af];refine⟨by omega,by omega,hp.2 _ (zi af),λhx=>?_,λhx=>⟨by omega,hq af ?_⟩⟩
  .rw[Lq af hx hJ]
  .rw[Qc af,List.any_append,hJ];simp[hx]
 .rw[zy (by omega)] at hJ;rw[Hj hJ]
def Qy:AL ((List (Int×Int×Bool))×((Int×Int×Bool->Prop)×(Int×Int×Bool->Bool))):=(.cons (.k (.list (.pair (.i .i64) (.pair (.i .i64) .bo)))) (.one (.fn [(.pair (.i .i64) (.pair (.i .i64) .bo))] .bo)))
def Ze (d:(List (Int×Int×Bool))×((Int×Int×Bool->Prop)×(Int×Int×Bool->Bool))):Prop:=d.1.length<=1000000/\∀ x∈d.1,d.2.1 x
def Qr (d:(List (Int×Int×Bool))×((Int×Int×Bool->Prop)×(Int×Int×Bool->Bool))):SV:=.val .bo (d.1.any d.2.2)
def Qw (d:(List (Int×Int×Bool))×((Int×Int×Bool->Prop)×(Int×Int×Bool->Bool))):List OB:=[]
def Qh:CSp:=W0 Qy Ze Qr Qw
def Qb (l:List (Int×Int×Bool)) (p:(Int×Int×Bool->Prop)×(Int×Int×Bool->Bool)):Prop :=
 (l.length<=1000000/\∀ x∈l,(λ(x1:Int×Int×Bool)=>p.1 (x1.1,(x1.2.1,x1.2.2))) x)/\((decide ((A9 l (λ(x1:Int×Int×Bool)=>(p.2 (x1.1,(x1.2.1,x1.2.2)))))>=(0:Int)))=(l.any p.2)/\(True))
def Qz:Cx:=⟨[],[(44,Qj)],9,[],0,[],[],[],[],false,[],[],[],[]⟩
def Zl (l:List (Int×Int×Bool)) (p:(Int×Int×Bool->Prop)×(Int×Int×Bool->Bool)):List (Nat×LoopAnn):=[]
theorem Zn (d:(List (Int×Int×Bool))×((Int×Int×Bool->Prop)×(Int×Int×Bool->Bool))):gwp (Qz) (Zl d.1 d.2) c24 0 (WY [.tmp 4] (Qr d) (Qw d)) (Qk 9 (AL.can Qy d))=Qb d.1 d.2:=by kernel_rfl
abbrev Zj:Prop:=OkC Tryd.prog 24 Qh
theorem Zm (h:∀ (l:List (Int×Int×Bool)) (p:(Int×Int×Bool->Prop)×(Int×Int×Bool->Bool)),(l.length<=1000000/\∀ x∈l,p.1 x)->Qb l p):OkC Tryd.prog 24 Qh :=
 QF Q54 mixed (C:=Qz) (V:=λ(d:(List (Int×Int×Bool))×((Int×Int×Bool->Prop)×(Int×Int×Bool->Bool)))=>Qb d.1 d.2) ⟨(.cons ZF .nil),XsOk.nil,ItsOk.nil,YlOk.nil,IysOk.nil,XfOk.nil⟩ (Zn) λd hp=>h d.1 d.2 hp
theorem Zo:Zj:=Zm λl p hp=>by simp only[Qb];exact⟨hp,As l p.2,trivial⟩
def NF:AL ((Int×Int×Bool)×Int×List Int):=(.cons (.agg (.cons (.k (.i .i64)) (.cons (.k (.i .i64)) (.one (.k .bo))))) (.one (.ptr (.cons (.k (.i .i64)) (.one (.k (.list (.i .i64))))))))
def Pt (d:(Int×Int×Bool)×Int×List Int):Prop:=d.2.2.length<=1000000
def Uh (d:(Int×Int×Bool)×Int×List Int):SV:=.val .bo (!inI d.1.1 0 119||!inI d.1.2.1 0 (d.2.2.length-1))
def Uf (d:(Int×Int×Bool)×Int×List Int):List OB:=[]
def Vm:CSp:=W0 NF Pt Uh Uf
def Wx (p:Int) (w:Int) (u:Bool) (hk:Int) (lw:List Int):Prop :=
 ([p].length<=1000000)/\((!(!([p].any λn=>decide (n<(0:Int))||decide ((119:Int)<n))))=false->InK .i64 ((lI lw)-(1:Int)))/\((!(!([p].any λn=>decide (n<(0:Int))||decide ((119:Int)<n))))=false->True)/\((!(!([p].any λn=>decide (n<(0:Int))||decide ((119:Int)<n))))=false->[w].length<=1000000)/\(((!(!([p].any λn=>decide (n<(0:Int))||decide ((119:Int)<n))))||(!(!([w].any λn=>decide (n<(0:Int))||decide (((lI lw)-(1:Int))<n)))))=(!inI p 0 119||!inI w 0 (lw.length-1))/\(True))
def NG:Cx:=⟨[(3,(.i .i64))],[(22,Kj)],20,[],0,[],[],[],[],false,[],[],[],[]⟩
def T6 (p:Int) (w:Int) (u:Bool) (hk:Int) (lw:List Int):List (Nat×LoopAnn):=[]
theorem PQ (d:(Int×Int×Bool)×Int×List Int):gwp (NG) (T6 d.1.1 d.1.2.1 d.1.2.2 d.2.1 d.2.2) c21 0 (WY [.tmp 3] (Uh d) (Uf d)) (Qk 20 (AL.can NF d))=Wx d.1.1 d.1.2.1 d.1.2.2 d.2.1 d.2.2:=by kernel_rfl
abbrev PW:Prop:=OkC Tryd.prog 21 Vm
theorem PZ (h:∀ (p:Int) (w:Int) (u:Bool) (hk:Int) (lw:List Int),(lw.length<=1000000)->Wx p w u hk lw):OkC Tryd.prog 21 Vm :=
 QF Q4s mixed (C:=NG) (V:=λ(d:(Int×Int×Bool)×Int×List Int)=>Wx d.1.1 d.1.2.1 d.1.2.2 d.2.1 d.2.2) ⟨(.cons G5 .nil),XsOk.nil,ItsOk.nil,YlOk.nil,IysOk.nil,XfOk.nil⟩ (PQ) λd hp=>h d.1.1 d.1.2.1 d.1.2.2 d.2.1 d.2.2 hp
theorem P_:PW:=PZ λp w u hk lw h=>by unfold Wx;(try delta lI gD sT I64 Q4 pj8 pj4);simp only[and_true,Zs,zl,nI,List.any_cons,List.any_nil,x_,Bool.not_not];and_intros<;>(intros;first|trivial|omega)
theorem RX {hk:Int}{lw:List Int}{hd:Int}{rows:List Int}(h:Qa hk lw hd rows=0):QD hd rows=0/\hd=hk:=by
 unfold Qa at h;split at h
 .contradiction
 .split at h
  .contradiction
  .rename_i h1;split at h
   .cases h
   .rename_i h2;exact⟨by simpa using h1,by simpa using h2⟩
def DV:AL ((Int×List Int)×(Int×List Int)×List (Int×Int×Bool)):=(.cons (.agg (.cons (.k (.i .i64)) (.one (.k (.list (.i .i64)))))) (.cons (.agg (.cons (.k (.i .i64)) (.one (.k (.list (.i .i64)))))) (.one (.k (.list (.pair (.i .i64) (.pair (.i .i64) .bo)))))))
def Rw (d:(Int×List Int)×(Int×List Int)×List (Int×Int×Bool)):Prop:=d.1.2.length<=110/\d.2.1.2.length<=110/\d.2.2.length<=110
def Mm (d:(Int×List Int)×(Int×List Int)×List (Int×Int×Bool)):SV:=.tup [.lst 0,.lst 1,.val (.i .i64) (ZP d.1.1 d.1.2 d.2.1.1 d.2.1.2 d.2.2)]
def Gb (d:(Int×List Int)×(Int×List Int)×List (Int×Int×Bool)):List OB:=[.lst 3 (.i .i64) (XE d.1.1 d.1.2 d.2.1.1 d.2.1.2 d.2.2) ((XE d.1.1 d.1.2 d.2.1.1 d.2.1.2 d.2.2).isEmpty),.lst 4 .bo (XG d.1.1 d.1.2 d.2.1.1 d.2.1.2 d.2.2) ((XG d.1.1 d.1.2 d.2.1.1 d.2.1.2 d.2.2).isEmpty)]
def M4:CSp:=W0 DV Rw Mm Gb
def Kb (hk:Int) (lw:List Int) (hd:Int) (rows:List Int) (s:List (Int×Int×Bool)):Prop :=
 (lw.length<=1000000/\rows.length<=1000000)/\(((Qa hk lw hd rows) != (0:Int))=true ->
  ((True/\True/\(Qa hk lw hd rows)=ZP hk lw hd rows s/\(([]:List SV)=[]))/\(((XE hk lw hd rows s)=[]/\(XE hk lw hd rows s).isEmpty=true)/\((XG hk lw hd rows s)=[]/\(XG hk lw hd rows s).isEmpty=true)/\True))) /\
 (((Qa hk lw hd rows) != (0:Int))=false ->
  ((decide ((lI s) > (60:Int)))=true ->
   ((True/\True/\(5:Int)=ZP hk lw hd rows s/\(([]:List SV)=[]))/\(((XE hk lw hd rows s)=[]/\(XE hk lw hd rows s).isEmpty=true)/\((XG hk lw hd rows s)=[]/\(XG hk lw hd rows s).isEmpty=true)/\True))) /\
  ((decide ((lI s) > (60:Int)))=false ->
   (s.length<=1000000/\∀ x∈s,(λ(x1:Int×Int×Bool)=>lw.length<=1000000) x)/\((s.any (λ(x1:Int×Int×Bool)=>(!inI x1.1 0 119||!inI x1.2.1 0 (lw.length-1))))=true ->
    ((True/\True/\(2:Int)=ZP hk lw hd rows s/\(([]:List SV)=[]))/\(((XE hk lw hd rows s)=[]/\(XE hk lw hd rows s).isEmpty=true)/\((XG hk lw hd rows s)=[]/\(XG hk lw hd rows s).isEmpty=true)/\True))) /\
   ((s.any (λ(x1:Int×Int×Bool)=>(!inI x1.1 0 119||!inI x1.2.1 0 (lw.length-1))))=false ->
    ∃ (e3:Unit) (d30:Int×Int),((s=s/\True/\True/\(0:Int)=d30.1/\lw=lw/\(lI lw)=(lI lw)/\(0:Int)=d30.2/\True)/\((hk=hk/\lw=lw/\(([]:List SV)=[]))/\(hd=hd/\rows=rows/\(([]:List SV)=[]))/\True)) /\
    LoopP (λ(d3:Int×Int) (q3:(Int×Int)->Prop) =>
     ((decide (d3.2<(lI lw)))=true ->
      (0<=d3.2)/\(d3.2<(List.length lw))/\(0<=(gD lw d3.2 0))/\(I64 (PC .i64 (1:Int) (gD lw d3.2 0)))/\(I64 (d3.2+(1:Int)))/\(∃ d4:Int×Int,((s=s/\True/\True/\(ZS .or .i64 d3.1 (PC .i64 (1:Int) (gD lw d3.2 0)))=d4.1/\lw=lw/\(lI lw)=(lI lw)/\(d3.2+(1:Int))=d4.2/\True)/\((hk=hk/\lw=lw/\(([]:List SV)=[]))/\(hd=hd/\rows=rows/\(([]:List SV)=[]))/\True))/\q3 d4)) /\
     ((decide (d3.2<(lI lw)))=false ->
      ([d3.1].length<=1000/\0<=(lI lw)/\(lI lw)<=1000)/\(false=true->(NC [d3.1] (lI lw).toNat)=[])/\((s=s/\True/\True/\True/\(lI lw)=(lI lw)/\True)/\((hk=hk/\lw=lw/\(([]:List SV)=[]))/\(hd=hd/\rows=rows/\(([]:List SV)=[]))/\([d3.1]=[d3.1]/\false=false)/\((NC [d3.1] (lI lw).toNat)=(NC [d3.1] (lI lw).toNat)/\false=false)/\([true]=[true]/\false=false)/\True))/\(([d3.1].length<=1000/\0<=(lI lw)/\(lI lw)<=1000)/\(false=true->(NC [d3.1] (lI lw).toNat)=[])/\((s=s/\True/\True/\True/\(lI lw)=(lI lw)/\True)/\((hk=hk/\lw=lw/\(([]:List SV)=[]))/\(hd=hd/\rows=rows/\(([]:List SV)=[]))/\([d3.1]=[d3.1]/\false=false)/\((NC [d3.1] (lI lw).toNat)=(NC [d3.1] (lI lw).toNat)/\false=false)/\([true]=[true]/\false=false)/\True)))/\(([d3.1].length<=1000/\0<=(lI lw)/\(lI lw)<=1000)/\(false=true->(NC [d3.1] (lI lw).toNat)=[])/\((s=s/\True/\True/\True/\(lI lw)=(lI lw)/\True)/\((hk=hk/\lw=lw/\(([]:List SV)=[]))/\(hd=hd/\rows=rows/\(([]:List SV)=[]))/\([d3.1]=[d3.1]/\false=false)/\((NC [d3.1] (lI lw).toNat)=(NC [d3.1] (lI lw).toNat)/\false=false)/\([true]=[true]/\false=false)/\True)))/\([true].length<=1000/\0<=(lI lw)/\(lI lw)<=1000)/\∃ (e7:Unit) (d70:(List Int)×(List Bool)×Int),((True/\True/\True/\s=s/\(lI s)=(lI s)/\(0:Int)=d70.2.2/\True)/\((hd=hd/\rows=rows/\(([]:List SV)=[]))/\((NC [d3.1] (lI lw).toNat)=d70.1/\false=false)/\((NC [true] (lI lw).toNat)=d70.2.1/\false=false)/\True)) /\
      LoopP (λ(d7:(List Int)×(List Bool)×Int) (q7:((List Int)×(List Bool)×Int)->Prop) =>
       ((decide (d7.2.2<(lI s)))=true ->
        (0<=d7.2.2)/\(d7.2.2<(List.length s))/\((lI rows)≠0)/\(0<=(Int.tmod (gD s d7.2.2 (0,(0,false))).1 (lI rows)))/\((Int.tmod (gD s d7.2.2 (0,(0,false))).1 (lI rows))<(List.length rows))/\((gD s d7.2.2 (0,(0,false))).2.2=true ->
         (0<=(gD s d7.2.2 (0,(0,false))).2.1)/\((gD s d7.2.2 (0,(0,false))).2.1<(List.length d7.1))/\(0<=(gD s d7.2.2 (0,(0,false))).2.1)/\((gD s d7.2.2 (0,(0,false))).2.1<(List.length d7.1))/\(0<=(gD s d7.2.2 (0,(0,false))).2.1)/\((gD s d7.2.2 (0,(0,false))).2.1<(List.length d7.2.1))/\(I64 (d7.2.2+(1:Int)))/\(∃ d8:(List Int)×(List Bool)×Int,((True/\True/\True/\s=s/\(lI s)=(lI s)/\(d7.2.2+(1:Int))=d8.2.2/\True)/\((hd=hd/\rows=rows/\(([]:List SV)=[]))/\((List.set d7.1 (Int.toNat (gD s d7.2.2 (0,(0,false))).2.1) (ZS .and .i64 (List.getD d7.1 (Int.toNat (gD s d7.2.2 (0,(0,false))).2.1) 0) (gD rows (Int.tmod (gD s d7.2.2 (0,(0,false))).1 (lI rows)) 0)))=d8.1/\false=false)/\((List.set d7.2.1 (Int.toNat (gD s d7.2.2 (0,(0,false))).2.1) false)=d8.2.1/\false=false)/\True))/\q7 d8)) /\
        ((gD s d7.2.2 (0,(0,false))).2.2=false ->
         (0<=(gD s d7.2.2 (0,(0,false))).2.1)/\((gD s d7.2.2 (0,(0,false))).2.1<(List.length d7.1))/\(0<=(gD s d7.2.2 (0,(0,false))).2.1)/\((gD s d7.2.2 (0,(0,false))).2.1<(List.length d7.1))/\(I64 (d7.2.2+(1:Int)))/\(∃ d9:(List Int)×(List Bool)×Int,((True/\True/\True/\s=s/\(lI s)=(lI s)/\(d7.2.2+(1:Int))=d9.2.2/\True)/\((hd=hd/\rows=rows/\(([]:List SV)=[]))/\((List.set d7.1 (Int.toNat (gD s d7.2.2 (0,(0,false))).2.1) (ZS .andNot .i64 (List.getD d7.1 (Int.toNat (gD s d7.2.2 (0,(0,false))).2.1) 0) (gD rows (Int.tmod (gD s d7.2.2 (0,(0,false))).1 (lI rows)) 0)))=d9.1/\false=false)/\(d7.2.1=d9.2.1/\false=false)/\True))/\q7 d9))) /\
       ((decide (d7.2.2<(lI s)))=false ->
        ((True/\True/\(0:Int)=ZP hk lw hd rows s/\(([]:List SV)=[]))/\((d7.1=(XE hk lw hd rows s)/\false=(XE hk lw hd rows s).isEmpty)/\(d7.2.1=(XG hk lw hd rows s)/\false=(XG hk lw hd rows s).isEmpty)/\True)))) d70)) d30)))
def Dl:Cx:=⟨[(3,(.i .i64)),(4,.bo)],[(23,XU),(24,Qh),(21,Vm),(25,Jh),(26,ZU)],97,[],0,[],[],[],[2,4,50,51,54],false,[],[],[],[]⟩
def LN (hk:Int) (lw:List Int) (hd:Int) (rows:List Int) (s:List (Int×Int×Bool)):List (Nat×LoopAnn):=[(1,⟨Unit,Int×Int,[2,3,4,11,34,35,36],λe x=>[.val (.list (.pair (.i .i64) (.pair (.i .i64) .bo))) s,.box 3 0,.box 4 0,.val (.i .i64) x.1,.val (.list (.i .i64)) lw,.val (.i .i64) (((List.length lw):Nat):Int),.val (.i .i64) x.2],λe x=>[(3,.slot 3,.cells [.val (.i .i64) hk,.val (.list (.i .i64)) lw] (some 29)),(4,.slot 4,.cells [.val (.i .i64) hd,.val (.list (.i .i64)) rows] (some 32))]⟩),
 (3,⟨Unit,(List Int)×(List Bool)×Int,[4,6,7,56,57,58],λe x=>[.box 4 0,.lst 50,.lst 55,.val (.list (.pair (.i .i64) (.pair (.i .i64) .bo))) s,.val (.i .i64) (((List.length s):Nat):Int),.val (.i .i64) x.2.2],λe x=>[(4,.slot 4,.cells [.val (.i .i64) hd,.val (.list (.i .i64)) rows] (some 32)),(50,.slot 6,.lst 3 (.i .i64) x.1 false),(55,.slot 7,.lst 4 .bo x.2.1 false)]⟩)]
theorem LI (d:(Int×List Int)×(Int×List Int)×List (Int×Int×Bool)):gwp (Dl) (LN d.1.1 d.1.2 d.2.1.1 d.2.1.2 d.2.2) c11 0 (WY [.tmp 6,.tmp 7,.tmp 8] (Mm d) (Gb d)) (Qk 97 (AL.can DV d))=Kb d.1.1 d.1.2 d.2.1.1 d.2.1.2 d.2.2:=by kernel_rfl
abbrev LR:Prop:=OkC Tryd.prog 11 M4
theorem Lj (h:∀ (hk:Int) (lw:List Int) (hd:Int) (rows:List Int) (s:List (Int×Int×Bool)),(lw.length<=110/\rows.length<=110/\s.length<=110)->Kb hk lw hd rows s):OkC Tryd.prog 11 M4 :=
 QF Q41 mixed (C:=Dl) (V:=λ(d:(Int×List Int)×(Int×List Int)×List (Int×Int×Bool))=>Kb d.1.1 d.1.2 d.2.1.1 d.2.1.2 d.2.2) ⟨(.cons VN (.cons Zo (.cons P_ (.cons KU (.cons YT .nil))))),XsOk.nil,ItsOk.nil,YlOk.nil,IysOk.nil,XfOk.nil⟩ (LI) λd hp=>h d.1.1 d.1.2 d.2.1.1 d.2.1.2 d.2.2 hp
theorem NX {x y:Nat}(hx:x<9223372036854775808) (hy:y<9223372036854775808):ZS .andNot .i64 x y=((x ^^^ (x &&& y):Nat):Int):=by
 have af:x ^^^ (x &&& y)<9223372036854775808:=Ec hx (Bz hx);have e:(BitVec.ofInt 64 (x:Int) &&& ~~~ BitVec.ofInt 64 (y:Int)).toNat=x ^^^ (x &&& y):=by
  have h1:(BitVec.ofNat 64 x &&& ~~~ BitVec.ofNat 64 y)=BitVec.ofNat 64 (x ^^^ (x &&& y)):=by apply BitVec.eq_of_getLsbD_eq;intro i hi;simp only[BitVec.getLsbD_and,BitVec.getLsbD_not,BitVec.getLsbD_ofNat,hi,decide_true,Bool.true_and,Nat.testBit_xor,Nat.testBit_and];cases x.testBit i<;>cases y.testBit i<;>rfl
  rw[BU,BU,h1,BitVec.toNat_ofNat,xU (by omega)]
 show IntKind.wrap .i64 ((BitVec.ofInt 64 (x:Int) &&& ~~~ BitVec.ofInt 64 (y:Int)).toNat:Int)=_;rw[e,Go.V.wrap_small af]
theorem Lm {hk:Int}{lw:List Int}{hd:Int}{rows:List Int}(h:Qa hk lw hd rows=0):QV hk lw=0:=by
 unfold Qa at h;split at h
 .contradiction
 .rename_i h1;simpa using h1
theorem Lz (l:List Int) (x:Int):FB (l++[x])=FB l ||| 2 ^ x.toNat:=by simp[FB]
theorem Q2y {rows:List Int}{w b:Nat}{x:SI}(h:b<9223372036854775808):Ao rows w b x<9223372036854775808:=by
 unfold Ao;split
 .split
  .exact Bz h
  .exact Ec h (Bz h)
 .exact h
theorem S4 {rows:List Int}{w:Nat}:∀ (s:List SI) (b:Nat),b<9223372036854775808->s.foldl (Ao rows w) b<9223372036854775808
 |[],b,h=>h
 |x::s,b,h=>S4 s _ (Q2y h)
theorem Ep (lw rows:List Int):Z3 lw rows []=List.replicate lw.length ((FB lw:Nat):Int):=by apply List.ext_getElem (by simp[Z3]);intro i h1 h2;simp[Z3,Un]
theorem Ev (lw:List Int):Z1 lw []=List.replicate lw.length true:=by apply List.ext_getElem (by simp[Z1]);intro i h1 h2;simp[Z1]
theorem Wn (lw rows:List Int) (s:List SI):(Z3 lw rows s).length=lw.length:=by simp[Z3]
theorem Wj (lw:List Int) (s:List SI):(Z1 lw s).length=lw.length:=by simp[Z1]
theorem BK {lw rows:List Int}{s:List SI}{x:SI}{w:Nat}(hx:x.2.1=w):Z3 lw rows (s++[x])=(Z3 lw rows s).set w ((Ao rows w (Un lw rows s w) x:Nat):Int):=by
 apply List.ext_getElem (by simp[Z3]);intro i h1 h2;rw[List.getElem_set];by_cases e:w=i
 .subst e;simp[Z3,Un]
 .rw[z6 e];have:¬ (w:Int)=i:=by omega
  simp[Z3,Un,Ao,hx,this]
theorem Hl {lw:List Int}{s:List SI}{x:SI}{w:Nat}(hx:x.2.1=w):Z1 lw (s++[x])=if x.2.2 then (Z1 lw s).set w false else Z1 lw s:=by
 cases hu:x.2.2 with
 |true =>
  rw[z7 rfl];apply List.ext_getElem (by simp[Z1]);intro i h1 h2;rw[List.getElem_set];by_cases e:w=i
  .subst e;simp[Z1,hx,hu]
  .rw[z6 e];have:¬ (w:Int)=i:=by omega
   simp[Z1,hx,hu,this]
 |false =>rw[z6 (by simp)];apply List.ext_getElem (by simp[Z1]);intro i h1 h2;simp[Z1,hu]
theorem SE:LR:=Lj λhk lw hd rows s h=>by
 obtain⟨h1,h2,h3⟩:=h;unfold Kb;(try delta lI gD sT I64 Q4 pj8 pj4);simp only[true_and,and_true,exists_const,zg,zk,bne_iff_ne,ne_eq,bne_eq_false_iff_eq,zh,gt_iff_lt,Zs,Q0k];refine⟨⟨by omega,by omega⟩,λhe=>?_,λhe=>⟨λh4=>?_,λh4=>⟨⟨by omega,λ_ _=>by omega⟩,λh5=>?_,λh5=>?_⟩⟩⟩
 .simp[ZP,XE,XG,he]
 .have h4:60<s.length:=by omega
  simp[ZP,XE,XG,he,h4]
 .have h4:¬ 60<s.length:=by omega
  have e0:ZP hk lw hd rows s=2:=by unfold ZP;rw[z6 (by simp[he]),z6 h4,z7 h5]
  simp[XE,XG,e0]
 have h4:¬ 60<s.length:=by omega
 have e0:ZP hk lw hd rows s=0:=by unfold ZP;rw[z6 (by simp[he]),z6 h4,z6 (by simp[h5])]
 have e1:XE hk lw hd rows s=Z3 lw rows s:=by simp[XE,e0]
 have e2:XG hk lw hd rows s=Z1 lw s:=by simp[XG,e0]
 obtain⟨t1,t2,t3,t4,t5⟩:=Po (Lm he);obtain⟨w1,w2⟩:=RX he;obtain⟨p1,p2,p3,p4,p5⟩:=Gw w1;have jm:=KJ p1 p2;have vP:∀ x∈s,(0<=x.1/\x.1<=119)/\0<=x.2.1/\x.2.1<lw.length:=λx hx=>by have:=xe.1 h5 x hx;simp only[zw,Bool.not_eq_true',inI,Bool.and_eq_false_iff,zk] at this;omega
 have oE:∀ k,k<=lw.length->FB (lw.take k)<9223372036854775808:=λk hk=>by
  induction k with
  |zero=>simp[FB]
  |succ k ih =>
   have af:k<lw.length:=by omega
   rw[Qc af,Lz];have hx:=t5 _ (zi af);have ng:2 ^ lw[k].toNat<=2 ^ 24:=Nat.pow_le_pow_right (by omega) (by omega);exact Oa (ih (by omega)) (by omega)
 rw[e0,e1,e2];refine⟨(0,0),(by and_intros<;>first|rfl|trivial|simp),?_⟩;refine LoopP.count2 lw.length (λk x=>x=((FB (lw.take k):Nat):Int)) rfl λk x hk hJ q hq=>?_;dsimp only;refine⟨λaf=>?_,λaZ=>?_⟩
 .have af:k<lw.length:=by omega
  have hx:=t5 _ (zi af);have dG:=R2 (h:=lw[k]) hx.1 (by omega);have dw:(2:Int) ^ lw[k].toNat=((2 ^ lw[k].toNat:Nat):Int):=by norm_cast
  have ng:2 ^ lw[k].toNat<=2 ^ 24:=Nat.pow_le_pow_right (by omega) (by omega);have vQ:(-9223372036854775808:Int)<=((2 ^ lw[k].toNat:Nat):Int)/\((2 ^ lw[k].toNat:Nat):Int)<=9223372036854775807:=⟨by have:=Int.natCast_nonneg (2 ^ lw[k].toNat);omega,by have:=Int.ofNat_le.2 ng;simp only[Nat.reducePow] at this;omega⟩;simp only[zh,Q7 af,dG,dw,hJ,Q2l (oE k hk) (show 2 ^ lw[k].toNat<9223372036854775808 by omega)];refine⟨by omega,by omega,by omega,vQ,by omega,(((FB (lw.take k) ||| 2 ^ lw[k].toNat:Nat):Int),(k:Int)+1),(by and_intros<;>first|rfl|trivial|simp),hq _ af ?_⟩;rw[Qc af,Lz]
 .have:k=lw.length:=by omega
  subst this;rw[List.take_length] at hJ;have hb:=oE _ (zd _);rw[List.take_length] at hb;rw[hJ];simp only[zl];and_intros;all_goals try (first|omega|(intro h;simp at h;done))
  all_goals (try simp only[true_and])
  all_goals try (first|omega|(intro h;simp at h;done))
  rw[<-Ep lw rows,<-Ev lw];refine⟨(Z3 lw rows [],Z1 lw [],0),(by and_intros<;>first|rfl|trivial|simp),?_⟩;refine⟨λd=>∃ i:Nat,i<=s.length/\d.2.2=i/\d.1=Z3 lw rows (s.take i)/\d.2.1=Z1 lw (s.take i),λd=>s.length-d.2.2.toNat,⟨0,Nat.zero_le _,rfl,by simp,by simp⟩,?_⟩;rintro⟨a,b,_⟩ ⟨i,hi,rfl,ha,bF⟩;dsimp only at ha bF |-;subst ha bF;refine⟨λaf=>?_,λaZ=>?_⟩
  .have af:i<s.length:=by omega
   obtain⟨kf,vR⟩:=vP _ (zi af);obtain⟨w,hw⟩:=zo vR.1;obtain⟨p,hp⟩:=zo kf.1;have gF:p % rows.length<rows.length:=wP _ (by omega);have sw:Int.tmod (p:Int) (rows.length:Int)=((p % rows.length:Nat):Int):=rfl;have cF:=p5 _ (zi gF);obtain⟨r,hr⟩:=zo cF.1;have tA:rowAt rows s[i].1=r:=by unfold rowAt;rw[hp,zh,Q7 gF,hr];rfl
   have vS:w<lw.length:=by omega
   have vT:(Z3 lw rows (s.take i)).getD w 0=((Un lw rows (s.take i) w:Nat):Int):=by rw[Q7 (by rw[Wn];exact vS)];simp[Z3]
   have tB:Un lw rows (s.take i) w<9223372036854775808:=S4 _ _ hb;simp only[zh,Q7 af,hw,hp,sw,Q7 gF,hr,vT,Wn,Wj,R9 tB (show r<9223372036854775808 by omega),NX tB (show r<9223372036854775808 by omega)];refine⟨by omega,by omega,by omega,by omega,by omega,λhu=>?_,λhu=>?_⟩
   .refine⟨by omega,by omega,by omega,by omega,by omega,by omega,by omega,((Z3 lw rows (s.take i)).set w ((Un lw rows (s.take i) w &&& r:Nat):Int),(Z1 lw (s.take i)).set w false,(i:Int)+1),(by and_intros<;>first|rfl|trivial|simp),⟨i+1,by omega,rfl,?_,?_⟩,by dsimp only;omega⟩
    .rw[Qc af,BK hw];unfold Ao;rw[z7 hw,z7 hu,tA]
    .rw[Qc af,Hl hw,z7 hu]
   .refine⟨by omega,by omega,by omega,by omega,by omega,((Z3 lw rows (s.take i)).set w ((Un lw rows (s.take i) w ^^^ Un lw rows (s.take i) w &&& r:Nat):Int),Z1 lw (s.take i),(i:Int)+1),(by and_intros<;>first|rfl|trivial|simp),⟨i+1,by omega,rfl,?_,?_⟩,by dsimp only;omega⟩
    .rw[Qc af,BK hw];unfold Ao;rw[z7 hw,z6 (by simp[hu]),tA]
    .rw[Qc af,Hl hw,z6 (by simp[hu])]
  .have:i=s.length:=by omega
   subst this;rw[List.take_length];have n1:(Z3 lw rows s).isEmpty=false:=by
    cases h:Z3 lw rows s with
    |nil=>have:=Wn lw rows s;rw[h] at this;simp at this;omega
    |cons=>rfl
   have n2:(Z1 lw s).isEmpty=false:=by
    cases h:Z1 lw s with
    |nil=>have:=Wj lw s;rw[h] at this;simp at this;omega
    |cons=>rfl
   rw[n1,n2];exact(by and_intros<;>first|rfl|trivial|simp)
end Go.Proofs.Tryd
namespace Go.Proofs
open Go.Shelf
def Tryd.q1w:Go.Shelf.Ren:=⟨fun|160=>47|232=>71|231=>70|227=>72|234=>74|233=>73|236=>76|235=>75|228=>84|271=>87|151=>86|197=>85|120=>92|152=>91|260=>90|137=>93|119=>94|224=>95|225=>96|217=>97|266=>98|n=>n,fun|9=>9|4=>4|3=>3|5=>5|117=>137|116=>136|0=>0|124=>140|21=>21|105=>147|46=>47|119=>154|139=>157|138=>156|n=>n,fun|3=>0|4=>1|n=>n⟩
theorem Tryd.lays160:Go.Proofs.Lays.n160 Tryd.prog Tryd.q1w:={
 mixed:=by kernel_rfl
 f119:=Tryd.func94.trans (congrArg some (by kernel_rfl))
 f120:=Tryd.func92.trans (congrArg some (by kernel_rfl))
 f137:=Tryd.func93.trans (congrArg some (by kernel_rfl))
 f151:=Tryd.func86.trans (congrArg some (by kernel_rfl))
 f152:=Tryd.func91.trans (congrArg some (by kernel_rfl))
 f160:=Tryd.func47.trans (congrArg some (by kernel_rfl))
 f197:=Tryd.func85.trans (congrArg some (by kernel_rfl))
 f217:=Tryd.func97.trans (congrArg some (by kernel_rfl))
 f224:=Tryd.func95.trans (congrArg some (by kernel_rfl))
 f225:=Tryd.func96.trans (congrArg some (by kernel_rfl))
 f227:=Tryd.func72.trans (congrArg some (by kernel_rfl))
 f228:=Tryd.func84.trans (congrArg some (by kernel_rfl))
 f231:=Tryd.func70.trans (congrArg some (by kernel_rfl))
 f232:=Tryd.func71.trans (congrArg some (by kernel_rfl))
 f233:=Tryd.func73.trans (congrArg some (by kernel_rfl))
 f234:=Tryd.func74.trans (congrArg some (by kernel_rfl))
 f235:=Tryd.func75.trans (congrArg some (by kernel_rfl))
 f236:=Tryd.func76.trans (congrArg some (by kernel_rfl))
 f260:=Tryd.func90.trans (congrArg some (by kernel_rfl))
 f266:=Tryd.func98.trans (congrArg some (by kernel_rfl))
 f271:=Tryd.func87.trans (congrArg some (by kernel_rfl))
 t0:=Tryd.underlying0
 a0:=Tryd.isAgg0
 z0:=Tryd.sizeOf0
 v0:=Tryd.zeroValue0
 t3:=Tryd.underlying3
 a3:=Tryd.isAgg3
 z3:=Tryd.sizeOf3
 v3:=Tryd.zeroValue3
 t4:=Tryd.underlying4
 a4:=Tryd.isAgg4
 z4:=Tryd.sizeOf4
 v4:=Tryd.zeroValue4
 t5:=Tryd.underlying5
 a5:=Tryd.isAgg5
 z5:=Tryd.sizeOf5
 v5:=Tryd.zeroValue5
 t9:=Tryd.underlying9
 a9:=Tryd.isAgg9
 z9:=Tryd.sizeOf9
 v9:=Tryd.zeroValue9
 t21:=Tryd.underlying21
 a21:=Tryd.isAgg21
 z21:=Tryd.sizeOf21
 v21:=Tryd.zeroValue21
 t46:=Tryd.underlying47
 a46:=Tryd.isAgg47
 z46:=Tryd.sizeOf47
 v46:=Tryd.zeroValue47
 t105:=Tryd.underlying147
 a105:=Tryd.isAgg147
 z105:=Tryd.sizeOf147
 v105:=Tryd.zeroValue147
 t116:=Tryd.underlying136
 a116:=Tryd.isAgg136
 z116:=Tryd.sizeOf136
 t117:=Tryd.underlying137
 a117:=Tryd.isAgg137
 z117:=Tryd.sizeOf137
 v117:=Tryd.zeroValue137
 t119:=Tryd.underlying154
 a119:=Tryd.isAgg154
 z119:=Tryd.sizeOf154
 t124:=Tryd.underlying140
 a124:=Tryd.isAgg140
 z124:=Tryd.sizeOf140
 v124:=Tryd.zeroValue140
 t138:=Tryd.underlying156
 a138:=Tryd.isAgg156
 z138:=Tryd.sizeOf156
 v138:=Tryd.zeroValue156
 t139:=Tryd.underlying157
 a139:=Tryd.isAgg157
 z139:=Tryd.sizeOf157
 v139:=Tryd.zeroValue157
 g3:=by kernel_rfl
 g4:=by kernel_rfl}
end Go.Proofs
namespace Go.V
open Go
theorem OJ {P:Program}{U:Heap}:Ret P U (.val .bo true) [] (.bool true) U :=
 ⟨⟨.refl _,Dead.refl _⟩,λ_=>rfl,Xl,λj b hj=>by simp at hj,λj j' i hj=>by simp at hj,by simp[SR,KC]⟩
theorem Q0d {P:Program}{f:Nat}(h:∀ (U:Heap) (K:Value->Heap->Prop),K (.bool true) U->VCalled P f [] U K):OkC P f (W0 (.nil:AL Unit) (λ_=>True) (λ_=>.val .bo true) (λ_=>[])):=by
 intro ap eY U args vs c v bs au hs hv bM hc;unfold W0 at hs;split at hs
 .rename_i d hd;obtain⟨rfl,rfl,rfl⟩:=(by simpa using hs:True=c/\SV.val .bo true=v/\[]=bs);have:vs=[]:=by
   cases args with
   |nil=>simpa [SRs] using au
   |cons a l=>simp[AL.dec] at hd
  subst this;refine⟨h U _ OJ,λ_ _=>h U _ ⟨rfl,?_⟩⟩;unfold Hp;cases U;simp only[List.length_nil,zN,List.getElem?_nil,Option.bind_none,Heap.mk.injEq,and_true];funext i;split
  .rfl
  .rename_i wf hi;exact wf i (by simpa using hi)
 .cases hs
end Go.V
namespace Go.V
open Go Go.RowKit
theorem VCalled.q2h {P:Program}{f:FuncId}{args:List Value}{v:Value}{U:Heap}{K:Value->Heap->Prop}(he:Jj P f) (ha:args.all QM=true) (hv:QM v=true)
  (h:∀ w,Calls P f args.toArray w λe w'=>e=.returned v/\Below w.heap.size w w') (hK:K v U):VCalled P f args U K:=by
 intro ρ w aq hH hL;have hc:aq=args.toArray:=by
  apply Array.ext';apply zK;intro i;cases hi:aq.toList[i]? with
  |none =>have:=List.getElem?_eq_none_iff.1 hi;rw[<-hL.1] at this;rw[zD (by simpa using this)]
  |some c =>have af:=(zu.1 hi).1;rw[<-hL.1] at af;have h1:=hL.2 i args[i] c (z8 af) hi;rw[Yg (zf.1 ha _ (zi af)) h1];simp[z8 af]
 subst hc;refine .inl ⟨λw=>K2 he _ w,(h w).mono λe w' ⟨he,hb⟩=>⟨v,he,v,ρ,U,hK,X1 hv,hH.world hb.size (λi p hp=>hb.block _ (hH.lt i p hp)) (λg cs hg=>hb.block _ (hH.tab.lt hg)),?_⟩⟩;exact⟨hb.os,hb.tape,hb.output,hb.size,λB hB _=>hb.block B hB,λ_ _ h=>h,zd _,λ_ _ _ h=>h⟩
theorem IF {P:Program}{U:Heap}{v:SV}{u:Value}(h:SR P hNil Xl Jp v u):Ret P U v [] u U :=
 ⟨⟨.refl _,Dead.refl _⟩,λ_=>rfl,Xl,λj b hj=>by simp at hj,λj j' i hj=>by simp at hj,h⟩
theorem Q0l (U:Heap):Hp U []=U:=by
 unfold Hp;cases U;simp only[List.length_nil,zN,List.getElem?_nil,Option.bind_none,Heap.mk.injEq,and_true];funext i;split
 .rfl
 .rename_i wf hi;exact(wf i (by simpa using hi)).symm
theorem Q0u {P:Program}{f:Nat}{pre:List UInt8×List UInt8->Prop}{res:List UInt8×List UInt8->List UInt8}(he:Jj P f)
  (h:∀ a b,pre (a,b)->∀ w,Calls P f #[.string ⟨a.toArray⟩,.string ⟨b.toArray⟩] w λe w'=>e=.returned (.string ⟨(res (a,b)).toArray⟩)/\Below w.heap.size w w') :
  OkC P f (W0 (.cons (.k .st) (.one (.k .st))) pre (λd=>.val .st (res d)) (λ_=>[])):=by
 intro ap eY U args vs c v bs au hs hv bM hc;unfold W0 at hs;split at hs
 .rename_i d hd;obtain⟨rfl,rfl,rfl⟩:=(by simpa using hs:pre d=c/\SV.val .st (res d)=v/\[]=bs)
  match args,au,hd with
  |[],_,hd=>simp[AL.dec] at hd
  |[a],_,hd=>simp[AL.dec] at hd
  |a::b::x::l,_,hd=>simp[AL.dec] at hd
  |[a,b],au,hd =>
   simp only[AL.dec] at hd;split at hd
   .rename_i x y hx hy;obtain rfl:=osj hd;obtain⟨u1,sx,rfl,s1,au⟩:=au;obtain⟨u2,iR,rfl,s2,au⟩:=au;have au:iR=[]:=au;subst au;have k1:KC U .st x [u1]:=QE (k:=.st) hx ⟨u1,[],rfl,s1,rfl⟩;have k2:KC U .st y [u2]:=QE (k:=.st) hy ⟨u2,[],rfl,s2,rfl⟩;have e1:u1=.string ⟨x.toArray⟩:=by simpa [KC] using k1
    have e2:u2=.string ⟨y.toArray⟩:=by simpa [KC] using k2
    subst e1;subst e2;have aA:∀ K:Value->Heap->Prop,K (.string ⟨(res (x,y)).toArray⟩) U->VCalled P f [.string ⟨x.toArray⟩,.string ⟨y.toArray⟩] U K:=λK hK =>
     VCalled.q2h he rfl rfl (h x y hc) hK
    refine⟨aA _ (IF (by simp[SR,KC])),λ_ _=>aA _ ⟨?_,(Q0l U).symm⟩⟩;simp[Km,Sb]
   .cases hd
 .cases hs
end Go.V
namespace Go.Proofs.Tryd
open Go Go.V Go.Proofs
theorem OT {KK:Kind}{V:Type}(hk:∀ a b:KK.T,gq.keq KK a b=true<->a=b) (k:KK.T) (v:V) (e:KK.T) (d:V):∀ m:List (KK.T×V),(e=k->gq.aget KK (XZ KK m k v) e d=v/\gq.ahas KK (XZ KK m k v) e=true)/\(e≠k->gq.aget KK (XZ KK m k v) e d=gq.aget KK m e d/\gq.ahas KK (XZ KK m k v) e=gq.ahas KK m e)
 |[]=>by
  refine⟨λh=>?_,λh=>?_⟩
  .subst h;have:=(hk e e).2 rfl;exact⟨by show (if gq.keq KK e e=true then v else d)=v;rw[z7 this],by show (gq.keq KK e e||false)=true;rw[this];rfl⟩
  .have:gq.keq KK e k=false:=by
    cases h2:gq.keq KK e k with
    |false=>rfl
    |true=>exact(h ((hk e k).1 h2)).elim
   exact⟨by show (if gq.keq KK e k=true then v else d)=d;rw[this,z6 (by decide)],by show (gq.keq KK e k||false)=false;rw[this];rfl⟩
 |(a,b)::m=>by
  obtain⟨i1,i2⟩:=OT hk k v e d m;have eP:XZ KK ((a,b)::m) k v=if gq.keq KK k a=true then (k,v)::m else (a,b)::XZ KK m k v:=rfl
  have eG:∀ (a:KK.T) (b:V) m,gq.aget KK ((a,b)::m) e d=if gq.keq KK e a=true then b else gq.aget KK m e d:=λ_ _ _=>rfl
  have eH:∀ (a:KK.T) (b:V) m,gq.ahas KK ((a,b)::m) e=(gq.keq KK e a||gq.ahas KK m e):=λ_ _ _=>rfl;rw[eP];by_cases c:gq.keq KK k a=true
  .have ca:=(hk k a).1 c;rw[z7 c];refine⟨λh=>?_,λh=>?_⟩
   .subst h;have:=(hk e e).2 rfl;rw[eG,eH,this,z7 rfl];exact⟨rfl,rfl⟩
   .have:gq.keq KK e k=false:=by
     cases h2:gq.keq KK e k with
     |false=>rfl
     |true=>exact(h ((hk e k).1 h2)).elim
    rw[eG,eH,eG,eH,<-ca,this];exact⟨rfl,rfl⟩
  .rw[z6 c];refine⟨λh=>?_,λh=>?_⟩
   .have:gq.keq KK e a=false:=by
     cases h2:gq.keq KK e a with
     |false=>rfl
     |true=>rw[h] at h2;exact(c h2).elim
    rw[eG,eH,this,z6 (by decide)];obtain⟨j1,j2⟩:=i1 h;exact⟨j1,by rw[j2];rfl⟩
   .obtain⟨j1,j2⟩:=i2 h;rw[eG,eH,eG,eH,j1,j2];exact⟨rfl,rfl⟩
def Q3f (c:List (List UInt8)) (w:Nat):List UInt8:=c.map λs=>s.getD w 0
def YC (c:List (List UInt8)) (n:Nat):List (List UInt8):=(List.range n).map (Q3f c)
def Oz (s:List UInt8):Bool:=s.all λb=>b==120||b==46
def Qv (hk:Int) (lw:List Int) (hd:Int) (rows:List Int) (c:List (List UInt8)):Int:=if Qa hk lw hd rows≠0 then Qa hk lw hd rows else if (c.length:Int)≠rows.length\/(c.any λs=>decide ((s.length:Int)≠lw.length)||!Oz s)=true then 4 else 0
def eyF (lw rows:List Int):List (List UInt8):=YC (rows.map (QP lw)) lw.length
def waF (lw:List Int) (c:List (List UInt8)):List (List UInt8):=YC c lw.length
abbrev SMp:=List (List UInt8×Int)
abbrev IMp:=List (Int×Int)
def Q2k (m:SMp) (c:List UInt8):SMp:=XZ .st m c (gq.aget .st m c 0+1)
def Q7y (m:SMp) (c:List UInt8):SMp:=XZ .st m c (gq.aget .st m c 0-1)
def Q2q (m:IMp) (c:Int):IMp:=XZ (.i .i64) m c (gq.aget (.i .i64) m c 0+1)
def Ob (m:IMp) (c:Int):IMp:=XZ (.i .i64) m c (gq.aget (.i .i64) m c 0-1)
def eyM (ey:List (List UInt8)):Nat->SMp
 |0=>[]
 |i+1=>Q2k (eyM ey i) (ey.getD i [])
def lfM (ey wa:List (List UInt8)):Nat->SMp
 |0=>[]
 |i+1=>Q7y (Q2k (lfM ey wa i) (ey.getD i [])) (wa.getD i [])
def okL (m:SMp):Bool:=m.all λe=>e.2==0
def okF (lw rows:List Int) (c:List (List UInt8)):Bool:=okL (lfM (eyF lw rows) (waF lw c) lw.length)
def X9 (hk:Int) (lw:List Int) (hd:Int) (rows:List Int) (c:List (List UInt8)):Int:=if Qv hk lw hd rows c≠0 then Qv hk lw hd rows c else if okF lw rows c=true then 0 else 9
def Qs (ey wa:List (List UInt8)) (w:Nat):Bool:=wa.getD w []==ey.getD w []
def MQ (lw:List Int):Nat->IMp
 |0=>[]
 |k+1=>Q2q (MQ lw k) (lw.getD k 0)
def Ct (lw:List Int) (ey wa:List (List UInt8)):Nat->IMp
 |0=>[]
 |k+1=>if Qs ey wa k=true then Q2q (Ct lw ey wa k) (lw.getD k 0) else Ct lw ey wa k
def wrF (ey wa:List (List UInt8)):Nat->Int
 |0=>0
 |k+1=>if Qs ey wa k=true then wrF ey wa k else wrF ey wa k+1
abbrev FSt:=List Int×IMp×IMp×List (Int×Bool)
def AZ (lw:List Int) (ey wa:List (List UInt8)) (w:Nat) (s:FSt) (e:Nat):Bool:=!(gq.aget (.i .i64) s.2.2.2 (e:Int) false)&&(if Qs ey wa w=true then lw.getD e 0==lw.getD w 0 else (ey.getD e []==wa.getD w []&&decide (gq.aget (.i .i64) s.2.1 (lw.getD e 0) 0 > gq.aget (.i .i64) s.2.2.1 (lw.getD e 0) 0)))
def Q1a (lw:List Int) (ey wa:List (List UInt8)) (w:Nat) (s:FSt) (e:Nat):FSt:=(s.1++[(e:Int)],Ob s.2.1 (lw.getD e 0),if Qs ey wa w=true then Ob s.2.2.1 (lw.getD e 0) else s.2.2.1,XZ (.i .i64) s.2.2.2 (e:Int) true)
def NB (lw:List Int) (ey wa:List (List UInt8)):Nat->FSt
 |0=>([],MQ lw lw.length,Ct lw ey wa lw.length,[])
 |k+1=>match (List.range lw.length).find? (AZ lw ey wa k (NB lw ey wa k)) with
  |some e=>Q1a lw ey wa k (NB lw ey wa k) e
  |none=>NB lw ey wa k
def O2 (lw:List Int) (ey wa:List (List UInt8)):List Int:=(NB lw ey wa lw.length).1
def JV:Nat->Int
 |0=>1
 |n+1=>JV n*((n:Int)+1)
def Bx:SMp->Int
 |[]=>1
 |e::m=>Bx m*JV e.2.toNat
def Ja (hk:Int) (lw:List Int) (hd:Int) (rows:List Int) (c:List (List UInt8)):Int:=if Qv hk lw hd rows c≠0 then Qv hk lw hd rows c else if okF lw rows c=true/\1000000000000<Bx (eyM (eyF lw rows) lw.length) then 8 else 0
def fHk (hk:Int) (lw:List Int) (hd:Int) (rows:List Int) (c:List (List UInt8)):Int:=if Qv hk lw hd rows c=0 then hk else 0
def fLw (hk:Int) (lw:List Int) (hd:Int) (rows:List Int) (c:List (List UInt8)):List Int:=if Qv hk lw hd rows c=0 then lw else []
def fEy (hk:Int) (lw:List Int) (hd:Int) (rows:List Int) (c:List (List UInt8)):List (List UInt8):=if Qv hk lw hd rows c=0 then eyF lw rows else []
def fWa (hk:Int) (lw:List Int) (hd:Int) (rows:List Int) (c:List (List UInt8)):List (List UInt8):=if Qv hk lw hd rows c=0 then waF lw c else []
def GK (hk:Int) (lw:List Int) (hd:Int) (rows:List Int) (c:List (List UInt8)):Int:=if X9 hk lw hd rows c=0 then wrF (eyF lw rows) (waF lw c) lw.length else 0
def Kn (hk:Int) (lw:List Int) (hd:Int) (rows:List Int) (c:List (List UInt8)):List Int:=if X9 hk lw hd rows c=0 then O2 lw (eyF lw rows) (waF lw c) else []
def CX (hk:Int) (lw:List Int) (hd:Int) (rows:List Int) (c:List (List UInt8)):Int:=if Ja hk lw hd rows c=0/\okF lw rows c=true then Bx (eyM (eyF lw rows) lw.length) else 0
theorem Pv (c:List (List UInt8)) (n:Nat):(YC c n).length=n:=by simp[YC]
theorem SH (c:List (List UInt8)) {n w:Nat}(h:w<n):(YC c n).getD w []=Q3f c w:=by simp[YC,ze,h]
theorem Iw (lw rows:List Int):(eyF lw rows).length=lw.length:=Pv _ _
theorem Oq (lw:List Int) (c:List (List UInt8)):(waF lw c).length=lw.length:=Pv _ _
theorem Q3g (a b:List UInt8):gq.keq .st a b=true<->a=b:=by show (a==b)=true<->_;exact zr
theorem Q8g (a b:Int):gq.keq (.i .i64) a b=true<->a=b:=by show (a==b)=true<->_;exact zr
theorem agS (m:SMp) (k:List UInt8) (v:Int) (e:List UInt8):gq.aget .st (XZ .st m k v) e 0=if e=k then v else gq.aget .st m e 0:=by
 obtain⟨h1,h2⟩:=OT (KK:=.st) Q3g k v e (0:Int) m;by_cases h:e=k
 .rw[z7 h];exact(h1 h).1
 .rw[z6 h];exact(h2 h).1
theorem agI (m:IMp) (k:Int) (v:Int) (e:Int):gq.aget (.i .i64) (XZ (.i .i64) m k v) e 0=if e=k then v else gq.aget (.i .i64) m e 0:=by
 obtain⟨h1,h2⟩:=OT (KK:=.i .i64) Q8g k v e (0:Int) m;by_cases h:e=k
 .rw[z7 h];exact(h1 h).1
 .rw[z6 h];exact(h2 h).1
theorem agB (m:List (Int×Bool)) (k:Int) (v:Bool) (e:Int):gq.aget (.i .i64) (XZ (.i .i64) m k v) e false=if e=k then v else gq.aget (.i .i64) m e false:=by
 obtain⟨h1,h2⟩:=OT (KK:=.i .i64) Q8g k v e false m;by_cases h:e=k
 .rw[z7 h];exact(h1 h).1
 .rw[z6 h];exact(h2 h).1
def XH (p:Nat->Bool) (n:Nat):Int:=(((List.range n).countP p:Nat):Int)
theorem Zv (p:Nat->Bool) (n:Nat):XH p (n+1)=XH p n+if p n=true then 1 else 0:=by unfold XH;rw[List.range_succ,List.countP_append,List.countP_singleton];split<;>simp
theorem QA (p:Nat->Bool) (n:Nat):0<=XH p n:=Int.natCast_nonneg _
theorem XI (p:Nat->Bool) (n:Nat):XH p n<=n:=by unfold XH;have:=List.countP_le_length (p:=p) (l:=List.range n);rw[List.length_range] at this;omega
theorem HI (ey:List (List UInt8)) (e:List UInt8):∀ i,gq.aget .st (eyM ey i) e 0=XH (λj=>e==ey.getD j []) i
 |0=>rfl
 |i+1=>by
  rw[eyM,Q2k,agS,Zv,HI ey e i];by_cases h:e=ey.getD i []
  .rw[z7 h,z7 (by rw[h];exact beq_self_eq_true _),<-h,HI ey e i]
  .rw[z6 h,z6 (by rw[zr];exact h)];omega
theorem A5 (ey wa:List (List UInt8)) (e:List UInt8) (i:Nat) (ih:gq.aget .st (lfM ey wa i) e 0=XH (λj=>e==ey.getD j []) i-XH (λj=>e==wa.getD j []) i):gq.aget .st (Q2k (lfM ey wa i) (ey.getD i [])) e 0=XH (λj=>e==ey.getD j []) (i+1)-XH (λj=>e==wa.getD j []) i:=by
 rw[Q2k,agS,Zv];by_cases h:e=ey.getD i []
 .rw[z7 h,z7 (by rw[h];exact beq_self_eq_true _),<-h,ih];omega
 .rw[z6 h,z6 (by rw[zr];exact h),ih];omega
theorem NU (ey wa:List (List UInt8)):∀ (i:Nat) (e:List UInt8),gq.aget .st (lfM ey wa i) e 0=XH (λj=>e==ey.getD j []) i-XH (λj=>e==wa.getD j []) i
 |0,e=>rfl
 |i+1,e=>by
  have ih:=λe=>A5 ey wa e i (NU ey wa i e);rw[lfM,Q7y,agS,Zv (λj=>e==wa.getD j [])];by_cases h:e=wa.getD i []
  .rw[z7 h,z7 (by rw[h];exact beq_self_eq_true _),<-h,ih];omega
  .rw[z6 h,z6 (by rw[zr];exact h),ih];omega
theorem Ag (m:IMp) (c e:Int):gq.aget (.i .i64) (Q2q m c) e 0=gq.aget (.i .i64) m e 0+if e=c then 1 else 0:=by
 rw[Q2q,agI];by_cases h:e=c
 .rw[z7 h,z7 h,h]
 .rw[z6 h,z6 h];omega
theorem Vh (m:IMp) (c e:Int):gq.aget (.i .i64) (Ob m c) e 0=gq.aget (.i .i64) m e 0-if e=c then 1 else 0:=by
 rw[Ob,agI];by_cases h:e=c
 .rw[z7 h,z7 h,h]
 .rw[z6 h,z6 h];omega
theorem UR (lw:List Int) (h:Int):∀ k,gq.aget (.i .i64) (MQ lw k) h 0=XH (λj=>h==lw.getD j 0) k
 |0=>rfl
 |k+1=>by rw[MQ,Ag,Zv,UR lw h k];simp only[zr]
theorem UX (lw:List Int) (ey wa:List (List UInt8)) (h:Int):∀ k,gq.aget (.i .i64) (Ct lw ey wa k) h 0=XH (λj=>Qs ey wa j&&h==lw.getD j 0) k
 |0=>rfl
 |k+1=>by
  rw[Ct,Zv];by_cases c:Qs ey wa k=true
  .rw[z7 c,Ag,UX lw ey wa h k,c,Bool.true_and];simp only[zr]
  .rw[z6 c,UX lw ey wa h k];simp only[x3] at c;simp[c]
theorem Ck (ey wa:List (List UInt8)):∀ k,wrF ey wa k=XH (λj=>!Qs ey wa j) k
 |0=>rfl
 |k+1=>by
  rw[wrF,Zv,Ck ey wa k];by_cases c:Qs ey wa k=true
  .simp[c]
  .simp only[x3] at c;simp[c]
theorem Ij (lw:List Int) (ey wa:List (List UInt8)):∀ k,(NB lw ey wa k).1.length<=k/\∀ h,(-(k:Int)<=gq.aget (.i .i64) (NB lw ey wa k).2.1 h 0/\gq.aget (.i .i64) (NB lw ey wa k).2.1 h 0<=lw.length)/\-(k:Int)<=gq.aget (.i .i64) (NB lw ey wa k).2.2.1 h 0/\gq.aget (.i .i64) (NB lw ey wa k).2.2.1 h 0<=lw.length
 |0=>by refine⟨zd _,λh=>?_⟩;show (_<=gq.aget (.i .i64) (MQ lw lw.length) h 0/\gq.aget (.i .i64) (MQ lw lw.length) h 0<=_)/\_<=gq.aget (.i .i64) (Ct lw ey wa lw.length) h 0/\gq.aget (.i .i64) (Ct lw ey wa lw.length) h 0<=_;rw[UR,UX];have:=QA (λj=>h==lw.getD j 0) lw.length;have:=XI (λj=>h==lw.getD j 0) lw.length;have:=QA (λj=>Qs ey wa j&&h==lw.getD j 0) lw.length;have:=XI (λj=>Qs ey wa j&&h==lw.getD j 0) lw.length;omega
 |k+1=>by
  obtain⟨h1,h2⟩:=Ij lw ey wa k;rw[NB];split
  .rename_i e _;refine⟨by simp only[Q1a,zF,zl];omega,λh=>?_⟩;have:=h2 h;simp only[Q1a];rw[Vh];refine⟨by split<;>omega,?_⟩;split
   .rw[Vh];split<;>omega
   .omega
  .exact⟨by omega,λh=>by have:=h2 h;omega⟩
theorem FG {lw:List Int}{ey wa:List (List UInt8)}{k e:Nat}(he:e<lw.length) (hf:AZ lw ey wa k (NB lw ey wa k) e=true) (hn:∀ j,j<e->AZ lw ey wa k (NB lw ey wa k) j=false):NB lw ey wa (k+1)=Q1a lw ey wa k (NB lw ey wa k) e:=by rw[NB,List.find?_range_eq_some.2 ⟨hf,x5.2 he,λj hj=>by rw[hn j hj];rfl⟩]
theorem Iu {lw:List Int}{ey wa:List (List UInt8)}{k:Nat}(hn:∀ j,j<lw.length->AZ lw ey wa k (NB lw ey wa k) j=false):NB lw ey wa (k+1)=NB lw ey wa k:=by rw[NB,List.find?_range_eq_none.2 λj hj=>by rw[hn j hj];rfl]
theorem CM {hk:Int}{lw:List Int}{hd:Int}{rows:List Int}{c:List (List UInt8)}(h:Qv hk lw hd rows c=0):Qa hk lw hd rows=0/\c.length=rows.length/\∀ s∈c,s.length=lw.length/\Oz s=true:=by
 unfold Qv at h;split at h
 .contradiction
 .rename_i h1;split at h
  .cases h
  .rename_i h2;rw[not_or] at h2;refine⟨by omega,by omega,λs hs=>?_⟩;have:=xe.1 (x3 _▸h2.2) s hs;simp only[zw,zg,Bool.not_eq_true',not_or,Bool.not_eq_false,ne_eq,Decidable.not_not] at this;exact⟨by omega,this.2⟩
def pI:List Int->Int
 |[]=>1
 |x::l=>x*pI l
theorem HW:∀ a b:List Int,pI (a++b)=pI a*pI b
 |[],b=>(Int.one_mul _).symm
 |x::a,b=>by rw[xw,pI,HW a b,pI,Int.mul_assoc]
theorem IH {a b:List Int}(h:a.Perm b):pI a=pI b:=by
 induction h with
 |nil=>rfl
 |cons x _ ih=>rw[pI,ih,pI]
 |swap x y l=>simp only[pI];rw[<-Int.mul_assoc,Int.mul_comm y x,Int.mul_assoc]
 |trans _ _ h1 h2=>rw[h1,h2]
theorem AV:∀ {a:List Int},(∀ x∈a,1<=x)->1<=pI a
 |[],_=>Int.le_refl _
 |x::a,h=>by have h1:=h x (zQ ..);have h2:=AV λy hy=>h y (zT _ hy);have:1*1<=x*pI a:=Int.mul_le_mul h1 h2 (by omega) (by omega);rw[pI];omega
theorem YJ:∀ n,1<=JV n
 |0=>Int.le_refl _
 |n+1=>by have h1:=YJ n;have:1*1<=JV n*((n:Int)+1):=Int.mul_le_mul h1 (by omega) (by omega) (by omega);rw[JV];omega
theorem EA {m n:Nat}(h:m<=n):JV m<=JV n:=by
 induction h with
 |refl=>exact Int.le_refl _
 |step _ ih =>rename_i k _;have h1:=YJ k;have:JV k*1<=JV k*((k:Int)+1):=Int.mul_le_mul (Int.le_refl _) (by omega) (by omega) (by omega);rw[JV];omega
theorem RM:∀ m:SMp,Bx m=pI (m.map λe=>JV e.2.toNat)
 |[]=>rfl
 |e::m=>by rw[Bx,RM m,zW,pI,Int.mul_comm]
theorem At (m:SMp) {cG:List Nat}(i1:cG.Nodup) (i2:∀ r∈cG,r<m.length):pI (cG.map λr=>JV (m.getD r ([],0)).2.toNat)<=Bx m/\((∀ r,r<m.length->r∈cG)->pI (cG.map λr=>JV (m.getD r ([],0)).2.toNat)=Bx m):=by
 have e:Bx m=pI ((List.range m.length).map λr=>JV (m.getD r ([],0)).2.toNat):=by rw[RM];congr 1;apply List.ext_getElem (by simp);intro i h1 h2;simp only[xP] at h1;simp only[xM,List.getElem_range,Q7 h1]
 have p1:cG.Perm ((List.range m.length).filter λr=>decide (r∈cG)):=(wQ i1 (List.Nodup.sublist (List.filter_sublist) List.nodup_range)).2 λr=>by simp only[xW,x5,zg];exact⟨λh=>⟨i2 r h,h⟩,λh=>h.2⟩
 have p2:=List.filter_append_perm (λr=>decide (r∈cG)) (List.range m.length);rw[e,<-IH (p2.map _),xr,HW,<-IH (p1.map _)];have hp:∀ l:List Nat,1<=pI (l.map λr=>JV (m.getD r ([],0)).2.toNat):=λl=>AV λx hx=>by obtain⟨r,_,rfl⟩:=zM.1 hx;exact YJ _
 refine⟨?_,λhall=>?_⟩
 .have h1:=hp cG;have h2:=hp ((List.range m.length).filter λx=>!decide (x∈cG));have:=Int.mul_le_mul (Int.le_refl (pI (cG.map λr=>JV (m.getD r ([],0)).2.toNat))) h2 (by omega) (by omega);omega
 .have:((List.range m.length).filter λx=>!decide (x∈cG))=[]:=by
   rw[List.filter_eq_nil_iff];intro r hr;simp[hall r (x5.1 hr)]
  rw[this];simp[pI]
theorem SK:∀ {m:SMp}{k:List UInt8}{v:Int}{e:List UInt8×Int},e∈XZ .st m k v->e=(k,v)\/e∈m
 |[],k,v,e,h=>.inl (zI.1 h)
 |(a,b)::m,k,v,e,h=>by
  have h:e∈(if gq.keq .st k a=true then (k,v)::m else (a,b)::XZ .st m k v):=h;split at h
  .rcases zG.1 h with h|h
   .exact .inl h
   .exact .inr (zT _ h)
  .rcases zG.1 h with h|h
   .exact .inr (h▸zQ ..)
   .rcases SK h with h|h
    .exact .inl h
    .exact .inr (zT _ h)
theorem Q1o (ey:List (List UInt8)):∀ i,∀ e∈eyM ey i,1<=e.2/\e.2<=i
 |0,e,h=>by cases h
 |i+1,e,h=>by
  rcases SK h with h|h
  .subst h;dsimp only;rw[HI];have:=QA (λj=>ey.getD i []==ey.getD j []) i;have:=XI (λj=>ey.getD i []==ey.getD j []) i;omega
  .have:=Q1o ey i e h;omega
def PA:AL (List UInt8×List UInt8):=(.cons (.k .st) (.one (.k .st)))
def Bh (d:List UInt8×List UInt8):Prop:=d.1.length<=1000000/\(d.2:List UInt8).length<=1000/\(d.2:List UInt8).all (λb=>decide (b.toNat<128))=true
def B8 (d:List UInt8×List UInt8):SV:=.val .st (Lib.trimS d.1 d.2)
def Bk (d:List UInt8×List UInt8):List OB:=[]
def No:CSp:=W0 PA Bh B8 Bk
abbrev BZ:Prop:=OkC Tryd.prog 47 No
theorem BO:BZ:=Q0u fun47.enterable λa b h w=>by obtain⟨h1,h2,h3⟩:=h;dsimp only at h1 h2 h3;exact Any.strings_Trim_laid Tryd.lays160 (by kernel_rfl) ⟨a.toArray⟩ ⟨b.toArray⟩ w (by show a.toArray.size<=_;simp;omega) (by show b.toArray.size<_;simp;omega) (ascii_of_all h3)
def ZR:AL (List (List UInt8)×((List UInt8->Prop)×(List UInt8->Bool))):=(.cons (.k (.list .st)) (.one (.fn [.st] .bo)))
def Xx (d:List (List UInt8)×((List UInt8->Prop)×(List UInt8->Bool))):Prop:=d.1.length<=1000000/\∀ x∈d.1,d.2.1 x
def ZB (d:List (List UInt8)×((List UInt8->Prop)×(List UInt8->Bool))):SV:=.val (.i .i64) (A9 d.1 d.2.2)
def ZC (d:List (List UInt8)×((List UInt8->Prop)×(List UInt8->Bool))):List OB:=[]
def QT:CSp:=W0 ZR Xx ZB ZC
def Qx (l:List (List UInt8)) (p:(List UInt8->Prop)×(List UInt8->Bool)):Prop :=
 ∃ (e2:Unit) (d20:Int),((l=l/\(SV.pf [.st] .bo p.1 p.2=SV.pf [.st] .bo p.1 p.2)/\(lI l)=(lI l)/\(0:Int)=d20/\True)/\(True)) /\
 LoopP (λ(d2:Int) (q2:(Int)->Prop) =>
  ((decide (d2<(lI l)))=true ->
   (0<=d2)/\(d2<(List.length l))/\(p.1 (gD l d2 []))/\((p.2 (gD l d2 []))=true ->
    (d2=(A9 l p.2)/\(True))) /\
   ((p.2 (gD l d2 []))=false ->
    (I64 (d2+(1:Int)))/\(∃ d3:Int,((l=l/\(SV.pf [.st] .bo p.1 p.2=SV.pf [.st] .bo p.1 p.2)/\(lI l)=(lI l)/\(d2+(1:Int))=d3/\True)/\(True))/\q2 d3))) /\
  ((decide (d2<(lI l)))=false ->
   ((-1:Int)=(A9 l p.2)/\(True)))) d20
def ZN:Cx:=⟨[],[],19,[],0,[],[],[],[],false,[],[],[],[]⟩
def XA (l:List (List UInt8)) (p:(List UInt8->Prop)×(List UInt8->Bool)):List (Nat×LoopAnn):=[(0,⟨Unit,Int,[0,1,7,8],λe x=>[.val (.list .st) l,.pf [.st] .bo p.1 p.2,.val (.i .i64) (((List.length l):Nat):Int),.val (.i .i64) x],λe x=>[]⟩)]
theorem XQ (d:List (List UInt8)×((List UInt8->Prop)×(List UInt8->Bool))):gwp (ZN) (XA d.1 d.2) c77 0 (WY [.tmp 4] (ZB d) (ZC d)) (Qk 19 (AL.can ZR d))=Qx d.1 d.2:=by kernel_rfl
abbrev XW:Prop:=OkC Tryd.prog 77 QT
theorem XK (h:∀ (l:List (List UInt8)) (p:(List UInt8->Prop)×(List UInt8->Bool)),(l.length<=1000000/\∀ x∈l,p.1 x)->Qx l p):OkC Tryd.prog 77 QT :=
 QF Q4a mixed (C:=ZN) (V:=λ(d:List (List UInt8)×((List UInt8->Prop)×(List UInt8->Bool)))=>Qx d.1 d.2) ⟨.nil,XsOk.nil,ItsOk.nil,YlOk.nil,IysOk.nil,XfOk.nil⟩ (XQ) λd hp=>h d.1 d.2 hp
theorem Xz:XW:=XK λl p hp=>by
 unfold Qx;(try delta lI gD sT I64 Q4 pj8 pj4);simp only[true_and,and_true,exists_eq_left',exists_const,zg,zk];refine LoopP.count l.length (λk=>(l.take k).any p.2=false) (by simp) λk bu hJ q hq=>?_;simp only[zh,Int.ofNat_lt,Zs];refine⟨λaf=>?_,λaZ=>?_⟩
 .have af:k<l.length:=by omega
  rw[Q7 af];refine⟨by omega,by omega,hp.2 _ (zi af),λhx=>?_,λhx=>⟨by omega,hq af ?_⟩⟩
  .rw[Lq af hx hJ]
  .rw[Qc af,List.any_append,hJ];simp[hx]
 .rw[zy (by omega)] at hJ;rw[Hj hJ]
def Zh:AL (List (List UInt8)×((List UInt8->Prop)×(List UInt8->Bool))):=(.cons (.k (.list .st)) (.one (.fn [.st] .bo)))
def JS (d:List (List UInt8)×((List UInt8->Prop)×(List UInt8->Bool))):Prop:=d.1.length<=1000000/\∀ x∈d.1,d.2.1 x
def Zb (d:List (List UInt8)×((List UInt8->Prop)×(List UInt8->Bool))):SV:=.val .bo (d.1.any d.2.2)
def Zc (d:List (List UInt8)×((List UInt8->Prop)×(List UInt8->Bool))):List OB:=[]
def QN:CSp:=W0 Zh JS Zb Zc
def Qp (l:List (List UInt8)) (p:(List UInt8->Prop)×(List UInt8->Bool)):Prop :=
 (l.length<=1000000/\∀ x∈l,(λ(x1:List UInt8)=>p.1 x1) x)/\((decide ((A9 l (λ(x1:List UInt8)=>(p.2 x1)))>=(0:Int)))=(l.any p.2)/\(True))
def Zg:Cx:=⟨[],[(77,QT)],9,[],0,[],[],[],[],false,[],[],[],[]⟩
def X5 (l:List (List UInt8)) (p:(List UInt8->Prop)×(List UInt8->Bool)):List (Nat×LoopAnn):=[]
theorem JZ (d:List (List UInt8)×((List UInt8->Prop)×(List UInt8->Bool))):gwp (Zg) (X5 d.1 d.2) c48 0 (WY [.tmp 4] (Zb d) (Zc d)) (Qk 9 (AL.can Zh d))=Qp d.1 d.2:=by kernel_rfl
abbrev X6:Prop:=OkC Tryd.prog 48 QN
theorem JY (h:∀ (l:List (List UInt8)) (p:(List UInt8->Prop)×(List UInt8->Bool)),(l.length<=1000000/\∀ x∈l,p.1 x)->Qp l p):OkC Tryd.prog 48 QN :=
 QF Q44 mixed (C:=Zg) (V:=λ(d:List (List UInt8)×((List UInt8->Prop)×(List UInt8->Bool)))=>Qp d.1 d.2) ⟨(.cons Xz .nil),XsOk.nil,ItsOk.nil,YlOk.nil,IysOk.nil,XfOk.nil⟩ (JZ) λd hp=>h d.1 d.2 hp
theorem JW:X6:=JY λl p hp=>by simp only[Qp];exact⟨hp,As l p.2,trivial⟩
def K8:AL (List UInt8×Int×List Int):=(.cons (.k .st) (.one (.ptr (.cons (.k (.i .i64)) (.one (.k (.list (.i .i64))))))))
def M9 (d:List UInt8×Int×List Int):Prop:=d.1.length<=1000000/\d.2.2.length<=1000000
def Yt (d:List UInt8×Int×List Int):SV:=.val .bo (decide ((d.1.length:Int)≠d.2.2.length)||!Oz d.1)
def YR (d:List UInt8×Int×List Int):List OB:=[]
def Wq:CSp:=W0 K8 M9 Yt YR
def Jw (s:List UInt8) (hk:Int) (lw:List Int):Prop :=
 (((lI s) != (lI lw))=false->s.length<=1000000/\([120,46]:List UInt8).length<=1000/\([120,46]:List UInt8).all (λb=>decide (b.toNat<128))=true)/\((((lI s) != (lI lw))||(!((Lib.trimS s [120,46])==[])))=(decide ((s.length:Int)≠lw.length)||!Oz s)/\(True))
def K5:Cx:=⟨[],[(47,No)],15,[],0,[],[],[],[],false,[],[],[],[]⟩
def MS (s:List UInt8) (hk:Int) (lw:List Int):List (Nat×LoopAnn):=[]
theorem MY (d:List UInt8×Int×List Int):gwp (K5) (MS d.1 d.2.1 d.2.2) c46 0 (WY [.tmp 3] (Yt d) (YR d)) (Qk 15 (AL.can K8 d))=Jw d.1 d.2.1 d.2.2:=by kernel_rfl
abbrev G0:Prop:=OkC Tryd.prog 46 Wq
theorem M_ (h:∀ (s:List UInt8) (hk:Int) (lw:List Int),(s.length<=1000000/\lw.length<=1000000)->Jw s hk lw):OkC Tryd.prog 46 Wq :=
 QF Q5l mixed (C:=K5) (V:=λ(d:List UInt8×Int×List Int)=>Jw d.1 d.2.1 d.2.2) ⟨(.cons BO .nil),XsOk.nil,ItsOk.nil,YlOk.nil,IysOk.nil,XfOk.nil⟩ (MY) λd hp=>h d.1 d.2.1 d.2.2 hp
theorem TT {p:UInt8->Bool}(l:List UInt8):l.dropWhile p=[]<->∀ x∈l,p x=true:=by
 induction l with
 |nil=>simp
 |cons a l ih=>cases h:p a<;>simp[List.dropWhile,h,ih]
theorem Q0w (s:List UInt8):(Lib.trimS s [120,46]==[])=Oz s:=by
 have hp:∀ b:UInt8,([120,46]:List UInt8).contains b=(b==120||b==46):=λb=>by rw[Bool.eq_iff_iff];simp[]
 rw[Bool.eq_iff_iff];simp only[Lib.trimS,Lib.trimLeftS,Lib.trimRightS,zr,Oz,zf,hp];rw[TT];simp only[List.mem_reverse];constructor
 .intro h x hx;have hx:x∈s.reverse:=List.mem_reverse.2 hx;rw[<-List.takeWhile_append_dropWhile (p:=λb=>b==120||b==46) (l:=s.reverse),x7] at hx;rcases hx with hx|hx
  .exact(zf.1 List.all_takeWhile) x hx
  .exact h x hx
 .intro h x hx;exact h x (List.mem_reverse.1 ((List.dropWhile_suffix _).mem hx))
theorem G4:G0:=M_ λs hk lw h=>by
 unfold Jw;(try delta lI gD sT I64 Q4 pj8 pj4)
 (try simp only[zg,zk])
 refine⟨λ_=>⟨h.1,by decide,by decide⟩,?_⟩;rw[Q0w];congr 1;rw[Bool.eq_iff_iff];simp
def Nt:AL (List (List UInt8)×Int):=(.cons (.k (.list .st)) (.one (.k (.i .i64))))
def HT (d:List (List UInt8)×Int):Prop:=d.1.length<=1000/\0<=d.2/\d.2<=1000/\∀ s∈d.1,d.2<=s.length
def UN (d:List (List UInt8)×Int):SV:=.lst 0
def Uj (d:List (List UInt8)×Int):List OB:=[.lst 80 .st (YC d.1 d.2.toNat) ((YC d.1 d.2.toNat).isEmpty)]
def Vr:CSp:=W0 Nt HT UN Uj
def Wy (c:List (List UInt8)) (n:Int):Prop :=
 ∃ (e3:Unit) (d30:(List (List UInt8))×Int),((c=c/\True/\n=n/\(0:Int)=d30.2/\True)/\((d30.1=[]/\(List.isEmpty d30.1)=true)/\True)) /\
 LoopP (λ(d3:(List (List UInt8))×Int) (q3:((List (List UInt8))×Int)->Prop) =>
  ((decide (d3.2<n))=true ->
   ∃ (e7:(List (List UInt8))×Int×Int) (d70:Bool×(List Int)×Int),((c=c/\True/\d3.2=e7.2.1/\True/\n=n/\d3.2=e7.2.2/\c=c/\(lI c)=(lI c)/\(0:Int)=d70.2.2/\True)/\((d3.1=e7.1/\(List.isEmpty d3.1)=(List.isEmpty e7.1))/\(d70.1=false/\True/\(([]:List SV)=[]))/\(d70.2.1=[]/\(List.isEmpty d70.2.1)=true)/\True)) /\
   LoopP (λ(d7:Bool×(List Int)×Int) (q7:(Bool×(List Int)×Int)->Prop) =>
    ((decide (d7.2.2<(lI c)))=true ->
     (0<=d7.2.2)/\(d7.2.2<(List.length c))/\(0<=e7.2.1)/\(e7.2.1<(List.length (gD c d7.2.2 [])))/\∀ w8:List Value,∀ w9:List Value,((!d7.1)=true ->
      w9=w9/\(((List.length d7.2.1)+(List.length [((UInt8.toNat (gD (gD c d7.2.2 []) e7.2.1 0):Nat):Int)]))*1<=70368744177664)/\w8=w8/\(I64 (d7.2.2+(1:Int)))/\(∃ d10:Bool×(List Int)×Int,((c=c/\True/\e7.2.1=e7.2.1/\True/\n=n/\e7.2.2=e7.2.2/\c=c/\(lI c)=(lI c)/\(d7.2.2+(1:Int))=d10.2.2/\True)/\((e7.1=e7.1/\(List.isEmpty e7.1)=(List.isEmpty e7.1))/\(d10.1=true/\True/\(([]:List SV)=[]))/\((d7.2.1++[((UInt8.toNat (gD (gD c d7.2.2 []) e7.2.1 0):Nat):Int)])=d10.2.1/\false=(List.isEmpty d10.2.1))/\True))/\q7 d10)) /\
     ((!d7.1)=false ->
      (d7.1=true)/\((!true)=true ->
       False) /\
      ((!true)=false ->
       w9=w9/\(((List.length d7.2.1)+(List.length [((UInt8.toNat (gD (gD c d7.2.2 []) e7.2.1 0):Nat):Int)]))*1<=70368744177664)/\w8=w8/\(I64 (d7.2.2+(1:Int)))/\(∃ d11:Bool×(List Int)×Int,((c=c/\True/\e7.2.1=e7.2.1/\True/\n=n/\e7.2.2=e7.2.2/\c=c/\(lI c)=(lI c)/\(d7.2.2+(1:Int))=d11.2.2/\True)/\((e7.1=e7.1/\(List.isEmpty e7.1)=(List.isEmpty e7.1))/\(d7.1=d11.1/\True/\(([]:List SV)=[]))/\((d7.2.1++[((UInt8.toNat (gD (gD c d7.2.2 []) e7.2.1 0):Nat):Int)])=d11.2.1/\false=(List.isEmpty d11.2.1))/\True))/\q7 d11)))) /\
    ((decide (d7.2.2<(lI c)))=false ->
     ∀ tC:List Value,((List.isEmpty d7.2.1)=false->d7.2.1≠[])/\((lI d7.2.1)=(List.length d7.2.1))/\((List.length d7.2.1)<=4611686018427387904)/\tC=tC/\(((List.length e7.1)+(List.length [(XM d7.2.1)]))*16<=70368744177664)/\(I64 (e7.2.2+(1:Int)))/\(∃ d13:(List (List UInt8))×Int,((c=c/\True/\n=n/\(e7.2.2+(1:Int))=d13.2/\True)/\(((e7.1++[(XM d7.2.1)])=d13.1/\false=(List.isEmpty d13.1))/\True))/\q3 d13))) d70) /\
  ((decide (d3.2<n))=false ->
   (True/\((d3.1=(YC c n.toNat)/\(List.isEmpty d3.1)=(YC c n.toNat).isEmpty)/\True)))) d30
def NO:Cx:=⟨[(5,(.i .u8)),(80,.st)],[],30,[],0,[(63,Zu),(83,QR),(89,Q0f),(66,J5)],[],[],[],false,[],[],[],[]⟩
def T4 (c:List (List UInt8)) (n:Int):List (Nat×LoopAnn):=[(0,⟨Unit,(List (List UInt8))×Int,[0,4,9,10],λe x=>[.val (.list .st) c,.lst 27,.val (.i .i64) n,.val (.i .i64) x.2],λe x=>[(27,.slot 4,.lst 80 .st x.1 (List.isEmpty x.1))]⟩),
 (2,⟨(List (List UInt8))×Int×Int,Bool×(List Int)×Int,[0,4,5,6,9,10,13,14,15],λe x=>[.val (.list .st) c,.lst 27,.val (.i .i64) e.2.1,.box 6 0,.val (.i .i64) n,.val (.i .i64) e.2.2,.val (.list .st) c,.val (.i .i64) (((List.length c):Nat):Int),.val (.i .i64) x.2.2],λe x=>[(27,.slot 4,.lst 80 .st e.1 (List.isEmpty e.1)),(6,.slot 6,.cells [.dd 6 (.obx x.1),.lst 2300014] (some 120)),(2300014,.cell 6 1,.lst 5 (.i .u8) x.2.1 (List.isEmpty x.2.1))]⟩)]
theorem PJ (d:List (List UInt8)×Int):gwp (NO) (T4 d.1 d.2) c49 0 (WY [.tmp 4] (UN d) (Uj d)) (Qk 30 (AL.can Nt d))=Wy d.1 d.2:=by kernel_rfl
abbrev T1:Prop:=OkC Tryd.prog 49 Vr
theorem PK (h:∀ (c:List (List UInt8)) (n:Int),(c.length<=1000/\0<=n/\n<=1000/\∀ s∈c,n<=s.length)->Wy c n):OkC Tryd.prog 49 Vr :=
 QF Q4j mixed (C:=NO) (V:=λ(d:List (List UInt8)×Int)=>Wy d.1 d.2) ⟨.nil,(XsOk.cons Jm (XsOk.cons Z9 (XsOk.cons (RN AG) (XsOk.cons JP XsOk.nil)))),ItsOk.nil,YlOk.nil,IysOk.nil,XfOk.nil⟩ (PJ) λd hp=>h d.1 d.2 hp
theorem IJ (c:List (List UInt8)) (w:Nat):XM (c.map λs=>(((s.getD w 0).toNat:Nat):Int))=Q3f c w:=by simp only[XM,Q3f,xY];refine zZ λs _=>?_;simp[Function.comp]
theorem T8:T1:=PK λc n h=>by
 obtain⟨h1,h2,gN,h3⟩:=h;obtain⟨n,rfl⟩:=zo h2;unfold Wy;(try delta lI gD sT I64 Q4 pj8 pj4);simp only[true_and,and_true,exists_const,zg,zk,ne_eq,Bool.not_eq_true',x9,zh,Zs];refine⟨([],0),(by and_intros<;>first|rfl|trivial|simp),?_⟩;refine⟨λd=>∃ i:Nat,i<=n/\d.2=i/\d.1=YC c i,λd=>n-d.2.toNat,⟨0,Nat.zero_le _,rfl,rfl⟩,?_⟩;rintro⟨cs,_⟩ ⟨w,hw,rfl,az⟩;dsimp only at az |-;subst az;have cf:=Pv c w;refine⟨λaf=>?_,λaZ=>?_⟩
 .have af:w<n:=by omega
  refine⟨(YC c w,(w:Int),(w:Int)),(false,[],0),(by and_intros<;>first|rfl|trivial|simp),?_⟩;refine⟨λd=>∃ i:Nat,i<=c.length/\d.2.2=i/\d.2.1=(c.take i).map λs=>(((s.getD w 0).toNat:Nat):Int),λd=>c.length-d.2.2.toNat,⟨0,Nat.zero_le _,rfl,by simp⟩,?_⟩;rintro⟨b,xs,_⟩ ⟨i,hi,rfl,aW⟩;dsimp only at aW |-;have du:xs.length=i:=by rw[aW];simp;omega
  refine⟨λb_=>?_,λaZ=>?_⟩
  .have b_:i<c.length:=by omega
   have hs:=h3 _ (zi b_);have hn:xs++[(((c[i].getD w 0).toNat:Nat):Int)]=(c.take (i+1)).map λs=>(((s.getD w 0).toNat:Nat):Int):=by rw[aW,Qc b_,xr];rfl
   simp only[zh,Q7 b_,zl];refine⟨by omega,by omega,by omega,by omega,λ_ w5=>⟨λhc=>?_,λhc=>?_⟩⟩
   .exact⟨by omega,by omega,(true,xs++[(((c[i].getD w 0).toNat:Nat):Int)],(i:Int)+1),(by and_intros<;>first|rfl|trivial|simp),⟨i+1,by omega,by simp,hn⟩,by dsimp only;omega⟩
   .refine⟨by simpa using hc,(λhf=>by first|cases hf|exact hf.elim),λ_=>?_⟩;exact⟨by omega,by omega,(b,xs++[(((c[i].getD w 0).toNat:Nat):Int)],(i:Int)+1),(by and_intros<;>first|rfl|trivial|simp),⟨i+1,by omega,by simp,hn⟩,by dsimp only;omega⟩
  .have:i=c.length:=by omega
   subst this;rw[List.take_length] at aW;rw[aW,IJ];refineλ_=>⟨?_,by rw[xP];omega,by simp only[zl];omega,by omega,(YC c (w+1),(w:Int)+1),?_,⟨w+1,by omega,by simp,rfl⟩,by dsimp only;omega⟩
   .intro aJ h0;rw[h0] at aJ;simp at aJ
   .simp[YC,List.range_succ]
 .have:w=n:=by omega
  subst this;simp
def VC:AL ((Int×List Int)×(Int×List Int)×List (List UInt8)):=(.cons (.agg (.cons (.k (.i .i64)) (.one (.k (.list (.i .i64)))))) (.cons (.agg (.cons (.k (.i .i64)) (.one (.k (.list (.i .i64)))))) (.one (.k (.list .st)))))
def GO (d:(Int×List Int)×(Int×List Int)×List (List UInt8)):Prop:=d.1.2.length<=110/\d.2.1.2.length<=110/\d.2.2.length<=110/\∀ s∈d.2.2,s.length<=1000000
def V0 (d:(Int×List Int)×(Int×List Int)×List (List UInt8)):SV:=.tup [.agg [.val (.i .i64) (fHk d.1.1 d.1.2 d.2.1.1 d.2.1.2 d.2.2),.val (.list (.i .i64)) (fLw d.1.1 d.1.2 d.2.1.1 d.2.1.2 d.2.2),.lst 0,.lst 1],.val (.i .i64) (Qv d.1.1 d.1.2 d.2.1.1 d.2.1.2 d.2.2)]
def KN (d:(Int×List Int)×(Int×List Int)×List (List UInt8)):List OB:=[.lst 80 .st (fEy d.1.1 d.1.2 d.2.1.1 d.2.1.2 d.2.2) ((fEy d.1.1 d.1.2 d.2.1.1 d.2.1.2 d.2.2).isEmpty),.lst 80 .st (fWa d.1.1 d.1.2 d.2.1.1 d.2.1.2 d.2.2) ((fWa d.1.1 d.1.2 d.2.1.1 d.2.1.2 d.2.2).isEmpty)]
def H_:CSp:=W0 VC GO V0 KN
def Xe (hk:Int) (lw:List Int) (hd:Int) (rows:List Int) (c:List (List UInt8)):Prop :=
 (lw.length<=1000000/\rows.length<=1000000)/\(((Qa hk lw hd rows) != (0:Int))=true ->
  ((((0:Int)=(fHk hk lw hd rows c)/\(fLw hk lw hd rows c)=[]/\True/\True/\(([]:List SV)=[]))/\(Qa hk lw hd rows)=(Qv hk lw hd rows c)/\(([]:List SV)=[]))/\(((fEy hk lw hd rows c)=[]/\(fEy hk lw hd rows c).isEmpty=true)/\((fWa hk lw hd rows c)=[]/\(fWa hk lw hd rows c).isEmpty=true)/\True))) /\
 (((Qa hk lw hd rows) != (0:Int))=false ->
  (((lI c) != (lI rows))=false->c.length<=1000000/\∀ x∈c,(λ(x1:List UInt8)=>x1.length<=1000000/\lw.length<=1000000) x)/\((((lI c) != (lI rows))||(c.any (λ(x1:List UInt8)=>(decide ((x1.length:Int)≠lw.length)||!Oz x1))))=true ->
   ((((0:Int)=(fHk hk lw hd rows c)/\(fLw hk lw hd rows c)=[]/\True/\True/\(([]:List SV)=[]))/\(4:Int)=(Qv hk lw hd rows c)/\(([]:List SV)=[]))/\(((fEy hk lw hd rows c)=[]/\(fEy hk lw hd rows c).isEmpty=true)/\((fWa hk lw hd rows c)=[]/\(fWa hk lw hd rows c).isEmpty=true)/\True))) /\
  ((((lI c) != (lI rows))||(c.any (λ(x1:List UInt8)=>(decide ((x1.length:Int)≠lw.length)||!Oz x1))))=false ->
   (lw.length<=110/\rows.length<=110)/\((Qf hk lw hd rows).length<=1000/\0<=(lI lw)/\(lI lw)<=1000/\∀ s∈(Qf hk lw hd rows),(lI lw)<=s.length)/\((YC (Qf hk lw hd rows) (lI lw).toNat).isEmpty=true->(YC (Qf hk lw hd rows) (lI lw).toNat)=[])/\(c.length<=1000/\0<=(lI lw)/\(lI lw)<=1000/\∀ s∈c,(lI lw)<=s.length)/\((YC c (lI lw).toNat).isEmpty=true->(YC c (lI lw).toNat)=[])/\(((hk=(fHk hk lw hd rows c)/\lw=(fLw hk lw hd rows c)/\True/\True/\(([]:List SV)=[]))/\(0:Int)=(Qv hk lw hd rows c)/\(([]:List SV)=[]))/\(((YC (Qf hk lw hd rows) (lI lw).toNat)=(fEy hk lw hd rows c)/\(YC (Qf hk lw hd rows) (lI lw).toNat).isEmpty=(fEy hk lw hd rows c).isEmpty)/\((YC c (lI lw).toNat)=(fWa hk lw hd rows c)/\(YC c (lI lw).toNat).isEmpty=(fWa hk lw hd rows c).isEmpty)/\True))))
def VL:Cx:=⟨[],[(23,XU),(48,QN),(46,Wq),(20,Vj),(49,Vr)],50,[],0,[],[],[],[],false,[],[],[],[]⟩
def Vx (hk:Int) (lw:List Int) (hd:Int) (rows:List Int) (c:List (List UInt8)):List (Nat×LoopAnn):=[]
theorem Be (d:(Int×List Int)×(Int×List Int)×List (List UInt8)):gwp (VL) (Vx d.1.1 d.1.2 d.2.1.1 d.2.1.2 d.2.2) c27 0 (WY [.cell 6 true 4,.tmp 7] (V0 d) (KN d)) (Qk 50 (AL.can VC d))=Xe d.1.1 d.1.2 d.2.1.1 d.2.1.2 d.2.2:=by kernel_rfl
def XR:XSp:=callV Q1h H_
abbrev Bm:Prop:=XOk Tryd.prog 27 XR
theorem Bb (h:∀ (hk:Int) (lw:List Int) (hd:Int) (rows:List Int) (c:List (List UInt8)),(lw.length<=110/\rows.length<=110/\c.length<=110/\∀ s∈c,s.length<=1000000)->Xe hk lw hd rows c):XOk Tryd.prog 27 XR :=
 OL Q4z mixed O7 (C:=VL) ⟨(.cons VN (.cons JW (.cons G4 (.cons DU (.cons T8 .nil))))),XsOk.nil,ItsOk.nil,YlOk.nil,IysOk.nil,XfOk.nil⟩ (L:=λ(d:(Int×List Int)×(Int×List Int)×List (List UInt8))=>Vx d.1.1 d.1.2 d.2.1.1 d.2.1.2 d.2.2) (V:=λ(d:(Int×List Int)×(Int×List Int)×List (List UInt8))=>Xe d.1.1 d.1.2 d.2.1.1 d.2.1.2 d.2.2) (Be) λd hp=>h d.1.1 d.1.2 d.2.1.1 d.2.1.2 d.2.2 hp
theorem KP:Bm:=Bb λhk lw hd rows c h=>by
 obtain⟨h1,h2,h3,h4⟩:=h;unfold Xe;(try delta lI gD sT I64 Q4 pj8 pj4);simp only[bne_iff_ne,ne_eq,bne_eq_false_iff_eq,zw,Bool.or_eq_false_iff];have ew:eyF lw rows=YC (rows.map (QP lw)) lw.length:=rfl;refine⟨⟨by omega,by omega⟩,λe=>?_,λe=>⟨λ_=>⟨by omega,λx hx=>⟨h4 x hx,by omega⟩⟩,λe2=>?_,λe2=>?_⟩⟩
 .have he:Qv hk lw hd rows c=Qa hk lw hd rows:=by unfold Qv;rw[z7 e]
  have hz:¬ Qv hk lw hd rows c=0:=by rw[he];exact e
  simp only[fHk,fLw,fEy,fWa,z6 hz];rw[he];simp
 .have he:Qv hk lw hd rows c=4:=by unfold Qv;rw[z6 (by simpa using e),z7 e2]
  have hz:¬ Qv hk lw hd rows c=0:=by rw[he];decide
  simp only[fHk,fLw,fEy,fWa,z6 hz];rw[he];simp
 .have he:Qv hk lw hd rows c=0:=by
   unfold Qv;rw[z6 (by simpa using e),z6 (by rw[not_or];exact⟨by simpa using e2.1,by rw[x3];exact e2.2⟩)]
  obtain⟨f1,f2,f3⟩:=CM he;have vU:Qf hk lw hd rows=rows.map (QP lw):=by rw[Qf,z7 e]
  have j6:∀ (l:List (List UInt8)),l.isEmpty=true->l=[]:=λl h=>List.isEmpty_iff.1 h;simp only[fHk,fLw,fEy,fWa,z7 he,vU,zh];refine⟨⟨by omega,by omega⟩,⟨by rw[xP];omega,by omega,by omega,λs hs=>?_⟩,j6 _,⟨by omega,by omega,by omega,λs hs=>by have:=(f3 s hs).1;omega⟩,j6 _,?_⟩
  .obtain⟨r,_,rfl⟩:=zM.1 hs;simp[QP]
  .rw[he];and_intros<;>first|rfl|trivial
def WR:AL ((Int×List Int×List (List UInt8)×List (List UInt8))×Int):=(.cons (.agg (.cons (.k (.i .i64)) (.cons (.k (.list (.i .i64))) (.cons (.k (.list .st)) (.one (.k (.list .st))))))) (.one (.k (.i .i64))))
def VQ (d:(Int×List Int×List (List UInt8)×List (List UInt8))×Int):Prop:=0<=d.2/\d.2<d.1.2.2.1.length/\d.2<d.1.2.2.2.length
def Wd (d:(Int×List Int×List (List UInt8)×List (List UInt8))×Int):SV:=.val .bo (Qs d.1.2.2.1 d.1.2.2.2 d.2.toNat)
def W8 (d:(Int×List Int×List (List UInt8)×List (List UInt8))×Int):List OB:=[]
def Z_:CSp:=W0 WR VQ Wd W8
def ZQ (hk:Int) (lw:List Int) (ey:List (List UInt8)) (wa:List (List UInt8)) (w:Int):Prop :=
 (0<=w)/\(w<(List.length wa))/\(0<=w)/\(w<(List.length ey))/\(((gD wa w [])==(gD ey w []))=(Qs ey wa w.toNat)/\(True))
def WB:Cx:=⟨[],[],16,[],0,[],[],[],[],false,[],[],[],[]⟩
def UQ (hk:Int) (lw:List Int) (ey:List (List UInt8)) (wa:List (List UInt8)) (w:Int):List (Nat×LoopAnn):=[]
theorem Uq (d:(Int×List Int×List (List UInt8)×List (List UInt8))×Int):gwp (WB) (UQ d.1.1 d.1.2.1 d.1.2.2.1 d.1.2.2.2 d.2) c29 0 (WY [.tmp 4] (Wd d) (W8 d)) (Qk 16 (AL.can WR d))=ZQ d.1.1 d.1.2.1 d.1.2.2.1 d.1.2.2.2 d.2:=by kernel_rfl
abbrev Uu:Prop:=OkC Tryd.prog 29 Z_
theorem UM (h:∀ (hk:Int) (lw:List Int) (ey:List (List UInt8)) (wa:List (List UInt8)) (w:Int),(0<=w/\w<ey.length/\w<wa.length)->ZQ hk lw ey wa w):OkC Tryd.prog 29 Z_ :=
 QF Q59 mixed (C:=WB) (V:=λ(d:(Int×List Int×List (List UInt8)×List (List UInt8))×Int)=>ZQ d.1.1 d.1.2.1 d.1.2.2.1 d.1.2.2.2 d.2) ⟨.nil,XsOk.nil,ItsOk.nil,YlOk.nil,IysOk.nil,XfOk.nil⟩ (Uq) λd hp=>h d.1.1 d.1.2.1 d.1.2.2.1 d.1.2.2.2 d.2 hp
theorem WA:Uu:=UM λhk lw ey wa w h=>by obtain⟨h1,h2,h3⟩:=h;unfold ZQ;(try delta lI gD sT I64 Q4 pj8 pj4);exact⟨h1,h3,h1,h2,rfl,trivial⟩
def Hz:AL ((Int×List Int)×(Int×List Int)×List (List UInt8)):=(.cons (.agg (.cons (.k (.i .i64)) (.one (.k (.list (.i .i64)))))) (.cons (.agg (.cons (.k (.i .i64)) (.one (.k (.list (.i .i64)))))) (.one (.k (.list .st)))))
def SA (d:(Int×List Int)×(Int×List Int)×List (List UInt8)):Prop:=d.1.2.length<=110/\d.2.1.2.length<=110/\d.2.2.length<=110/\∀ s∈d.2.2,s.length<=1000000
def DX (d:(Int×List Int)×(Int×List Int)×List (List UInt8)):SV:=.tup [.lst 0,.val (.i .i64) (GK d.1.1 d.1.2 d.2.1.1 d.2.1.2 d.2.2),.val (.i .i64) (X9 d.1.1 d.1.2 d.2.1.1 d.2.1.2 d.2.2)]
def Dn (d:(Int×List Int)×(Int×List Int)×List (List UInt8)):List OB:=[.lst 3 (.i .i64) (Kn d.1.1 d.1.2 d.2.1.1 d.2.1.2 d.2.2) ((Kn d.1.1 d.1.2 d.2.1.1 d.2.1.2 d.2.2).isEmpty)]
def GY:CSp:=W0 Hz SA DX Dn
def V9 (hk:Int) (lw:List Int) (hd:Int) (rows:List Int) (c:List (List UInt8)):Prop :=
 (lw.length<=110/\rows.length<=110/\c.length<=110/\∀ s∈c,s.length<=1000000)/\(((Qv hk lw hd rows c) != (0:Int))=true ->
  ((True/\(0:Int)=(GK hk lw hd rows c)/\(Qv hk lw hd rows c)=(X9 hk lw hd rows c)/\(([]:List SV)=[]))/\(((Kn hk lw hd rows c)=[]/\(Kn hk lw hd rows c).isEmpty=true)/\True))) /\
 (((Qv hk lw hd rows c) != (0:Int))=false ->
  ∀ w1:List Value,∃ (e4:Int×(List Int)×(List (List UInt8))×(List (List UInt8))×Int×Int×(List Int)×Int×(List Int)×(List (List UInt8))×Int×(List Int)×Int×(List Int)×Int×Int×Int×(List Int)×Int×(List Int)×Int×Int×(List Int)×Int×(List Int)×(List (List UInt8))×Int×(List Int)×Int×Int×(List Int)×Int×Int×Bool×Int×(List Int)×(List Value)) (d40:(List (List UInt8×Int))×(List (List UInt8×Int))×Int),((True/\True/\True/\True/\(lI (fEy hk lw hd rows c))=(pj4 e4).1/\(0:Int)=d40.2.2/\True)/\(((fHk hk lw hd rows c)=e4.1/\(fLw hk lw hd rows c)=e4.2.1/\True/\True/\(([]:List SV)=[]))/\((fEy hk lw hd rows c)=e4.2.2.1/\(fEy hk lw hd rows c).isEmpty=(List.isEmpty e4.2.2.1))/\((fWa hk lw hd rows c)=e4.2.2.2.1/\(fWa hk lw hd rows c).isEmpty=(List.isEmpty e4.2.2.2.1))/\(([]:List (List UInt8×Int))=d40.1)/\(([]:List (List UInt8×Int))=d40.2.1)/\((pj4 (Q4 (Q4 e4)))=w1/\((hk=(pj4 e4).2.1/\lw=(pj4 e4).2.2.1/\(([]:List SV)=[]))/\(hd=(pj4 e4).2.2.2.1/\rows=(pj8 e4).1/\(([]:List SV)=[]))/\c=(pj8 e4).2.1/\True/\True/\True/\True/\(0:Int)=(pj4 (pj8 e4)).2.2.1/\(Qv hk lw hd rows c)=(pj4 (pj8 e4)).2.2.2.1/\True/\True/\True/\True/\True/\True/\True/\True/\True/\True/\True/\True/\True/\(((fHk hk lw hd rows c)=(Q4 e4).2.2.1/\(fLw hk lw hd rows c)=(Q4 e4).2.2.2.1/\True/\True/\(([]:List SV)=[]))/\(Qv hk lw hd rows c)=(pj4 (Q4 e4)).1/\(([]:List SV)=[]))/\(hk=(pj4 (Q4 e4)).2.1/\lw=(pj4 (Q4 e4)).2.2.1/\(([]:List SV)=[]))/\(hd=(pj4 (Q4 e4)).2.2.2.1/\rows=(pj8 (Q4 e4)).1/\(([]:List SV)=[]))/\c=(pj8 (Q4 e4)).2.1/\(((fHk hk lw hd rows c)=(pj8 (Q4 e4)).2.2.1/\(fLw hk lw hd rows c)=(pj8 (Q4 e4)).2.2.2.1/\True/\True/\(([]:List SV)=[]))/\(Qv hk lw hd rows c)=(pj4 (pj8 (Q4 e4))).1/\(([]:List SV)=[]))/\((fHk hk lw hd rows c)=(pj4 (pj8 (Q4 e4))).2.1/\(fLw hk lw hd rows c)=(pj4 (pj8 (Q4 e4))).2.2.1/\True/\True/\(([]:List SV)=[]))/\(Qv hk lw hd rows c)=(pj4 (pj8 (Q4 e4))).2.2.2.1/\(Qv hk lw hd rows c)=(Q4 (Q4 e4)).1/\((Qv hk lw hd rows c) != (0:Int))=(Q4 (Q4 e4)).2.1/\True/\True/\((fHk hk lw hd rows c)=(Q4 (Q4 e4)).2.2.1/\(fLw hk lw hd rows c)=(Q4 (Q4 e4)).2.2.2.1/\True/\True/\(([]:List SV)=[]))/\True/\True/\True/\True/\True/\True/\True/\True/\True/\True/\True/\True/\True/\True/\True/\True/\True/\True/\True/\True/\True/\True/\True/\True/\True/\True/\True/\True/\True/\True/\True/\True/\True/\True/\True/\True/\True/\True/\True/\True/\True/\True/\True/\True/\True/\True/\True/\True/\True/\True/\True/\True/\True/\True/\True/\True/\True/\True/\True/\True/\True/\True/\True/\True/\True/\True/\True/\True/\True/\True/\True/\True/\(([]:List SV)=[])))/\(hk=(pj8 e4).2.2.1/\lw=(pj8 e4).2.2.2.1/\(([]:List SV)=[]))/\(hd=(pj4 (pj8 e4)).1/\rows=(pj4 (pj8 e4)).2.1/\(([]:List SV)=[]))/\((fHk hk lw hd rows c)=(Q4 e4).1/\(fLw hk lw hd rows c)=(Q4 e4).2.1/\True/\True/\(([]:List SV)=[]))/\True)) /\
  LoopP (λ(d4:(List (List UInt8×Int))×(List (List UInt8×Int))×Int) (q4:((List (List UInt8×Int))×(List (List UInt8×Int))×Int)->Prop) =>
   ((decide (d4.2.2<(pj4 e4).1))=true ->
    (0<=d4.2.2)/\(d4.2.2<(List.length e4.2.2.1))/\(I64 ((gq.aget .st d4.1 (gD e4.2.2.1 d4.2.2 []) 0)+(1:Int)))/\(I64 ((gq.aget .st d4.2.1 (gD e4.2.2.1 d4.2.2 []) 0)+(1:Int)))/\(0<=d4.2.2)/\(d4.2.2<(List.length e4.2.2.2.1))/\(I64 ((gq.aget .st (XZ .st d4.2.1 (gD e4.2.2.1 d4.2.2 []) ((gq.aget .st d4.2.1 (gD e4.2.2.1 d4.2.2 []) 0)+(1:Int))) (gD e4.2.2.2.1 d4.2.2 []) 0)-(1:Int)))/\(I64 (d4.2.2+(1:Int)))/\(∃ d5:(List (List UInt8×Int))×(List (List UInt8×Int))×Int,((True/\True/\True/\True/\(pj4 e4).1=(pj4 e4).1/\(d4.2.2+(1:Int))=d5.2.2/\True)/\((e4.1=e4.1/\e4.2.1=e4.2.1/\True/\True/\(([]:List SV)=[]))/\(e4.2.2.1=e4.2.2.1/\(List.isEmpty e4.2.2.1)=(List.isEmpty e4.2.2.1))/\(e4.2.2.2.1=e4.2.2.2.1/\(List.isEmpty e4.2.2.2.1)=(List.isEmpty e4.2.2.2.1))/\((XZ .st d4.1 (gD e4.2.2.1 d4.2.2 []) ((gq.aget .st d4.1 (gD e4.2.2.1 d4.2.2 []) 0)+(1:Int)))=d5.1)/\((XZ .st (XZ .st d4.2.1 (gD e4.2.2.1 d4.2.2 []) ((gq.aget .st d4.2.1 (gD e4.2.2.1 d4.2.2 []) 0)+(1:Int))) (gD e4.2.2.2.1 d4.2.2 []) ((gq.aget .st (XZ .st d4.2.1 (gD e4.2.2.1 d4.2.2 []) ((gq.aget .st d4.2.1 (gD e4.2.2.1 d4.2.2 []) 0)+(1:Int))) (gD e4.2.2.2.1 d4.2.2 []) 0)-(1:Int)))=d5.2.1)/\((pj4 (Q4 (Q4 e4)))=(pj4 (Q4 (Q4 e4)))/\(((pj4 e4).2.1=(pj4 e4).2.1/\(pj4 e4).2.2.1=(pj4 e4).2.2.1/\(([]:List SV)=[]))/\((pj4 e4).2.2.2.1=(pj4 e4).2.2.2.1/\(pj8 e4).1=(pj8 e4).1/\(([]:List SV)=[]))/\(pj8 e4).2.1=(pj8 e4).2.1/\True/\True/\True/\True/\(pj4 (pj8 e4)).2.2.1=(pj4 (pj8 e4)).2.2.1/\(pj4 (pj8 e4)).2.2.2.1=(pj4 (pj8 e4)).2.2.2.1/\True/\True/\True/\True/\True/\True/\True/\True/\True/\True/\True/\True/\True/\(((Q4 e4).2.2.1=(Q4 e4).2.2.1/\(Q4 e4).2.2.2.1=(Q4 e4).2.2.2.1/\True/\True/\(([]:List SV)=[]))/\(pj4 (Q4 e4)).1=(pj4 (Q4 e4)).1/\(([]:List SV)=[]))/\((pj4 (Q4 e4)).2.1=(pj4 (Q4 e4)).2.1/\(pj4 (Q4 e4)).2.2.1=(pj4 (Q4 e4)).2.2.1/\(([]:List SV)=[]))/\((pj4 (Q4 e4)).2.2.2.1=(pj4 (Q4 e4)).2.2.2.1/\(pj8 (Q4 e4)).1=(pj8 (Q4 e4)).1/\(([]:List SV)=[]))/\(pj8 (Q4 e4)).2.1=(pj8 (Q4 e4)).2.1/\(((pj8 (Q4 e4)).2.2.1=(pj8 (Q4 e4)).2.2.1/\(pj8 (Q4 e4)).2.2.2.1=(pj8 (Q4 e4)).2.2.2.1/\True/\True/\(([]:List SV)=[]))/\(pj4 (pj8 (Q4 e4))).1=(pj4 (pj8 (Q4 e4))).1/\(([]:List SV)=[]))/\((pj4 (pj8 (Q4 e4))).2.1=(pj4 (pj8 (Q4 e4))).2.1/\(pj4 (pj8 (Q4 e4))).2.2.1=(pj4 (pj8 (Q4 e4))).2.2.1/\True/\True/\(([]:List SV)=[]))/\(pj4 (pj8 (Q4 e4))).2.2.2.1=(pj4 (pj8 (Q4 e4))).2.2.2.1/\(Q4 (Q4 e4)).1=(Q4 (Q4 e4)).1/\(Q4 (Q4 e4)).2.1=(Q4 (Q4 e4)).2.1/\True/\True/\((Q4 (Q4 e4)).2.2.1=(Q4 (Q4 e4)).2.2.1/\(Q4 (Q4 e4)).2.2.2.1=(Q4 (Q4 e4)).2.2.2.1/\True/\True/\(([]:List SV)=[]))/\True/\True/\True/\True/\True/\True/\True/\True/\True/\True/\True/\True/\True/\True/\True/\True/\True/\True/\True/\True/\True/\True/\True/\True/\True/\True/\True/\True/\True/\True/\True/\True/\True/\True/\True/\True/\True/\True/\True/\True/\True/\True/\True/\True/\True/\True/\True/\True/\True/\True/\True/\True/\True/\True/\True/\True/\True/\True/\True/\True/\True/\True/\True/\True/\True/\True/\True/\True/\True/\True/\True/\True/\(([]:List SV)=[])))/\((pj8 e4).2.2.1=(pj8 e4).2.2.1/\(pj8 e4).2.2.2.1=(pj8 e4).2.2.2.1/\(([]:List SV)=[]))/\((pj4 (pj8 e4)).1=(pj4 (pj8 e4)).1/\(pj4 (pj8 e4)).2.1=(pj4 (pj8 e4)).2.1/\(([]:List SV)=[]))/\((Q4 e4).1=(Q4 e4).1/\(Q4 e4).2.1=(Q4 e4).2.1/\True/\True/\(([]:List SV)=[]))/\True))/\q4 d5)) /\
   ((decide (d4.2.2<(pj4 e4).1))=false ->
    ∃ (e8:(List (List UInt8×Int))×(List (List UInt8×Int))×Int×(List Int)×Int×(List Int)×(List (List UInt8))×Int×(List Int)×Int×(List Int)×Int×Int×Int×(List Int)×(List (List UInt8))×(List (List UInt8))×Int×(List Int)×Int×Int×(List Int)×Int×(List Int)×(List (List UInt8))×Int×(List Int)×Int×Int×(List Int)×Int×Int×Bool×Int×(List Int)×(List Value)) (d80:(List Nat)),((True/\True/\True)/\((d4.1=e8.1)/\(d4.2.1=e8.2.1/\([]:List Nat)=d80)/\((Q4 (Q4 e8)).2.2.2=(pj4 (Q4 (Q4 e4)))/\(((pj4 e4).2.1=e8.2.2.1/\(pj4 e4).2.2.1=e8.2.2.2.1/\(([]:List SV)=[]))/\((pj4 e4).2.2.2.1=(pj4 e8).1/\(pj8 e4).1=(pj4 e8).2.1/\(([]:List SV)=[]))/\(pj8 e4).2.1=(pj4 e8).2.2.1/\True/\True/\True/\True/\(pj4 (pj8 e4)).2.2.1=(pj8 e8).2.2.2.1/\(pj4 (pj8 e4)).2.2.2.1=(pj4 (pj8 e8)).1/\True/\True/\True/\True/\True/\True/\True/\True/\True/\True/\True/\True/\True/\(((Q4 e4).2.2.1=(Q4 e8).2.1/\(Q4 e4).2.2.2.1=(Q4 e8).2.2.1/\True/\True/\(([]:List SV)=[]))/\(pj4 (Q4 e4)).1=(Q4 e8).2.2.2.1/\(([]:List SV)=[]))/\((pj4 (Q4 e4)).2.1=(pj4 (Q4 e8)).1/\(pj4 (Q4 e4)).2.2.1=(pj4 (Q4 e8)).2.1/\(([]:List SV)=[]))/\((pj4 (Q4 e4)).2.2.2.1=(pj4 (Q4 e8)).2.2.1/\(pj8 (Q4 e4)).1=(pj4 (Q4 e8)).2.2.2.1/\(([]:List SV)=[]))/\(pj8 (Q4 e4)).2.1=(pj8 (Q4 e8)).1/\(((pj8 (Q4 e4)).2.2.1=(pj8 (Q4 e8)).2.1/\(pj8 (Q4 e4)).2.2.2.1=(pj8 (Q4 e8)).2.2.1/\True/\True/\(([]:List SV)=[]))/\(pj4 (pj8 (Q4 e4))).1=(pj8 (Q4 e8)).2.2.2.1/\(([]:List SV)=[]))/\((pj4 (pj8 (Q4 e4))).2.1=(pj4 (pj8 (Q4 e8))).1/\(pj4 (pj8 (Q4 e4))).2.2.1=(pj4 (pj8 (Q4 e8))).2.1/\True/\True/\(([]:List SV)=[]))/\(pj4 (pj8 (Q4 e4))).2.2.2.1=(pj4 (pj8 (Q4 e8))).2.2.1/\(Q4 (Q4 e4)).1=(pj4 (pj8 (Q4 e8))).2.2.2.1/\(Q4 (Q4 e4)).2.1=(Q4 (Q4 e8)).1/\True/\True/\((Q4 (Q4 e4)).2.2.1=(Q4 (Q4 e8)).2.1/\(Q4 (Q4 e4)).2.2.2.1=(Q4 (Q4 e8)).2.2.1/\True/\True/\(([]:List SV)=[]))/\True/\True/\True/\True/\True/\True/\True/\True/\True/\True/\True/\True/\True/\True/\True/\True/\True/\True/\True/\True/\True/\True/\True/\True/\True/\True/\True/\True/\True/\True/\True/\True/\True/\True/\True/\True/\True/\True/\True/\True/\True/\True/\True/\True/\True/\True/\True/\True/\True/\True/\True/\True/\True/\True/\True/\True/\True/\True/\True/\True/\True/\True/\True/\True/\True/\True/\True/\True/\True/\True/\True/\True/\(([]:List SV)=[])))/\((pj8 e4).2.2.1=(pj4 e8).2.2.2.1/\(pj8 e4).2.2.2.1=(pj8 e8).1/\(([]:List SV)=[]))/\((pj4 (pj8 e4)).1=(pj8 e8).2.1/\(pj4 (pj8 e4)).2.1=(pj8 e8).2.2.1/\(([]:List SV)=[]))/\((Q4 e4).1=(pj4 (pj8 e8)).2.1/\(Q4 e4).2.1=(pj4 (pj8 e8)).2.2.1/\True/\True/\(([]:List SV)=[]))/\(e4.2.2.1=(pj4 (pj8 e8)).2.2.2.1/\(List.isEmpty e4.2.2.1)=(List.isEmpty (pj4 (pj8 e8)).2.2.2.1))/\(e4.2.2.2.1=(Q4 e8).1/\(List.isEmpty e4.2.2.2.1)=(List.isEmpty (Q4 e8).1))/\True)) /\
    LoopP (λ(d8:(List Nat)) (q8:((List Nat))->Prop) =>
     ((∀ r:Nat,r<(List.length e8.2.1)->r∈d8) ->
      (Q4 (Q4 e8)).2.2.2=w1/\∃ (kg:Unit) (d120:Int×(List (Int×Int))×(List (Int×Int))×Int),((True/\True/\(pj8 e8).2.2.2.1=d120.1/\True/\True/\True/\True/\(pj8 e8).1=lw/\(lI (pj8 e8).1)=(lI lw)/\(0:Int)=d120.2.2.2/\True)/\(((pj4 e8).2.2.2.1=hk/\(pj8 e8).1=lw/\(([]:List SV)=[]))/\((pj4 (pj8 e8)).2.1=(fHk hk lw hd rows c)/\(pj4 (pj8 e8)).2.2.1=(fLw hk lw hd rows c)/\True/\True/\(([]:List SV)=[]))/\((pj4 (pj8 e8)).2.2.2.1=(fEy hk lw hd rows c)/\(List.isEmpty (pj4 (pj8 e8)).2.2.2.1)=(List.isEmpty (fEy hk lw hd rows c)))/\((Q4 e8).1=(fWa hk lw hd rows c)/\(List.isEmpty (Q4 e8).1)=(List.isEmpty (fWa hk lw hd rows c)))/\(True/\(([]:List SV)=[]))/\(([]:List (Int×Int))=d120.2.1)/\(True/\(([]:List SV)=[]))/\(([]:List (Int×Int))=d120.2.2.1)/\(True/\(([]:List SV)=[]))/\(([]:List (Int×Bool))=([]:List (Int×Bool)))/\True)) /\
      LoopP (λ(d12:Int×(List (Int×Int))×(List (Int×Int))×Int) (mI:(Int×(List (Int×Int))×(List (Int×Int))×Int)->Prop) =>
       ((decide (d12.2.2.2<(lI lw)))=true ->
        (0<=d12.2.2.2)/\(d12.2.2.2<(List.length lw))/\(I64 ((gq.aget (.i .i64) d12.2.1 (gD lw d12.2.2.2 0) 0)+(1:Int)))/\(0<=d12.2.2.2/\d12.2.2.2<(fEy hk lw hd rows c).length/\d12.2.2.2<(fWa hk lw hd rows c).length)/\((Qs (fEy hk lw hd rows c) (fWa hk lw hd rows c) d12.2.2.2.toNat)=true ->
         (I64 ((gq.aget (.i .i64) d12.2.2.1 (gD lw d12.2.2.2 0) 0)+(1:Int)))/\(I64 (d12.2.2.2+(1:Int)))/\(∃ d13:Int×(List (Int×Int))×(List (Int×Int))×Int,((True/\True/\d12.1=d13.1/\True/\True/\True/\True/\lw=lw/\(lI lw)=(lI lw)/\(d12.2.2.2+(1:Int))=d13.2.2.2/\True)/\((hk=hk/\lw=lw/\(([]:List SV)=[]))/\((fHk hk lw hd rows c)=(fHk hk lw hd rows c)/\(fLw hk lw hd rows c)=(fLw hk lw hd rows c)/\True/\True/\(([]:List SV)=[]))/\((fEy hk lw hd rows c)=(fEy hk lw hd rows c)/\(List.isEmpty (fEy hk lw hd rows c))=(List.isEmpty (fEy hk lw hd rows c)))/\((fWa hk lw hd rows c)=(fWa hk lw hd rows c)/\(List.isEmpty (fWa hk lw hd rows c))=(List.isEmpty (fWa hk lw hd rows c)))/\(True/\(([]:List SV)=[]))/\((XZ (.i .i64) d12.2.1 (gD lw d12.2.2.2 0) ((gq.aget (.i .i64) d12.2.1 (gD lw d12.2.2.2 0) 0)+(1:Int)))=d13.2.1)/\(True/\(([]:List SV)=[]))/\((XZ (.i .i64) d12.2.2.1 (gD lw d12.2.2.2 0) ((gq.aget (.i .i64) d12.2.2.1 (gD lw d12.2.2.2 0) 0)+(1:Int)))=d13.2.2.1)/\(True/\(([]:List SV)=[]))/\(([]:List (Int×Bool))=([]:List (Int×Bool)))/\True))/\mI d13)) /\
        ((Qs (fEy hk lw hd rows c) (fWa hk lw hd rows c) d12.2.2.2.toNat)=false ->
         (I64 (d12.1+(1:Int)))/\(I64 (d12.2.2.2+(1:Int)))/\(∃ d14:Int×(List (Int×Int))×(List (Int×Int))×Int,((True/\True/\(d12.1+(1:Int))=d14.1/\True/\True/\True/\True/\lw=lw/\(lI lw)=(lI lw)/\(d12.2.2.2+(1:Int))=d14.2.2.2/\True)/\((hk=hk/\lw=lw/\(([]:List SV)=[]))/\((fHk hk lw hd rows c)=(fHk hk lw hd rows c)/\(fLw hk lw hd rows c)=(fLw hk lw hd rows c)/\True/\True/\(([]:List SV)=[]))/\((fEy hk lw hd rows c)=(fEy hk lw hd rows c)/\(List.isEmpty (fEy hk lw hd rows c))=(List.isEmpty (fEy hk lw hd rows c)))/\((fWa hk lw hd rows c)=(fWa hk lw hd rows c)/\(List.isEmpty (fWa hk lw hd rows c))=(List.isEmpty (fWa hk lw hd rows c)))/\(True/\(([]:List SV)=[]))/\((XZ (.i .i64) d12.2.1 (gD lw d12.2.2.2 0) ((gq.aget (.i .i64) d12.2.1 (gD lw d12.2.2.2 0) 0)+(1:Int)))=d14.2.1)/\(True/\(([]:List SV)=[]))/\(d12.2.2.1=d14.2.2.1)/\(True/\(([]:List SV)=[]))/\(([]:List (Int×Bool))=([]:List (Int×Bool)))/\True))/\mI d14))) /\
       ((decide (d12.2.2.2<(lI lw)))=false ->
        ∃ (iS:Int) (d180:(List Int)×(List (Int×Int))×(List (Int×Int))×(List (Int×Bool))×Int),((True/\True/\d12.1=iS/\True/\True/\True/\True/\lw=lw/\(lI lw)=(lI lw)/\(0:Int)=(pj4 d180)/\True)/\((hk=hk/\lw=lw/\(([]:List SV)=[]))/\(d180.1=[]/\(List.isEmpty d180.1)=true)/\((fHk hk lw hd rows c)=(fHk hk lw hd rows c)/\(fLw hk lw hd rows c)=(fLw hk lw hd rows c)/\True/\True/\(([]:List SV)=[]))/\((fEy hk lw hd rows c)=(fEy hk lw hd rows c)/\(List.isEmpty (fEy hk lw hd rows c))=(List.isEmpty (fEy hk lw hd rows c)))/\((fWa hk lw hd rows c)=(fWa hk lw hd rows c)/\(List.isEmpty (fWa hk lw hd rows c))=(List.isEmpty (fWa hk lw hd rows c)))/\(True/\(([]:List SV)=[]))/\(d12.2.1=d180.2.1)/\(True/\(([]:List SV)=[]))/\(d12.2.2.1=d180.2.2.1)/\(True/\(([]:List SV)=[]))/\(([]:List (Int×Bool))=d180.2.2.2.1)/\True)) /\
        LoopP (λ(d18:(List Int)×(List (Int×Int))×(List (Int×Int))×(List (Int×Bool))×Int) (lK:((List Int)×(List (Int×Int))×(List (Int×Int))×(List (Int×Bool))×Int)->Prop) =>
         ((decide ((pj4 d18)<(lI lw)))=true ->
          (0<=(pj4 d18))/\((pj4 d18)<(List.length lw))/\∃ (ao:(List Int)×Int×(List (Int×Int))×(List (Int×Int))×(List (Int×Bool))×Int×Int×Int) (d210:Int),((True/\True/\iS=ao.2.1/\True/\True/\True/\True/\True/\(((([]:List SV)=[]))/\(True/\True/\True/\True/\True/\True/\True/\(([]:List SV)=[])))/\lw=lw/\(lI lw)=(lI lw)/\(pj4 d18)=(pj4 ao).2.2.2/\lw=lw/\(lI lw)=(lI lw)/\(0:Int)=d210/\True)/\((hk=hk/\lw=lw/\(([]:List SV)=[]))/\(d18.1=ao.1/\(List.isEmpty d18.1)=(List.isEmpty ao.1))/\((fHk hk lw hd rows c)=(fHk hk lw hd rows c)/\(fLw hk lw hd rows c)=(fLw hk lw hd rows c)/\True/\True/\(([]:List SV)=[]))/\((fEy hk lw hd rows c)=(fEy hk lw hd rows c)/\(List.isEmpty (fEy hk lw hd rows c))=(List.isEmpty (fEy hk lw hd rows c)))/\((fWa hk lw hd rows c)=(fWa hk lw hd rows c)/\(List.isEmpty (fWa hk lw hd rows c))=(List.isEmpty (fWa hk lw hd rows c)))/\(True/\(([]:List SV)=[]))/\(d18.2.1=ao.2.2.1)/\(True/\(([]:List SV)=[]))/\(d18.2.2.1=ao.2.2.2.1)/\(True/\(([]:List SV)=[]))/\(d18.2.2.2.1=(pj4 ao).1)/\((pj4 d18)=(pj4 ao).2.1/\(([]:List SV)=[]))/\((gD lw (pj4 d18) 0)=(pj4 ao).2.2.1/\(([]:List SV)=[]))/\True)) /\
          LoopP (λ(d21:Int) (sy:(Int)->Prop) =>
           ((decide (d21<(lI lw)))=true ->
            (0<=d21)/\(d21<(List.length lw))/\∀ mJ:List Value,(0<=d21)/\(d21<(List.length lw))/\((gq.aget (.i .i64) (pj4 ao).1 d21 false)=true ->
             mJ=mJ/\((!false)=true ->
              (I64 (d21+(1:Int)))/\(∃ d23:Int,((True/\True/\ao.2.1=ao.2.1/\True/\True/\True/\True/\True/\(((([]:List SV)=[]))/\(True/\True/\True/\True/\True/\True/\True/\(([]:List SV)=[])))/\lw=lw/\(lI lw)=(lI lw)/\(pj4 ao).2.2.2=(pj4 ao).2.2.2/\lw=lw/\(lI lw)=(lI lw)/\(d21+(1:Int))=d23/\True)/\((hk=hk/\lw=lw/\(([]:List SV)=[]))/\(ao.1=ao.1/\(List.isEmpty ao.1)=(List.isEmpty ao.1))/\((fHk hk lw hd rows c)=(fHk hk lw hd rows c)/\(fLw hk lw hd rows c)=(fLw hk lw hd rows c)/\True/\True/\(([]:List SV)=[]))/\((fEy hk lw hd rows c)=(fEy hk lw hd rows c)/\(List.isEmpty (fEy hk lw hd rows c))=(List.isEmpty (fEy hk lw hd rows c)))/\((fWa hk lw hd rows c)=(fWa hk lw hd rows c)/\(List.isEmpty (fWa hk lw hd rows c))=(List.isEmpty (fWa hk lw hd rows c)))/\(True/\(([]:List SV)=[]))/\(ao.2.2.1=ao.2.2.1)/\(True/\(([]:List SV)=[]))/\(ao.2.2.2.1=ao.2.2.2.1)/\(True/\(([]:List SV)=[]))/\((pj4 ao).1=(pj4 ao).1)/\((pj4 ao).2.1=(pj4 ao).2.1/\(([]:List SV)=[]))/\((pj4 ao).2.2.1=(pj4 ao).2.2.1/\(([]:List SV)=[]))/\True))/\sy d23)) /\
             ((!false)=false ->
              (I64 ((gq.aget (.i .i64) ao.2.2.1 (gD lw d21 0) 0)-(1:Int)))/\(0<=(pj4 ao).2.1/\(pj4 ao).2.1<(fEy hk lw hd rows c).length/\(pj4 ao).2.1<(fWa hk lw hd rows c).length)/\((Qs (fEy hk lw hd rows c) (fWa hk lw hd rows c) (pj4 ao).2.1.toNat)=true ->
               (I64 ((gq.aget (.i .i64) ao.2.2.2.1 (gD lw d21 0) 0)-(1:Int)))/\(((List.length ao.1)+(List.length [d21]))*8<=70368744177664)/\(I64 ((pj4 ao).2.2.2+(1:Int)))/\(∃ d24:(List Int)×(List (Int×Int))×(List (Int×Int))×(List (Int×Bool))×Int,((True/\True/\ao.2.1=iS/\True/\True/\True/\True/\lw=lw/\(lI lw)=(lI lw)/\((pj4 ao).2.2.2+(1:Int))=(pj4 d24)/\True)/\((hk=hk/\lw=lw/\(([]:List SV)=[]))/\((ao.1++[d21])=d24.1/\false=(List.isEmpty d24.1))/\((fHk hk lw hd rows c)=(fHk hk lw hd rows c)/\(fLw hk lw hd rows c)=(fLw hk lw hd rows c)/\True/\True/\(([]:List SV)=[]))/\((fEy hk lw hd rows c)=(fEy hk lw hd rows c)/\(List.isEmpty (fEy hk lw hd rows c))=(List.isEmpty (fEy hk lw hd rows c)))/\((fWa hk lw hd rows c)=(fWa hk lw hd rows c)/\(List.isEmpty (fWa hk lw hd rows c))=(List.isEmpty (fWa hk lw hd rows c)))/\(True/\(([]:List SV)=[]))/\((XZ (.i .i64) ao.2.2.1 (gD lw d21 0) ((gq.aget (.i .i64) ao.2.2.1 (gD lw d21 0) 0)-(1:Int)))=d24.2.1)/\(True/\(([]:List SV)=[]))/\((XZ (.i .i64) ao.2.2.2.1 (gD lw d21 0) ((gq.aget (.i .i64) ao.2.2.2.1 (gD lw d21 0) 0)-(1:Int)))=d24.2.2.1)/\(True/\(([]:List SV)=[]))/\((XZ (.i .i64) (pj4 ao).1 d21 true)=d24.2.2.2.1)/\True))/\lK d24)) /\
              ((Qs (fEy hk lw hd rows c) (fWa hk lw hd rows c) (pj4 ao).2.1.toNat)=false ->
               (((List.length ao.1)+(List.length [d21]))*8<=70368744177664)/\(I64 ((pj4 ao).2.2.2+(1:Int)))/\(∃ d25:(List Int)×(List (Int×Int))×(List (Int×Int))×(List (Int×Bool))×Int,((True/\True/\ao.2.1=iS/\True/\True/\True/\True/\lw=lw/\(lI lw)=(lI lw)/\((pj4 ao).2.2.2+(1:Int))=(pj4 d25)/\True)/\((hk=hk/\lw=lw/\(([]:List SV)=[]))/\((ao.1++[d21])=d25.1/\false=(List.isEmpty d25.1))/\((fHk hk lw hd rows c)=(fHk hk lw hd rows c)/\(fLw hk lw hd rows c)=(fLw hk lw hd rows c)/\True/\True/\(([]:List SV)=[]))/\((fEy hk lw hd rows c)=(fEy hk lw hd rows c)/\(List.isEmpty (fEy hk lw hd rows c))=(List.isEmpty (fEy hk lw hd rows c)))/\((fWa hk lw hd rows c)=(fWa hk lw hd rows c)/\(List.isEmpty (fWa hk lw hd rows c))=(List.isEmpty (fWa hk lw hd rows c)))/\(True/\(([]:List SV)=[]))/\((XZ (.i .i64) ao.2.2.1 (gD lw d21 0) ((gq.aget (.i .i64) ao.2.2.1 (gD lw d21 0) 0)-(1:Int)))=d25.2.1)/\(True/\(([]:List SV)=[]))/\(ao.2.2.2.1=d25.2.2.1)/\(True/\(([]:List SV)=[]))/\((XZ (.i .i64) (pj4 ao).1 d21 true)=d25.2.2.2.1)/\True))/\lK d25)))) /\
            ((gq.aget (.i .i64) (pj4 ao).1 d21 false)=false ->
             (0<=(pj4 ao).2.1/\(pj4 ao).2.1<(fEy hk lw hd rows c).length/\(pj4 ao).2.1<(fWa hk lw hd rows c).length)/\((Qs (fEy hk lw hd rows c) (fWa hk lw hd rows c) (pj4 ao).2.1.toNat)=true ->
              mJ=mJ/\((!((gD lw d21 0)==(pj4 ao).2.2.1))=true ->
               (I64 (d21+(1:Int)))/\(∃ d26:Int,((True/\True/\ao.2.1=ao.2.1/\True/\True/\True/\True/\True/\(((([]:List SV)=[]))/\(True/\True/\True/\True/\True/\True/\True/\(([]:List SV)=[])))/\lw=lw/\(lI lw)=(lI lw)/\(pj4 ao).2.2.2=(pj4 ao).2.2.2/\lw=lw/\(lI lw)=(lI lw)/\(d21+(1:Int))=d26/\True)/\((hk=hk/\lw=lw/\(([]:List SV)=[]))/\(ao.1=ao.1/\(List.isEmpty ao.1)=(List.isEmpty ao.1))/\((fHk hk lw hd rows c)=(fHk hk lw hd rows c)/\(fLw hk lw hd rows c)=(fLw hk lw hd rows c)/\True/\True/\(([]:List SV)=[]))/\((fEy hk lw hd rows c)=(fEy hk lw hd rows c)/\(List.isEmpty (fEy hk lw hd rows c))=(List.isEmpty (fEy hk lw hd rows c)))/\((fWa hk lw hd rows c)=(fWa hk lw hd rows c)/\(List.isEmpty (fWa hk lw hd rows c))=(List.isEmpty (fWa hk lw hd rows c)))/\(True/\(([]:List SV)=[]))/\(ao.2.2.1=ao.2.2.1)/\(True/\(([]:List SV)=[]))/\(ao.2.2.2.1=ao.2.2.2.1)/\(True/\(([]:List SV)=[]))/\((pj4 ao).1=(pj4 ao).1)/\((pj4 ao).2.1=(pj4 ao).2.1/\(([]:List SV)=[]))/\((pj4 ao).2.2.1=(pj4 ao).2.2.1/\(([]:List SV)=[]))/\True))/\sy d26)) /\
              ((!((gD lw d21 0)==(pj4 ao).2.2.1))=false ->
               (I64 ((gq.aget (.i .i64) ao.2.2.1 (gD lw d21 0) 0)-(1:Int)))/\(0<=(pj4 ao).2.1/\(pj4 ao).2.1<(fEy hk lw hd rows c).length/\(pj4 ao).2.1<(fWa hk lw hd rows c).length)/\((Qs (fEy hk lw hd rows c) (fWa hk lw hd rows c) (pj4 ao).2.1.toNat)=true ->
                (I64 ((gq.aget (.i .i64) ao.2.2.2.1 (gD lw d21 0) 0)-(1:Int)))/\(((List.length ao.1)+(List.length [d21]))*8<=70368744177664)/\(I64 ((pj4 ao).2.2.2+(1:Int)))/\(∃ d27:(List Int)×(List (Int×Int))×(List (Int×Int))×(List (Int×Bool))×Int,((True/\True/\ao.2.1=iS/\True/\True/\True/\True/\lw=lw/\(lI lw)=(lI lw)/\((pj4 ao).2.2.2+(1:Int))=(pj4 d27)/\True)/\((hk=hk/\lw=lw/\(([]:List SV)=[]))/\((ao.1++[d21])=d27.1/\false=(List.isEmpty d27.1))/\((fHk hk lw hd rows c)=(fHk hk lw hd rows c)/\(fLw hk lw hd rows c)=(fLw hk lw hd rows c)/\True/\True/\(([]:List SV)=[]))/\((fEy hk lw hd rows c)=(fEy hk lw hd rows c)/\(List.isEmpty (fEy hk lw hd rows c))=(List.isEmpty (fEy hk lw hd rows c)))/\((fWa hk lw hd rows c)=(fWa hk lw hd rows c)/\(List.isEmpty (fWa hk lw hd rows c))=(List.isEmpty (fWa hk lw hd rows c)))/\(True/\(([]:List SV)=[]))/\((XZ (.i .i64) ao.2.2.1 (gD lw d21 0) ((gq.aget (.i .i64) ao.2.2.1 (gD lw d21 0) 0)-(1:Int)))=d27.2.1)/\(True/\(([]:List SV)=[]))/\((XZ (.i .i64) ao.2.2.2.1 (gD lw d21 0) ((gq.aget (.i .i64) ao.2.2.2.1 (gD lw d21 0) 0)-(1:Int)))=d27.2.2.1)/\(True/\(([]:List SV)=[]))/\((XZ (.i .i64) (pj4 ao).1 d21 true)=d27.2.2.2.1)/\True))/\lK d27)) /\
               ((Qs (fEy hk lw hd rows c) (fWa hk lw hd rows c) (pj4 ao).2.1.toNat)=false ->
                (((List.length ao.1)+(List.length [d21]))*8<=70368744177664)/\(I64 ((pj4 ao).2.2.2+(1:Int)))/\(∃ d28:(List Int)×(List (Int×Int))×(List (Int×Int))×(List (Int×Bool))×Int,((True/\True/\ao.2.1=iS/\True/\True/\True/\True/\lw=lw/\(lI lw)=(lI lw)/\((pj4 ao).2.2.2+(1:Int))=(pj4 d28)/\True)/\((hk=hk/\lw=lw/\(([]:List SV)=[]))/\((ao.1++[d21])=d28.1/\false=(List.isEmpty d28.1))/\((fHk hk lw hd rows c)=(fHk hk lw hd rows c)/\(fLw hk lw hd rows c)=(fLw hk lw hd rows c)/\True/\True/\(([]:List SV)=[]))/\((fEy hk lw hd rows c)=(fEy hk lw hd rows c)/\(List.isEmpty (fEy hk lw hd rows c))=(List.isEmpty (fEy hk lw hd rows c)))/\((fWa hk lw hd rows c)=(fWa hk lw hd rows c)/\(List.isEmpty (fWa hk lw hd rows c))=(List.isEmpty (fWa hk lw hd rows c)))/\(True/\(([]:List SV)=[]))/\((XZ (.i .i64) ao.2.2.1 (gD lw d21 0) ((gq.aget (.i .i64) ao.2.2.1 (gD lw d21 0) 0)-(1:Int)))=d28.2.1)/\(True/\(([]:List SV)=[]))/\(ao.2.2.2.1=d28.2.2.1)/\(True/\(([]:List SV)=[]))/\((XZ (.i .i64) (pj4 ao).1 d21 true)=d28.2.2.2.1)/\True))/\lK d28)))) /\
             ((Qs (fEy hk lw hd rows c) (fWa hk lw hd rows c) (pj4 ao).2.1.toNat)=false ->
              (0<=d21)/\(d21<(List.length (fEy hk lw hd rows c)))/\(0<=(pj4 ao).2.1)/\((pj4 ao).2.1<(List.length (fWa hk lw hd rows c)))/\mJ=mJ/\((!(((gD (fEy hk lw hd rows c) d21 [])==(gD (fWa hk lw hd rows c) (pj4 ao).2.1 []))&&(decide ((gq.aget (.i .i64) ao.2.2.1 (gD lw d21 0) 0) > (gq.aget (.i .i64) ao.2.2.2.1 (gD lw d21 0) 0)))))=true ->
               (I64 (d21+(1:Int)))/\(∃ d29:Int,((True/\True/\ao.2.1=ao.2.1/\True/\True/\True/\True/\True/\(((([]:List SV)=[]))/\(True/\True/\True/\True/\True/\True/\True/\(([]:List SV)=[])))/\lw=lw/\(lI lw)=(lI lw)/\(pj4 ao).2.2.2=(pj4 ao).2.2.2/\lw=lw/\(lI lw)=(lI lw)/\(d21+(1:Int))=d29/\True)/\((hk=hk/\lw=lw/\(([]:List SV)=[]))/\(ao.1=ao.1/\(List.isEmpty ao.1)=(List.isEmpty ao.1))/\((fHk hk lw hd rows c)=(fHk hk lw hd rows c)/\(fLw hk lw hd rows c)=(fLw hk lw hd rows c)/\True/\True/\(([]:List SV)=[]))/\((fEy hk lw hd rows c)=(fEy hk lw hd rows c)/\(List.isEmpty (fEy hk lw hd rows c))=(List.isEmpty (fEy hk lw hd rows c)))/\((fWa hk lw hd rows c)=(fWa hk lw hd rows c)/\(List.isEmpty (fWa hk lw hd rows c))=(List.isEmpty (fWa hk lw hd rows c)))/\(True/\(([]:List SV)=[]))/\(ao.2.2.1=ao.2.2.1)/\(True/\(([]:List SV)=[]))/\(ao.2.2.2.1=ao.2.2.2.1)/\(True/\(([]:List SV)=[]))/\((pj4 ao).1=(pj4 ao).1)/\((pj4 ao).2.1=(pj4 ao).2.1/\(([]:List SV)=[]))/\((pj4 ao).2.2.1=(pj4 ao).2.2.1/\(([]:List SV)=[]))/\True))/\sy d29)) /\
              ((!(((gD (fEy hk lw hd rows c) d21 [])==(gD (fWa hk lw hd rows c) (pj4 ao).2.1 []))&&(decide ((gq.aget (.i .i64) ao.2.2.1 (gD lw d21 0) 0) > (gq.aget (.i .i64) ao.2.2.2.1 (gD lw d21 0) 0)))))=false ->
               (I64 ((gq.aget (.i .i64) ao.2.2.1 (gD lw d21 0) 0)-(1:Int)))/\(0<=(pj4 ao).2.1/\(pj4 ao).2.1<(fEy hk lw hd rows c).length/\(pj4 ao).2.1<(fWa hk lw hd rows c).length)/\((Qs (fEy hk lw hd rows c) (fWa hk lw hd rows c) (pj4 ao).2.1.toNat)=true ->
                (I64 ((gq.aget (.i .i64) ao.2.2.2.1 (gD lw d21 0) 0)-(1:Int)))/\(((List.length ao.1)+(List.length [d21]))*8<=70368744177664)/\(I64 ((pj4 ao).2.2.2+(1:Int)))/\(∃ d30:(List Int)×(List (Int×Int))×(List (Int×Int))×(List (Int×Bool))×Int,((True/\True/\ao.2.1=iS/\True/\True/\True/\True/\lw=lw/\(lI lw)=(lI lw)/\((pj4 ao).2.2.2+(1:Int))=(pj4 d30)/\True)/\((hk=hk/\lw=lw/\(([]:List SV)=[]))/\((ao.1++[d21])=d30.1/\false=(List.isEmpty d30.1))/\((fHk hk lw hd rows c)=(fHk hk lw hd rows c)/\(fLw hk lw hd rows c)=(fLw hk lw hd rows c)/\True/\True/\(([]:List SV)=[]))/\((fEy hk lw hd rows c)=(fEy hk lw hd rows c)/\(List.isEmpty (fEy hk lw hd rows c))=(List.isEmpty (fEy hk lw hd rows c)))/\((fWa hk lw hd rows c)=(fWa hk lw hd rows c)/\(List.isEmpty (fWa hk lw hd rows c))=(List.isEmpty (fWa hk lw hd rows c)))/\(True/\(([]:List SV)=[]))/\((XZ (.i .i64) ao.2.2.1 (gD lw d21 0) ((gq.aget (.i .i64) ao.2.2.1 (gD lw d21 0) 0)-(1:Int)))=d30.2.1)/\(True/\(([]:List SV)=[]))/\((XZ (.i .i64) ao.2.2.2.1 (gD lw d21 0) ((gq.aget (.i .i64) ao.2.2.2.1 (gD lw d21 0) 0)-(1:Int)))=d30.2.2.1)/\(True/\(([]:List SV)=[]))/\((XZ (.i .i64) (pj4 ao).1 d21 true)=d30.2.2.2.1)/\True))/\lK d30)) /\
               ((Qs (fEy hk lw hd rows c) (fWa hk lw hd rows c) (pj4 ao).2.1.toNat)=false ->
                (((List.length ao.1)+(List.length [d21]))*8<=70368744177664)/\(I64 ((pj4 ao).2.2.2+(1:Int)))/\(∃ d31:(List Int)×(List (Int×Int))×(List (Int×Int))×(List (Int×Bool))×Int,((True/\True/\ao.2.1=iS/\True/\True/\True/\True/\lw=lw/\(lI lw)=(lI lw)/\((pj4 ao).2.2.2+(1:Int))=(pj4 d31)/\True)/\((hk=hk/\lw=lw/\(([]:List SV)=[]))/\((ao.1++[d21])=d31.1/\false=(List.isEmpty d31.1))/\((fHk hk lw hd rows c)=(fHk hk lw hd rows c)/\(fLw hk lw hd rows c)=(fLw hk lw hd rows c)/\True/\True/\(([]:List SV)=[]))/\((fEy hk lw hd rows c)=(fEy hk lw hd rows c)/\(List.isEmpty (fEy hk lw hd rows c))=(List.isEmpty (fEy hk lw hd rows c)))/\((fWa hk lw hd rows c)=(fWa hk lw hd rows c)/\(List.isEmpty (fWa hk lw hd rows c))=(List.isEmpty (fWa hk lw hd rows c)))/\(True/\(([]:List SV)=[]))/\((XZ (.i .i64) ao.2.2.1 (gD lw d21 0) ((gq.aget (.i .i64) ao.2.2.1 (gD lw d21 0) 0)-(1:Int)))=d31.2.1)/\(True/\(([]:List SV)=[]))/\(ao.2.2.2.1=d31.2.2.1)/\(True/\(([]:List SV)=[]))/\((XZ (.i .i64) (pj4 ao).1 d21 true)=d31.2.2.2.1)/\True))/\lK d31)))))) /\
           ((decide (d21<(lI lw)))=false ->
            (I64 ((pj4 ao).2.2.2+(1:Int)))/\(∃ d32:(List Int)×(List (Int×Int))×(List (Int×Int))×(List (Int×Bool))×Int,((True/\True/\ao.2.1=iS/\True/\True/\True/\True/\lw=lw/\(lI lw)=(lI lw)/\((pj4 ao).2.2.2+(1:Int))=(pj4 d32)/\True)/\((hk=hk/\lw=lw/\(([]:List SV)=[]))/\(ao.1=d32.1/\(List.isEmpty ao.1)=(List.isEmpty d32.1))/\((fHk hk lw hd rows c)=(fHk hk lw hd rows c)/\(fLw hk lw hd rows c)=(fLw hk lw hd rows c)/\True/\True/\(([]:List SV)=[]))/\((fEy hk lw hd rows c)=(fEy hk lw hd rows c)/\(List.isEmpty (fEy hk lw hd rows c))=(List.isEmpty (fEy hk lw hd rows c)))/\((fWa hk lw hd rows c)=(fWa hk lw hd rows c)/\(List.isEmpty (fWa hk lw hd rows c))=(List.isEmpty (fWa hk lw hd rows c)))/\(True/\(([]:List SV)=[]))/\(ao.2.2.1=d32.2.1)/\(True/\(([]:List SV)=[]))/\(ao.2.2.2.1=d32.2.2.1)/\(True/\(([]:List SV)=[]))/\((pj4 ao).1=d32.2.2.2.1)/\True))/\lK d32))) d210) /\
         ((decide ((pj4 d18)<(lI lw)))=false ->
          ((True/\iS=(GK hk lw hd rows c)/\(0:Int)=(X9 hk lw hd rows c)/\(([]:List SV)=[]))/\((d18.1=(Kn hk lw hd rows c)/\(List.isEmpty d18.1)=(Kn hk lw hd rows c).isEmpty)/\True)))) d180)) d120) /\
     (∀ r9:Nat,r9<(List.length e8.2.1)->r9∉d8 ->
      ((d8++[r9])≠[])/\(((List.getD e8.2.1 (List.getLastD (d8++[r9]) 0) ([],0)).2 != (0:Int))=true ->
       (Q4 (Q4 e8)).2.2.2=w1/\((True/\(0:Int)=(GK hk lw hd rows c)/\(9:Int)=(X9 hk lw hd rows c)/\(([]:List SV)=[]))/\(((Kn hk lw hd rows c)=[]/\(Kn hk lw hd rows c).isEmpty=true)/\True))) /\
      (((List.getD e8.2.1 (List.getLastD (d8++[r9]) 0) ([],0)).2 != (0:Int))=false ->
       (∃ d33:(List Nat),((True/\True/\True)/\((e8.1=e8.1)/\(e8.2.1=e8.2.1/\(d8++[r9])=d33)/\((Q4 (Q4 e8)).2.2.2=(Q4 (Q4 e8)).2.2.2/\((e8.2.2.1=e8.2.2.1/\e8.2.2.2.1=e8.2.2.2.1/\(([]:List SV)=[]))/\((pj4 e8).1=(pj4 e8).1/\(pj4 e8).2.1=(pj4 e8).2.1/\(([]:List SV)=[]))/\(pj4 e8).2.2.1=(pj4 e8).2.2.1/\True/\True/\True/\True/\(pj8 e8).2.2.2.1=(pj8 e8).2.2.2.1/\(pj4 (pj8 e8)).1=(pj4 (pj8 e8)).1/\True/\True/\True/\True/\True/\True/\True/\True/\True/\True/\True/\True/\True/\(((Q4 e8).2.1=(Q4 e8).2.1/\(Q4 e8).2.2.1=(Q4 e8).2.2.1/\True/\True/\(([]:List SV)=[]))/\(Q4 e8).2.2.2.1=(Q4 e8).2.2.2.1/\(([]:List SV)=[]))/\((pj4 (Q4 e8)).1=(pj4 (Q4 e8)).1/\(pj4 (Q4 e8)).2.1=(pj4 (Q4 e8)).2.1/\(([]:List SV)=[]))/\((pj4 (Q4 e8)).2.2.1=(pj4 (Q4 e8)).2.2.1/\(pj4 (Q4 e8)).2.2.2.1=(pj4 (Q4 e8)).2.2.2.1/\(([]:List SV)=[]))/\(pj8 (Q4 e8)).1=(pj8 (Q4 e8)).1/\(((pj8 (Q4 e8)).2.1=(pj8 (Q4 e8)).2.1/\(pj8 (Q4 e8)).2.2.1=(pj8 (Q4 e8)).2.2.1/\True/\True/\(([]:List SV)=[]))/\(pj8 (Q4 e8)).2.2.2.1=(pj8 (Q4 e8)).2.2.2.1/\(([]:List SV)=[]))/\((pj4 (pj8 (Q4 e8))).1=(pj4 (pj8 (Q4 e8))).1/\(pj4 (pj8 (Q4 e8))).2.1=(pj4 (pj8 (Q4 e8))).2.1/\True/\True/\(([]:List SV)=[]))/\(pj4 (pj8 (Q4 e8))).2.2.1=(pj4 (pj8 (Q4 e8))).2.2.1/\(pj4 (pj8 (Q4 e8))).2.2.2.1=(pj4 (pj8 (Q4 e8))).2.2.2.1/\(Q4 (Q4 e8)).1=(Q4 (Q4 e8)).1/\True/\True/\((Q4 (Q4 e8)).2.1=(Q4 (Q4 e8)).2.1/\(Q4 (Q4 e8)).2.2.1=(Q4 (Q4 e8)).2.2.1/\True/\True/\(([]:List SV)=[]))/\True/\True/\True/\True/\True/\True/\True/\True/\True/\True/\True/\True/\True/\True/\True/\True/\True/\True/\True/\True/\True/\True/\True/\True/\True/\True/\True/\True/\True/\True/\True/\True/\True/\True/\True/\True/\True/\True/\True/\True/\True/\True/\True/\True/\True/\True/\True/\True/\True/\True/\True/\True/\True/\True/\True/\True/\True/\True/\True/\True/\True/\True/\True/\True/\True/\True/\True/\True/\True/\True/\True/\True/\(([]:List SV)=[])))/\((pj4 e8).2.2.2.1=(pj4 e8).2.2.2.1/\(pj8 e8).1=(pj8 e8).1/\(([]:List SV)=[]))/\((pj8 e8).2.1=(pj8 e8).2.1/\(pj8 e8).2.2.1=(pj8 e8).2.2.1/\(([]:List SV)=[]))/\((pj4 (pj8 e8)).2.1=(pj4 (pj8 e8)).2.1/\(pj4 (pj8 e8)).2.2.1=(pj4 (pj8 e8)).2.2.1/\True/\True/\(([]:List SV)=[]))/\((pj4 (pj8 e8)).2.2.2.1=(pj4 (pj8 e8)).2.2.2.1/\(List.isEmpty (pj4 (pj8 e8)).2.2.2.1)=(List.isEmpty (pj4 (pj8 e8)).2.2.2.1))/\((Q4 e8).1=(Q4 e8).1/\(List.isEmpty (Q4 e8).1)=(List.isEmpty (Q4 e8).1))/\True))/\q8 d33)))) d80)) d40)
def Jo:Cx:=⟨[(1000010,(.pair .st (.i .i64))),(1000011,(.pair .st (.i .i64)))],[],46,[3000040],0,[],[],[],[],false,[],[],[40],[]⟩
def Jn:List (Nat×LoopAnn):=[(0,⟨Int×(List Int)×(List (List UInt8))×(List (List UInt8))×Int×Int×(List Int)×Int×(List Int)×(List (List UInt8))×Int×(List Int)×Int×(List Int)×Int×Int×Int×(List Int)×Int×(List Int)×Int×Int×(List Int)×Int×(List Int)×(List (List UInt8))×Int×(List Int)×Int×Int×(List Int)×Int×Int×Bool×Int×(List Int)×(List Value),(List (List UInt8×Int))×(List (List UInt8×Int))×Int,[1,4,5,13,14,15],λe x=>[.box 3500001 0,.map 3500010,.map 3500011,.lst 26,.val (.i .i64) e.2.2.2.2.1,.val (.i .i64) x.2.2],λe x=>[(3500001,.slot 1,.cells [.val (.i .i64) e.1,.val (.list (.i .i64)) e.2.1,.lst 26,.lst 500026] (some 72)),(26,.cell 3500001 2,.lst 80 .st e.2.2.1 (List.isEmpty e.2.2.1)),(500026,.cell 3500001 3,.lst 80 .st e.2.2.2.1 (List.isEmpty e.2.2.2.1)),(3500010,.slot 4,.map .st (.i .i64) x.1),(3500011,.slot 5,.map .st (.i .i64) x.2.1),(3499999,.key 3499999,.stk [.agg [.val (.i .i64) e.2.2.2.2.2.1,.val (.list (.i .i64)) e.2.2.2.2.2.2.1],.agg [.val (.i .i64) e.2.2.2.2.2.2.2.1,.val (.list (.i .i64)) e.2.2.2.2.2.2.2.2.1],.val (.list .st) e.2.2.2.2.2.2.2.2.2.1,.box 3 0,.box 4 0,.any,.nilS,.val (.i .i64) e.2.2.2.2.2.2.2.2.2.2.2.2.2.2.1,.val (.i .i64) e.2.2.2.2.2.2.2.2.2.2.2.2.2.2.2.1,.box 9 0,.any,.any,.any,.any,.any,.any,.any,.any,.any,.any,.any,.any,.tup [.agg [.val (.i .i64) e.2.2.2.2.2.2.2.2.2.2.2.2.2.2.2.2.2.2.1,.val (.list (.i .i64)) e.2.2.2.2.2.2.2.2.2.2.2.2.2.2.2.2.2.2.2.1,.lst 26,.lst 500026],.val (.i .i64) e.2.2.2.2.2.2.2.2.2.2.2.2.2.2.2.2.2.2.2.2.1],.agg [.val (.i .i64) e.2.2.2.2.2.2.2.2.2.2.2.2.2.2.2.2.2.2.2.2.2.1,.val (.list (.i .i64)) e.2.2.2.2.2.2.2.2.2.2.2.2.2.2.2.2.2.2.2.2.2.2.1],.agg [.val (.i .i64) e.2.2.2.2.2.2.2.2.2.2.2.2.2.2.2.2.2.2.2.2.2.2.2.1,.val (.list (.i .i64)) e.2.2.2.2.2.2.2.2.2.2.2.2.2.2.2.2.2.2.2.2.2.2.2.2.1],.val (.list .st) e.2.2.2.2.2.2.2.2.2.2.2.2.2.2.2.2.2.2.2.2.2.2.2.2.2.1,.tup [.agg [.val (.i .i64) e.2.2.2.2.2.2.2.2.2.2.2.2.2.2.2.2.2.2.2.2.2.2.2.2.2.2.1,.val (.list (.i .i64)) e.2.2.2.2.2.2.2.2.2.2.2.2.2.2.2.2.2.2.2.2.2.2.2.2.2.2.2.1,.lst 26,.lst 500026],.val (.i .i64) e.2.2.2.2.2.2.2.2.2.2.2.2.2.2.2.2.2.2.2.2.2.2.2.2.2.2.2.2.1],.agg [.val (.i .i64) e.2.2.2.2.2.2.2.2.2.2.2.2.2.2.2.2.2.2.2.2.2.2.2.2.2.2.2.2.2.1,.val (.list (.i .i64)) e.2.2.2.2.2.2.2.2.2.2.2.2.2.2.2.2.2.2.2.2.2.2.2.2.2.2.2.2.2.2.1,.lst 26,.lst 500026],.val (.i .i64) e.2.2.2.2.2.2.2.2.2.2.2.2.2.2.2.2.2.2.2.2.2.2.2.2.2.2.2.2.2.2.2.1,.val (.i .i64) e.2.2.2.2.2.2.2.2.2.2.2.2.2.2.2.2.2.2.2.2.2.2.2.2.2.2.2.2.2.2.2.2.1,.val .bo e.2.2.2.2.2.2.2.2.2.2.2.2.2.2.2.2.2.2.2.2.2.2.2.2.2.2.2.2.2.2.2.2.2.1,.any,.any,.agg [.val (.i .i64) e.2.2.2.2.2.2.2.2.2.2.2.2.2.2.2.2.2.2.2.2.2.2.2.2.2.2.2.2.2.2.2.2.2.2.1,.val (.list (.i .i64)) e.2.2.2.2.2.2.2.2.2.2.2.2.2.2.2.2.2.2.2.2.2.2.2.2.2.2.2.2.2.2.2.2.2.2.2.1,.lst 26,.lst 500026],.any,.any,.any,.any,.any,.any,.any,.any,.any,.any,.any,.any,.any,.any,.any,.any,.any,.any,.any,.any,.any,.any,.any,.any,.any,.any,.any,.any,.any,.any,.any,.any,.any,.any,.any,.any,.any,.any,.any,.any,.any,.any,.any,.any,.any,.any,.any,.any,.any,.any,.any,.any,.any,.any,.any,.any,.any,.any,.any,.any,.any,.any,.any,.any,.any,.any,.any,.any,.any,.any,.any,.any] e.2.2.2.2.2.2.2.2.2.2.2.2.2.2.2.2.2.2.2.2.2.2.2.2.2.2.2.2.2.2.2.2.2.2.2.2),(3,.key 3,.cells [.val (.i .i64) e.2.2.2.2.2.2.2.2.2.2.1,.val (.list (.i .i64)) e.2.2.2.2.2.2.2.2.2.2.2.1] (some 29)),(4,.key 4,.cells [.val (.i .i64) e.2.2.2.2.2.2.2.2.2.2.2.2.1,.val (.list (.i .i64)) e.2.2.2.2.2.2.2.2.2.2.2.2.2.1] (some 32)),(9,.key 9,.cells [.val (.i .i64) e.2.2.2.2.2.2.2.2.2.2.2.2.2.2.2.2.1,.val (.list (.i .i64)) e.2.2.2.2.2.2.2.2.2.2.2.2.2.2.2.2.2.1,.lst 26,.lst 500026] (some 72))]⟩),
 (2,⟨(List (List UInt8×Int))×(List (List UInt8×Int))×Int×(List Int)×Int×(List Int)×(List (List UInt8))×Int×(List Int)×Int×(List Int)×Int×Int×Int×(List Int)×(List (List UInt8))×(List (List UInt8))×Int×(List Int)×Int×Int×(List Int)×Int×(List Int)×(List (List UInt8))×Int×(List Int)×Int×Int×(List Int)×Int×Int×Bool×Int×(List Int)×(List Value),(List Nat),[4,38],λe x=>[.map 3500010,.box 3500038 0],λe x=>[(3500010,.slot 4,.map .st (.i .i64) e.1),(3500038,.slot 38,.iter .st (.i .i64) e.2.1 x),(3499999,.key 3499999,.stk [.agg [.val (.i .i64) e.2.2.1,.val (.list (.i .i64)) e.2.2.2.1],.agg [.val (.i .i64) e.2.2.2.2.1,.val (.list (.i .i64)) e.2.2.2.2.2.1],.val (.list .st) e.2.2.2.2.2.2.1,.box 3 0,.box 4 0,.any,.nilS,.val (.i .i64) e.2.2.2.2.2.2.2.2.2.2.2.1,.val (.i .i64) e.2.2.2.2.2.2.2.2.2.2.2.2.1,.box 9 0,.any,.any,.any,.any,.any,.any,.any,.any,.any,.any,.any,.any,.tup [.agg [.val (.i .i64) e.2.2.2.2.2.2.2.2.2.2.2.2.2.2.2.2.2.1,.val (.list (.i .i64)) e.2.2.2.2.2.2.2.2.2.2.2.2.2.2.2.2.2.2.1,.lst 26,.lst 500026],.val (.i .i64) e.2.2.2.2.2.2.2.2.2.2.2.2.2.2.2.2.2.2.2.1],.agg [.val (.i .i64) e.2.2.2.2.2.2.2.2.2.2.2.2.2.2.2.2.2.2.2.2.1,.val (.list (.i .i64)) e.2.2.2.2.2.2.2.2.2.2.2.2.2.2.2.2.2.2.2.2.2.1],.agg [.val (.i .i64) e.2.2.2.2.2.2.2.2.2.2.2.2.2.2.2.2.2.2.2.2.2.2.1,.val (.list (.i .i64)) e.2.2.2.2.2.2.2.2.2.2.2.2.2.2.2.2.2.2.2.2.2.2.2.1],.val (.list .st) e.2.2.2.2.2.2.2.2.2.2.2.2.2.2.2.2.2.2.2.2.2.2.2.2.1,.tup [.agg [.val (.i .i64) e.2.2.2.2.2.2.2.2.2.2.2.2.2.2.2.2.2.2.2.2.2.2.2.2.2.1,.val (.list (.i .i64)) e.2.2.2.2.2.2.2.2.2.2.2.2.2.2.2.2.2.2.2.2.2.2.2.2.2.2.1,.lst 26,.lst 500026],.val (.i .i64) e.2.2.2.2.2.2.2.2.2.2.2.2.2.2.2.2.2.2.2.2.2.2.2.2.2.2.2.1],.agg [.val (.i .i64) e.2.2.2.2.2.2.2.2.2.2.2.2.2.2.2.2.2.2.2.2.2.2.2.2.2.2.2.2.1,.val (.list (.i .i64)) e.2.2.2.2.2.2.2.2.2.2.2.2.2.2.2.2.2.2.2.2.2.2.2.2.2.2.2.2.2.1,.lst 26,.lst 500026],.val (.i .i64) e.2.2.2.2.2.2.2.2.2.2.2.2.2.2.2.2.2.2.2.2.2.2.2.2.2.2.2.2.2.2.1,.val (.i .i64) e.2.2.2.2.2.2.2.2.2.2.2.2.2.2.2.2.2.2.2.2.2.2.2.2.2.2.2.2.2.2.2.1,.val .bo e.2.2.2.2.2.2.2.2.2.2.2.2.2.2.2.2.2.2.2.2.2.2.2.2.2.2.2.2.2.2.2.2.1,.any,.any,.agg [.val (.i .i64) e.2.2.2.2.2.2.2.2.2.2.2.2.2.2.2.2.2.2.2.2.2.2.2.2.2.2.2.2.2.2.2.2.2.1,.val (.list (.i .i64)) e.2.2.2.2.2.2.2.2.2.2.2.2.2.2.2.2.2.2.2.2.2.2.2.2.2.2.2.2.2.2.2.2.2.2.1,.lst 26,.lst 500026],.any,.any,.any,.any,.any,.any,.any,.any,.any,.any,.any,.any,.any,.any,.any,.any,.any,.any,.any,.any,.any,.any,.any,.any,.any,.any,.any,.any,.any,.any,.any,.any,.any,.any,.any,.any,.any,.any,.any,.any,.any,.any,.any,.any,.any,.any,.any,.any,.any,.any,.any,.any,.any,.any,.any,.any,.any,.any,.any,.any,.any,.any,.any,.any,.any,.any,.any,.any,.any,.any,.any,.any] e.2.2.2.2.2.2.2.2.2.2.2.2.2.2.2.2.2.2.2.2.2.2.2.2.2.2.2.2.2.2.2.2.2.2.2),(3,.key 3,.cells [.val (.i .i64) e.2.2.2.2.2.2.2.1,.val (.list (.i .i64)) e.2.2.2.2.2.2.2.2.1] (some 29)),(4,.key 4,.cells [.val (.i .i64) e.2.2.2.2.2.2.2.2.2.1,.val (.list (.i .i64)) e.2.2.2.2.2.2.2.2.2.2.1] (some 32)),(9,.key 9,.cells [.val (.i .i64) e.2.2.2.2.2.2.2.2.2.2.2.2.2.1,.val (.list (.i .i64)) e.2.2.2.2.2.2.2.2.2.2.2.2.2.2.1,.lst 26,.lst 500026] (some 72)),(26,.cell 9 2,.lst 80 .st e.2.2.2.2.2.2.2.2.2.2.2.2.2.2.2.1 (List.isEmpty e.2.2.2.2.2.2.2.2.2.2.2.2.2.2.2.1)),(500026,.cell 9 3,.lst 80 .st e.2.2.2.2.2.2.2.2.2.2.2.2.2.2.2.2.1 (List.isEmpty e.2.2.2.2.2.2.2.2.2.2.2.2.2.2.2.2.1))]⟩)]
def Wf:Cx:=⟨[],[(29,Z_)],45,[],0,[],[],[],[],false,[],[],[],[]⟩
def W2:List (Nat×LoopAnn):=[]
def Pa:Cx:=⟨[(3,(.i .i64)),(1000039,(.pair (.i .i64) (.i .i64))),(1000040,(.pair (.i .i64) (.i .i64))),(1000041,(.pair (.i .i64) .bo))],[(29,Z_)],106,[3000038],0,[(27,XR),(28,Q1x Jo (λ_=>Jn) c28 [.tmp 2,.tmp 3] 46),(30,Q1x Wf (λ_=>W2) c30 [.tmp 9] 45)],[],[],[],false,[],[],[38],[]⟩
def Aa (hk:Int) (lw:List Int) (hd:Int) (rows:List Int) (c:List (List UInt8)):List (Nat×LoopAnn):=[(0,⟨Unit,Int×(List (Int×Int))×(List (Int×Int))×Int,[3,6,7,9,12,13,14,43,44,45],λe x=>[.box 3 0,.nilS,.val (.i .i64) x.1,.box 9 0,.box 12 0,.box 13 0,.box 14 0,.val (.list (.i .i64)) lw,.val (.i .i64) (((List.length lw):Nat):Int),.val (.i .i64) x.2.2.2],λe x=>[(3,.slot 3,.cells [.val (.i .i64) hk,.val (.list (.i .i64)) lw] (some 29)),(9,.slot 9,.cells [.val (.i .i64) (fHk hk lw hd rows c),.val (.list (.i .i64)) (fLw hk lw hd rows c),.lst 26,.lst 500026] (some 72)),(26,.cell 9 2,.lst 80 .st (fEy hk lw hd rows c) (List.isEmpty (fEy hk lw hd rows c))),(500026,.cell 9 3,.lst 80 .st (fWa hk lw hd rows c) (List.isEmpty (fWa hk lw hd rows c))),(12,.slot 12,.cells [.map 39] (some 78)),(39,.cell 12 0,.map (.i .i64) (.i .i64) x.2.1),(13,.slot 13,.cells [.map 40] (some 78)),(40,.cell 13 0,.map (.i .i64) (.i .i64) x.2.2.1),(14,.slot 14,.cells [.map 41] (some 57)),(41,.cell 14 0,.map (.i .i64) .bo ([]:List (Int×Bool)))]⟩),
 (2,⟨Int,(List Int)×(List (Int×Int))×(List (Int×Int))×(List (Int×Bool))×Int,[3,6,7,9,12,13,14,65,66,67],λe x=>[.box 3 0,.lst 101,.val (.i .i64) e,.box 9 0,.box 12 0,.box 13 0,.box 14 0,.val (.list (.i .i64)) lw,.val (.i .i64) (((List.length lw):Nat):Int),.val (.i .i64) x.2.2.2.2],λe x=>[(3,.slot 3,.cells [.val (.i .i64) hk,.val (.list (.i .i64)) lw] (some 29)),(101,.slot 6,.lst 3 (.i .i64) x.1 (List.isEmpty x.1)),(9,.slot 9,.cells [.val (.i .i64) (fHk hk lw hd rows c),.val (.list (.i .i64)) (fLw hk lw hd rows c),.lst 26,.lst 500026] (some 72)),(26,.cell 9 2,.lst 80 .st (fEy hk lw hd rows c) (List.isEmpty (fEy hk lw hd rows c))),(500026,.cell 9 3,.lst 80 .st (fWa hk lw hd rows c) (List.isEmpty (fWa hk lw hd rows c))),(12,.slot 12,.cells [.map 39] (some 78)),(39,.cell 12 0,.map (.i .i64) (.i .i64) x.2.1),(13,.slot 13,.cells [.map 40] (some 78)),(40,.cell 13 0,.map (.i .i64) (.i .i64) x.2.2.1),(14,.slot 14,.cells [.map 41] (some 57)),(41,.cell 14 0,.map (.i .i64) .bo x.2.2.2.1)]⟩),
 (4,⟨(List Int)×Int×(List (Int×Int))×(List (Int×Int))×(List (Int×Bool))×Int×Int×Int,Int,[3,6,7,9,12,13,14,17,19,65,66,67,74,75,76],λe x=>[.box 3 0,.lst 101,.val (.i .i64) e.2.1,.box 9 0,.box 12 0,.box 13 0,.box 14 0,.box 17 0,.fn 30 [] [.box 3 0,.box 14 0,.box 9 0,.box 17 0,.box 18 0,.box 12 0,.box 13 0],.val (.list (.i .i64)) lw,.val (.i .i64) (((List.length lw):Nat):Int),.val (.i .i64) e.2.2.2.2.2.2.2,.val (.list (.i .i64)) lw,.val (.i .i64) (((List.length lw):Nat):Int),.val (.i .i64) x],λe x=>[(3,.slot 3,.cells [.val (.i .i64) hk,.val (.list (.i .i64)) lw] (some 29)),(101,.slot 6,.lst 3 (.i .i64) e.1 (List.isEmpty e.1)),(9,.slot 9,.cells [.val (.i .i64) (fHk hk lw hd rows c),.val (.list (.i .i64)) (fLw hk lw hd rows c),.lst 26,.lst 500026] (some 72)),(26,.cell 9 2,.lst 80 .st (fEy hk lw hd rows c) (List.isEmpty (fEy hk lw hd rows c))),(500026,.cell 9 3,.lst 80 .st (fWa hk lw hd rows c) (List.isEmpty (fWa hk lw hd rows c))),(12,.slot 12,.cells [.map 39] (some 78)),(39,.cell 12 0,.map (.i .i64) (.i .i64) e.2.2.1),(13,.slot 13,.cells [.map 40] (some 78)),(40,.cell 13 0,.map (.i .i64) (.i .i64) e.2.2.2.1),(14,.slot 14,.cells [.map 41] (some 57)),(41,.cell 14 0,.map (.i .i64) .bo e.2.2.2.2.1),(17,.slot 17,.cells [.val (.i .i64) e.2.2.2.2.2.1] (some 3)),(18,.key 18,.cells [.val (.i .i64) e.2.2.2.2.2.2.1] (some 3))]⟩)]
theorem Cp (d:(Int×List Int)×(Int×List Int)×List (List UInt8)):gwp (Pa) (Aa d.1.1 d.1.2 d.2.1.1 d.2.1.2 d.2.2) c14 0 (WY [.tmp 6,.tmp 7,.tmp 8] (DX d) (Dn d)) (Qk 106 (AL.can Hz d))=V9 d.1.1 d.1.2 d.2.1.1 d.2.1.2 d.2.2:=by kernel_rfl
abbrev A6:Prop:=OkC Tryd.prog 14 GY
theorem Cr (h:∀ (hk:Int) (lw:List Int) (hd:Int) (rows:List Int) (c:List (List UInt8)),(lw.length<=110/\rows.length<=110/\c.length<=110/\∀ s∈c,s.length<=1000000)->V9 hk lw hd rows c):OkC Tryd.prog 14 GY :=
 QF Q55 mixed (C:=Pa) (V:=λ(d:(Int×List Int)×(Int×List Int)×List (List UInt8))=>V9 d.1.1 d.1.2 d.2.1.1 d.2.1.2 d.2.2) ⟨(.cons WA .nil),(XsOk.cons KP (XsOk.cons (GZ Q20 mixed (C:=Jo) ⟨.nil,XsOk.nil,ItsOk.nil,YlOk.nil,IysOk.nil,XfOk.nil⟩ (λ_=>Jn)) (XsOk.cons (GZ Q48 mixed (C:=Wf) ⟨(.cons WA .nil),XsOk.nil,ItsOk.nil,YlOk.nil,IysOk.nil,XfOk.nil⟩ (λ_=>W2)) XsOk.nil))),ItsOk.nil,YlOk.nil,IysOk.nil,XfOk.nil⟩ (Cp) λd hp=>h d.1.1 d.1.2 d.2.1.1 d.2.1.2 d.2.2 hp
theorem IT {hk:Int}{lw:List Int}{hd:Int}{rows:List Int}{c:List (List UInt8)}(h:¬ X9 hk lw hd rows c=0):GK hk lw hd rows c=0/\Kn hk lw hd rows c=[]:=by rw[GK,Kn,z6 h,z6 h];exact⟨rfl,rfl⟩
theorem Tx:∀ {l m:List Nat},l.Nodup->(∀ x∈l,x∈m)->l.length<=m.length
 |[],_,_,_=>Nat.zero_le _
 |x::l,m,hn,hs=>by have hn:=xC.1 hn;have hx:=hs x (zQ ..);have:=Tx (l:=l) (m:=m.erase x) hn.2 λy hy=>(List.mem_erase_of_ne (by rintro rfl;exact hn.1 hy)).2 (hs y (zT _ hy));rw[List.length_erase_of_mem hx] at this;have:0<m.length:=List.length_pos_of_mem hx;simp only[xF];omega
theorem R4 {α:Type}{M:List α}{cG:List Nat}(i1:cG.Nodup) (i2:∀ r∈cG,r<M.length) {r:Nat}(hr:r<M.length) (iE:r∉cG):(cG++[r]).Nodup/\(∀ x∈cG++[r],x<M.length)/\(cG++[r]).getLastD 0=r/\cG.length+1<=M.length:=by
 have gJ:(cG++[r]).Nodup:=List.nodup_append.2 ⟨i1,by simp,λa ha b hb e=>by rw[zI.1 hb] at e;rw[e] at ha;exact iE ha⟩;have aT:∀ x∈cG++[r],x<M.length:=λx hx=>by
  rcases x7.1 hx with hx|hx
  .exact i2 x hx
  .rw[zI.1 hx];exact hr
 refine⟨gJ,aT,by simp,?_⟩;have:=Tx (m:=List.range M.length) gJ λr hr=>x5.2 (aT r hr)
 rwa [List.length_range,zF,zl] at this
theorem Q1m {M:SMp}{cG:List Nat}(hz:∀ r∈cG,(M.getD r ([],0)).2=0) (hall:∀ r,r<M.length->r∈cG):okL M=true:=by rw[okL,zf];intro e he;obtain⟨r,hr,rfl⟩:=List.getElem_of_mem he;have:=hz r (hall r hr);rw[Q7 hr] at this;rw[this];rfl
theorem Io {M:SMp}{r:Nat}(hr:r<M.length) (h:(M.getD r ([],0)).2≠0):okL M=false:=by rw[Q7 hr] at h;rw[okL,List.all_eq_false];exact⟨M[r],zi hr,by simpa using h⟩
theorem A4:A6:=Cr λhk lw hd rows c h=>by
 obtain⟨h1,h2,h3,h4⟩:=h;unfold V9;(try delta lI gD sT I64 Q4 pj8 pj4);refine⟨⟨h1,h2,h3,h4⟩,λe=>?_,λe=>?_⟩
 .have hz:¬ Qv hk lw hd rows c=0:=by simpa using e
  have he:X9 hk lw hd rows c=Qv hk lw hd rows c:=by rw[X9,z7 hz]
  obtain⟨f1,f2⟩:=IT (h:=show ¬ X9 hk lw hd rows c=0 by rw[he];exact hz);rw[f1,f2,he];and_intros<;>first|rfl|trivial
 have he:Qv hk lw hd rows c=0:=by simpa using e
 have q1:fHk hk lw hd rows c=hk:=z7 he;have q2:fLw hk lw hd rows c=lw:=z7 he;have q3:fEy hk lw hd rows c=eyF lw rows:=z7 he;have q4:fWa hk lw hd rows c=waF lw c:=z7 he;have hE:X9 hk lw hd rows c=if okL (lfM (eyF lw rows) (waF lw c) lw.length)=true then 0 else 9:=by rw[X9,z6 (by simpa using he)];rfl
 have hN:X9 hk lw hd rows c=0->GK hk lw hd rows c=wrF (eyF lw rows) (waF lw c) lw.length:=λe=>z7 e;have hW:X9 hk lw hd rows c=0->Kn hk lw hd rows c=(NB lw (eyF lw rows) (waF lw c) lw.length).1:=λe=>z7 e;have l1:=Iw lw rows;have l2:=Oq lw c;rw[q1,q2,q3,q4];generalize eyF lw rows=ey at *
 generalize waF lw c=wa at *
 simp only[Zs,zg,zk];intro w1;refine⟨(hk,lw,ey,wa,((ey.length:Nat):Int),hk,lw,hd,rows,c,_,_,_,_,_,_,_,_,_,_,_,_,_,_,_,_,_,_,_,_,_,_,_,_,_,_,w1),([],[],0),(by and_intros<;>first|rfl|trivial|simp),?_⟩;refine⟨λd=>∃ i:Nat,i<=lw.length/\d=(eyM ey i,lfM ey wa i,(i:Int)),λd=>lw.length-d.2.2.toNat,⟨0,Nat.zero_le _,rfl⟩,?_⟩;rintro _ ⟨i,hi,rfl⟩;dsimp only;simp only[zh];refine⟨λaf=>?_,λaZ=>?_⟩
 .have hA:=HI ey (ey.getD i []) i;have hB:=NU ey wa i (ey.getD i []);have hC:=A5 ey wa (wa.getD i []) i (NU ey wa i (wa.getD i []));rw[Q2k] at hC;have b1:=QA (λj=>ey.getD i []==ey.getD j []) i;have b2:=XI (λj=>ey.getD i []==ey.getD j []) i;have b3:=QA (λj=>ey.getD i []==wa.getD j []) i;have b4:=XI (λj=>ey.getD i []==wa.getD j []) i;have b5:=QA (λj=>wa.getD i []==ey.getD j []) (i+1);have b6:=XI (λj=>wa.getD i []==ey.getD j []) (i+1);have b7:=QA (λj=>wa.getD i []==wa.getD j []) i;have b8:=XI (λj=>wa.getD i []==wa.getD j []) i;exact⟨by omega,by omega,by omega,by omega,by omega,by omega,by omega,by omega,(eyM ey (i+1),lfM ey wa (i+1),(i:Int)+1),(by and_intros<;>first|rfl|trivial|simp),⟨i+1,by omega,rfl⟩,by dsimp only;omega⟩
 have:i=lw.length:=by omega
 subst this;generalize lfM ey wa lw.length=M at *
 refine⟨(eyM ey lw.length,M,_,_,_,_,_,_,_,_,_,_,_,_,_,ey,wa,_,_,_,_,_,_,_,_,_,_,_,_,_,_,_,_,_,_,_),[],(by and_intros<;>first|rfl|trivial|simp),?_⟩;refine⟨λd=>d.Nodup/\(∀ r∈d,r<M.length)/\∀ r∈d,(M.getD r ([],0)).2=0,λd=>M.length-d.length,⟨List.nodup_nil,(λr hr=>by cases hr),(λr hr=>by cases hr)⟩,?_⟩;rintro cG ⟨i1,i2,i3⟩;dsimp only;refine⟨λhall=>?_,λr hr iE=>?_⟩
 .have aj:=Q1m i3 hall;rw[aj,z7 rfl] at hE;have hN:=hN hE;have hW:=hW hE;refine⟨rfl,(),(0,[],[],0),(by and_intros<;>first|rfl|trivial|simp),?_⟩;refine⟨λd=>∃ i:Nat,i<=lw.length/\d=(wrF ey wa i,MQ lw i,Ct lw ey wa i,(i:Int)),λd=>lw.length-d.2.2.2.toNat,⟨0,Nat.zero_le _,rfl⟩,?_⟩;rintro _ ⟨i,hi,rfl⟩;dsimp only;simp only[zh];refine⟨λaf=>?_,λaZ=>?_⟩
  .have hA:=UR lw (lw.getD i 0) i;have hB:=UX lw ey wa (lw.getD i 0) i;have hC:=Ck ey wa i;have b1:=QA (λj=>lw.getD i 0==lw.getD j 0) i;have b2:=XI (λj=>lw.getD i 0==lw.getD j 0) i;have b3:=QA (λj=>Qs ey wa j&&lw.getD i 0==lw.getD j 0) i;have b4:=XI (λj=>Qs ey wa j&&lw.getD i 0==lw.getD j 0) i;have b5:=QA (λj=>!Qs ey wa j) i;have b6:=XI (λj=>!Qs ey wa j) i;refine⟨by omega,by omega,by omega,⟨by omega,by omega,by omega⟩,λhr=>⟨by omega,by omega,(wrF ey wa i,Q2q (MQ lw i) (lw.getD i 0),Q2q (Ct lw ey wa i) (lw.getD i 0),(i:Int)+1),(by and_intros<;>first|rfl|trivial|simp),⟨i+1,by omega,?_⟩,by dsimp only;omega⟩,λhr=>⟨by omega,by omega,(wrF ey wa i+1,Q2q (MQ lw i) (lw.getD i 0),Ct lw ey wa i,(i:Int)+1),(by and_intros<;>first|rfl|trivial|simp),⟨i+1,by omega,?_⟩,by dsimp only;omega⟩⟩
   .rw[wrF,MQ,Ct,z7 hr,z7 hr];rfl
   .rw[wrF,MQ,Ct,z6 (by rw[hr];decide),z6 (by rw[hr];decide)];rfl
  have:i=lw.length:=by omega
  subst this;refine⟨wrF ey wa lw.length,([],MQ lw lw.length,Ct lw ey wa lw.length,[],0),(by and_intros<;>first|rfl|trivial|simp),?_⟩;refine⟨λd=>∃ k:Nat,k<=lw.length/\d=((NB lw ey wa k).1,(NB lw ey wa k).2.1,(NB lw ey wa k).2.2.1,(NB lw ey wa k).2.2.2,(k:Int)),λd=>lw.length-d.2.2.2.2.toNat,⟨0,Nat.zero_le _,rfl⟩,?_⟩;rintro _ ⟨k,fM,rfl⟩;dsimp only;simp only[zh];refine⟨λaf=>?_,λaZ=>?_⟩
  .have mu:=Ij lw ey wa k;have ki:=λe=>@FG lw ey wa k e;have oF:=@Iu lw ey wa k;generalize NB lw ey wa k=S at *
   have fq:∀ j,AZ lw ey wa k S j=(!(gq.aget (.i .i64) S.2.2.2 (j:Int) false)&&(if Qs ey wa k=true then lw.getD j 0==lw.getD k 0 else (ey.getD j []==wa.getD k []&&decide (gq.aget (.i .i64) S.2.1 (lw.getD j 0) 0 > gq.aget (.i .i64) S.2.2.1 (lw.getD j 0) 0)))):=λ_=>rfl;refine⟨by omega,by omega,(S.1,wrF ey wa lw.length,S.2.1,S.2.2.1,S.2.2.2,(k:Int),lw.getD k 0,(k:Int)),0,(by and_intros<;>first|rfl|trivial|simp),?_⟩;refine⟨λd=>∃ j:Nat,j<=lw.length/\d=(j:Int)/\∀ i,i<j->AZ lw ey wa k S i=false,λd=>lw.length-d.toNat,⟨0,Nat.zero_le _,rfl,λi hi=>by omega⟩,?_⟩;rintro _ ⟨j,hj,rfl,hn⟩;dsimp only;simp only[zh];refine⟨λb_=>?_,λaZ=>?_⟩
   .have hj:j<lw.length:=by omega
    have hb:=mu.2 (lw.getD j 0);have bz:=mu.1;have oG:=fq j;have next:AZ lw ey wa k S j=false->∃ j':Nat,j'<=lw.length/\(j:Int)+1=(j':Int)/\∀ i,i<j'->AZ lw ey wa k S i=false:=λhf=>⟨j+1,by omega,by omega,λi hi=>by
     rcases zn i j with h|h
     .exact hn i h
     .rw[show i=j by omega];exact hf⟩
    have len:(S.1.length+[(j:Int)].length)*8<=70368744177664:=by rw[zl];omega
    have ne:∀ l:List Int,false=(l++[(j:Int)]).isEmpty:=λl=>by cases l<;>rfl
    simp only[true_and,and_true,xK,forall_const,Bool.true_eq_false,false_implies];refine⟨by omega,by omega,by omega,by omega,λhu=>⟨by omega,(j:Int)+1,rfl,next (by rw[oG,hu];rfl),by omega⟩,λhu=>⟨⟨by omega,by omega,by omega⟩,λhr=>⟨λhw=>⟨by omega,(j:Int)+1,rfl,next ?_,by omega⟩,λhw=>⟨by omega,⟨by omega,by omega,by omega⟩,λ_=>⟨by omega,len,by omega,(S.1++[(j:Int)],Ob S.2.1 (lw.getD j 0),Ob S.2.2.1 (lw.getD j 0),XZ (.i .i64) S.2.2.2 (j:Int) true,(k:Int)+1),?_,⟨k+1,by omega,?_⟩,by dsimp only;omega⟩,λhf=>by rw[hr] at hf;cases hf⟩⟩,λhr=>⟨by omega,by omega,by omega,by omega,λhw=>⟨by omega,(j:Int)+1,rfl,next ?_,by omega⟩,λhw=>⟨by omega,⟨by omega,by omega,by omega⟩,(λhf=>by rw[hr] at hf;cases hf),λ_=>⟨len,by omega,(S.1++[(j:Int)],Ob S.2.1 (lw.getD j 0),S.2.2.1,XZ (.i .i64) S.2.2.2 (j:Int) true,(k:Int)+1),?_,⟨k+1,by omega,?_⟩,by dsimp only;omega⟩⟩⟩⟩⟩
    .rw[oG,hu,z7 hr,xK,Bool.true_and];simpa using hw
    .and_intros<;>first|rfl|trivial|exact ne _
    .rw[ki j hj (by rw[oG,hu,z7 hr,xK,Bool.true_and];simpa using hw) hn];simp only[Q1a,z7 hr];rfl
    .rw[oG,hu,z6 (by rw[hr];decide),xK,Bool.true_and];exact Bool.not_eq_true'  _ |>.mp hw
    .and_intros<;>first|rfl|trivial|exact ne _
    .rw[ki j hj (by rw[oG,hu,z6 (by rw[hr];decide),xK,Bool.true_and];simpa using hw) hn];simp only[Q1a];rw[z6 (by rw[hr];decide)];rfl
   .have:j=lw.length:=by omega
    subst this;have mw:=oF hn;exact⟨by omega,(S.1,S.2.1,S.2.2.1,S.2.2.2,(k:Int)+1),(by and_intros<;>first|rfl|trivial|simp),⟨k+1,by omega,by rw[mw];rfl⟩,by dsimp only;omega⟩
  .have:k=lw.length:=by omega
   subst this;rw[hN,hW,hE];and_intros<;>first|rfl|trivial
 .obtain⟨v1,v2,v3,v4⟩:=R4 i1 i2 hr iE;rw[v3];refine⟨by simp,λhz=>⟨rfl,?_⟩,λhz=>⟨cG++[r],(by and_intros<;>first|rfl|trivial|simp),⟨v1,v2,λx hx=>?_⟩,by rw[zF,zl];omega⟩⟩
  .rw[Io hr (by simpa using hz),z6 (by decide)] at hE;obtain⟨f1,f2⟩:=IT (h:=show ¬ X9 hk lw hd rows c=0 by rw[hE];decide);rw[f1,f2,hE];and_intros<;>first|rfl|trivial
  .rcases x7.1 hx with hx|hx
   .exact i3 x hx
   .rw[zI.1 hx];simpa using hz
def Dz:AL ((Int×List Int)×(Int×List Int)×List (List UInt8)):=(.cons (.agg (.cons (.k (.i .i64)) (.one (.k (.list (.i .i64)))))) (.cons (.agg (.cons (.k (.i .i64)) (.one (.k (.list (.i .i64)))))) (.one (.k (.list .st)))))
def RR (d:(Int×List Int)×(Int×List Int)×List (List UInt8)):Prop:=d.1.2.length<=110/\d.2.1.2.length<=110/\d.2.2.length<=110/\∀ s∈d.2.2,s.length<=1000000
def Mq (d:(Int×List Int)×(Int×List Int)×List (List UInt8)):SV:=.tup [.val (.i .i64) (CX d.1.1 d.1.2 d.2.1.1 d.2.1.2 d.2.2),.val (.i .i64) (Ja d.1.1 d.1.2 d.2.1.1 d.2.1.2 d.2.2)]
def GG (d:(Int×List Int)×(Int×List Int)×List (List UInt8)):List OB:=[]
def NS:CSp:=W0 Dz RR Mq GG
def K7 (hk:Int) (lw:List Int) (hd:Int) (rows:List Int) (c:List (List UInt8)):Prop :=
 (lw.length<=110/\rows.length<=110/\c.length<=110/\∀ s∈c,s.length<=1000000)/\(((Qv hk lw hd rows c) != (0:Int))=true ->
  (((0:Int)=(CX hk lw hd rows c)/\(Qv hk lw hd rows c)=(Ja hk lw hd rows c)/\(([]:List SV)=[]))/\(True))) /\
 (((Qv hk lw hd rows c) != (0:Int))=false ->
  ∀ w1:List Value,∃ (e4:Int×(List Int)×(List (List UInt8))×(List (List UInt8))×Int×Int×(List Int)×Int×(List Int)×(List (List UInt8))×Int×(List Int)×Int×(List Int)×Int×Int×Int×(List Int)×Int×Int×(List Int)×Int×Int×(List Int)×Int×(List Int)×(List (List UInt8))×Int×(List Int)×Int×Int×(List Int)×Int×Int×Bool×Int×(List Int)×(List Value)) (d40:(List (List UInt8×Int))×(List (List UInt8×Int))×Int),((True/\True/\True/\True/\(lI (fEy hk lw hd rows c))=(pj4 e4).1/\(0:Int)=d40.2.2/\True)/\(((fHk hk lw hd rows c)=e4.1/\(fLw hk lw hd rows c)=e4.2.1/\True/\True/\(([]:List SV)=[]))/\((fEy hk lw hd rows c)=e4.2.2.1/\(fEy hk lw hd rows c).isEmpty=(List.isEmpty e4.2.2.1))/\((fWa hk lw hd rows c)=e4.2.2.2.1/\(fWa hk lw hd rows c).isEmpty=(List.isEmpty e4.2.2.2.1))/\(([]:List (List UInt8×Int))=d40.1)/\(([]:List (List UInt8×Int))=d40.2.1)/\((pj4 (Q4 (Q4 e4))).2=w1/\((hk=(pj4 e4).2.1/\lw=(pj4 e4).2.2.1/\(([]:List SV)=[]))/\(hd=(pj4 e4).2.2.2.1/\rows=(pj8 e4).1/\(([]:List SV)=[]))/\c=(pj8 e4).2.1/\True/\True/\True/\(0:Int)=(pj4 (pj8 e4)).2.2.1/\(0:Int)=(pj4 (pj8 e4)).2.2.2.1/\True/\(Qv hk lw hd rows c)=(Q4 e4).2.2.1/\True/\True/\True/\True/\True/\True/\(((fHk hk lw hd rows c)=(Q4 e4).2.2.2.1/\(fLw hk lw hd rows c)=(pj4 (Q4 e4)).1/\True/\True/\(([]:List SV)=[]))/\(Qv hk lw hd rows c)=(pj4 (Q4 e4)).2.1/\(([]:List SV)=[]))/\(hk=(pj4 (Q4 e4)).2.2.1/\lw=(pj4 (Q4 e4)).2.2.2.1/\(([]:List SV)=[]))/\(hd=(pj8 (Q4 e4)).1/\rows=(pj8 (Q4 e4)).2.1/\(([]:List SV)=[]))/\c=(pj8 (Q4 e4)).2.2.1/\(((fHk hk lw hd rows c)=(pj8 (Q4 e4)).2.2.2.1/\(fLw hk lw hd rows c)=(pj4 (pj8 (Q4 e4))).1/\True/\True/\(([]:List SV)=[]))/\(Qv hk lw hd rows c)=(pj4 (pj8 (Q4 e4))).2.1/\(([]:List SV)=[]))/\((fHk hk lw hd rows c)=(pj4 (pj8 (Q4 e4))).2.2.1/\(fLw hk lw hd rows c)=(pj4 (pj8 (Q4 e4))).2.2.2.1/\True/\True/\(([]:List SV)=[]))/\(Qv hk lw hd rows c)=(Q4 (Q4 e4)).1/\(Qv hk lw hd rows c)=(Q4 (Q4 e4)).2.1/\((Qv hk lw hd rows c) != (0:Int))=(Q4 (Q4 e4)).2.2.1/\True/\True/\((fHk hk lw hd rows c)=(Q4 (Q4 e4)).2.2.2.1/\(fLw hk lw hd rows c)=(pj4 (Q4 (Q4 e4))).1/\True/\True/\(([]:List SV)=[]))/\True/\True/\True/\True/\True/\True/\True/\True/\True/\True/\True/\True/\True/\True/\True/\True/\True/\True/\True/\True/\True/\True/\(([]:List SV)=[])))/\(hk=(pj8 e4).2.2.1/\lw=(pj8 e4).2.2.2.1/\(([]:List SV)=[]))/\(hd=(pj4 (pj8 e4)).1/\rows=(pj4 (pj8 e4)).2.1/\(([]:List SV)=[]))/\((fHk hk lw hd rows c)=(Q4 e4).1/\(fLw hk lw hd rows c)=(Q4 e4).2.1/\True/\True/\(([]:List SV)=[]))/\True)) /\
  LoopP (λ(d4:(List (List UInt8×Int))×(List (List UInt8×Int))×Int) (q4:((List (List UInt8×Int))×(List (List UInt8×Int))×Int)->Prop) =>
   ((decide (d4.2.2<(pj4 e4).1))=true ->
    (0<=d4.2.2)/\(d4.2.2<(List.length e4.2.2.1))/\(I64 ((gq.aget .st d4.1 (gD e4.2.2.1 d4.2.2 []) 0)+(1:Int)))/\(I64 ((gq.aget .st d4.2.1 (gD e4.2.2.1 d4.2.2 []) 0)+(1:Int)))/\(0<=d4.2.2)/\(d4.2.2<(List.length e4.2.2.2.1))/\(I64 ((gq.aget .st (XZ .st d4.2.1 (gD e4.2.2.1 d4.2.2 []) ((gq.aget .st d4.2.1 (gD e4.2.2.1 d4.2.2 []) 0)+(1:Int))) (gD e4.2.2.2.1 d4.2.2 []) 0)-(1:Int)))/\(I64 (d4.2.2+(1:Int)))/\(∃ d5:(List (List UInt8×Int))×(List (List UInt8×Int))×Int,((True/\True/\True/\True/\(pj4 e4).1=(pj4 e4).1/\(d4.2.2+(1:Int))=d5.2.2/\True)/\((e4.1=e4.1/\e4.2.1=e4.2.1/\True/\True/\(([]:List SV)=[]))/\(e4.2.2.1=e4.2.2.1/\(List.isEmpty e4.2.2.1)=(List.isEmpty e4.2.2.1))/\(e4.2.2.2.1=e4.2.2.2.1/\(List.isEmpty e4.2.2.2.1)=(List.isEmpty e4.2.2.2.1))/\((XZ .st d4.1 (gD e4.2.2.1 d4.2.2 []) ((gq.aget .st d4.1 (gD e4.2.2.1 d4.2.2 []) 0)+(1:Int)))=d5.1)/\((XZ .st (XZ .st d4.2.1 (gD e4.2.2.1 d4.2.2 []) ((gq.aget .st d4.2.1 (gD e4.2.2.1 d4.2.2 []) 0)+(1:Int))) (gD e4.2.2.2.1 d4.2.2 []) ((gq.aget .st (XZ .st d4.2.1 (gD e4.2.2.1 d4.2.2 []) ((gq.aget .st d4.2.1 (gD e4.2.2.1 d4.2.2 []) 0)+(1:Int))) (gD e4.2.2.2.1 d4.2.2 []) 0)-(1:Int)))=d5.2.1)/\((pj4 (Q4 (Q4 e4))).2=(pj4 (Q4 (Q4 e4))).2/\(((pj4 e4).2.1=(pj4 e4).2.1/\(pj4 e4).2.2.1=(pj4 e4).2.2.1/\(([]:List SV)=[]))/\((pj4 e4).2.2.2.1=(pj4 e4).2.2.2.1/\(pj8 e4).1=(pj8 e4).1/\(([]:List SV)=[]))/\(pj8 e4).2.1=(pj8 e4).2.1/\True/\True/\True/\(pj4 (pj8 e4)).2.2.1=(pj4 (pj8 e4)).2.2.1/\(pj4 (pj8 e4)).2.2.2.1=(pj4 (pj8 e4)).2.2.2.1/\True/\(Q4 e4).2.2.1=(Q4 e4).2.2.1/\True/\True/\True/\True/\True/\True/\(((Q4 e4).2.2.2.1=(Q4 e4).2.2.2.1/\(pj4 (Q4 e4)).1=(pj4 (Q4 e4)).1/\True/\True/\(([]:List SV)=[]))/\(pj4 (Q4 e4)).2.1=(pj4 (Q4 e4)).2.1/\(([]:List SV)=[]))/\((pj4 (Q4 e4)).2.2.1=(pj4 (Q4 e4)).2.2.1/\(pj4 (Q4 e4)).2.2.2.1=(pj4 (Q4 e4)).2.2.2.1/\(([]:List SV)=[]))/\((pj8 (Q4 e4)).1=(pj8 (Q4 e4)).1/\(pj8 (Q4 e4)).2.1=(pj8 (Q4 e4)).2.1/\(([]:List SV)=[]))/\(pj8 (Q4 e4)).2.2.1=(pj8 (Q4 e4)).2.2.1/\(((pj8 (Q4 e4)).2.2.2.1=(pj8 (Q4 e4)).2.2.2.1/\(pj4 (pj8 (Q4 e4))).1=(pj4 (pj8 (Q4 e4))).1/\True/\True/\(([]:List SV)=[]))/\(pj4 (pj8 (Q4 e4))).2.1=(pj4 (pj8 (Q4 e4))).2.1/\(([]:List SV)=[]))/\((pj4 (pj8 (Q4 e4))).2.2.1=(pj4 (pj8 (Q4 e4))).2.2.1/\(pj4 (pj8 (Q4 e4))).2.2.2.1=(pj4 (pj8 (Q4 e4))).2.2.2.1/\True/\True/\(([]:List SV)=[]))/\(Q4 (Q4 e4)).1=(Q4 (Q4 e4)).1/\(Q4 (Q4 e4)).2.1=(Q4 (Q4 e4)).2.1/\(Q4 (Q4 e4)).2.2.1=(Q4 (Q4 e4)).2.2.1/\True/\True/\((Q4 (Q4 e4)).2.2.2.1=(Q4 (Q4 e4)).2.2.2.1/\(pj4 (Q4 (Q4 e4))).1=(pj4 (Q4 (Q4 e4))).1/\True/\True/\(([]:List SV)=[]))/\True/\True/\True/\True/\True/\True/\True/\True/\True/\True/\True/\True/\True/\True/\True/\True/\True/\True/\True/\True/\True/\True/\(([]:List SV)=[])))/\((pj8 e4).2.2.1=(pj8 e4).2.2.1/\(pj8 e4).2.2.2.1=(pj8 e4).2.2.2.1/\(([]:List SV)=[]))/\((pj4 (pj8 e4)).1=(pj4 (pj8 e4)).1/\(pj4 (pj8 e4)).2.1=(pj4 (pj8 e4)).2.1/\(([]:List SV)=[]))/\((Q4 e4).1=(Q4 e4).1/\(Q4 e4).2.1=(Q4 e4).2.1/\True/\True/\(([]:List SV)=[]))/\True))/\q4 d5)) /\
   ((decide (d4.2.2<(pj4 e4).1))=false ->
    ∃ (e8:(List (List UInt8×Int))×(List (List UInt8×Int))×Int×(List Int)×Int×(List Int)×(List (List UInt8))×Int×(List Int)×Int×(List Int)×Int×Int×Int×(List Int)×(List (List UInt8))×(List (List UInt8))×Int×Int×(List Int)×Int×Int×(List Int)×Int×(List Int)×(List (List UInt8))×Int×(List Int)×Int×Int×(List Int)×Int×Int×Bool×Int×(List Int)×(List Value)) (d80:(List Nat)),((True/\True/\True)/\((d4.1=e8.1)/\(d4.2.1=e8.2.1/\([]:List Nat)=d80)/\((pj4 (Q4 (Q4 e8)))=(pj4 (Q4 (Q4 e4))).2/\(((pj4 e4).2.1=e8.2.2.1/\(pj4 e4).2.2.1=e8.2.2.2.1/\(([]:List SV)=[]))/\((pj4 e4).2.2.2.1=(pj4 e8).1/\(pj8 e4).1=(pj4 e8).2.1/\(([]:List SV)=[]))/\(pj8 e4).2.1=(pj4 e8).2.2.1/\True/\True/\True/\(pj4 (pj8 e4)).2.2.1=(pj8 e8).2.2.2.1/\(pj4 (pj8 e4)).2.2.2.1=(pj4 (pj8 e8)).1/\True/\(Q4 e4).2.2.1=(Q4 e8).2.1/\True/\True/\True/\True/\True/\True/\(((Q4 e4).2.2.2.1=(Q4 e8).2.2.1/\(pj4 (Q4 e4)).1=(Q4 e8).2.2.2.1/\True/\True/\(([]:List SV)=[]))/\(pj4 (Q4 e4)).2.1=(pj4 (Q4 e8)).1/\(([]:List SV)=[]))/\((pj4 (Q4 e4)).2.2.1=(pj4 (Q4 e8)).2.1/\(pj4 (Q4 e4)).2.2.2.1=(pj4 (Q4 e8)).2.2.1/\(([]:List SV)=[]))/\((pj8 (Q4 e4)).1=(pj4 (Q4 e8)).2.2.2.1/\(pj8 (Q4 e4)).2.1=(pj8 (Q4 e8)).1/\(([]:List SV)=[]))/\(pj8 (Q4 e4)).2.2.1=(pj8 (Q4 e8)).2.1/\(((pj8 (Q4 e4)).2.2.2.1=(pj8 (Q4 e8)).2.2.1/\(pj4 (pj8 (Q4 e4))).1=(pj8 (Q4 e8)).2.2.2.1/\True/\True/\(([]:List SV)=[]))/\(pj4 (pj8 (Q4 e4))).2.1=(pj4 (pj8 (Q4 e8))).1/\(([]:List SV)=[]))/\((pj4 (pj8 (Q4 e4))).2.2.1=(pj4 (pj8 (Q4 e8))).2.1/\(pj4 (pj8 (Q4 e4))).2.2.2.1=(pj4 (pj8 (Q4 e8))).2.2.1/\True/\True/\(([]:List SV)=[]))/\(Q4 (Q4 e4)).1=(pj4 (pj8 (Q4 e8))).2.2.2.1/\(Q4 (Q4 e4)).2.1=(Q4 (Q4 e8)).1/\(Q4 (Q4 e4)).2.2.1=(Q4 (Q4 e8)).2.1/\True/\True/\((Q4 (Q4 e4)).2.2.2.1=(Q4 (Q4 e8)).2.2.1/\(pj4 (Q4 (Q4 e4))).1=(Q4 (Q4 e8)).2.2.2.1/\True/\True/\(([]:List SV)=[]))/\True/\True/\True/\True/\True/\True/\True/\True/\True/\True/\True/\True/\True/\True/\True/\True/\True/\True/\True/\True/\True/\True/\(([]:List SV)=[])))/\((pj8 e4).2.2.1=(pj4 e8).2.2.2.1/\(pj8 e4).2.2.2.1=(pj8 e8).1/\(([]:List SV)=[]))/\((pj4 (pj8 e4)).1=(pj8 e8).2.1/\(pj4 (pj8 e4)).2.1=(pj8 e8).2.2.1/\(([]:List SV)=[]))/\((Q4 e4).1=(pj4 (pj8 e8)).2.1/\(Q4 e4).2.1=(pj4 (pj8 e8)).2.2.1/\True/\True/\(([]:List SV)=[]))/\(e4.2.2.1=(pj4 (pj8 e8)).2.2.2.1/\(List.isEmpty e4.2.2.1)=(List.isEmpty (pj4 (pj8 e8)).2.2.2.1))/\(e4.2.2.2.1=(Q4 e8).1/\(List.isEmpty e4.2.2.2.1)=(List.isEmpty (Q4 e8).1))/\True)) /\
    LoopP (λ(d8:(List Nat)) (q8:((List Nat))->Prop) =>
     ((∀ r:Nat,r<(List.length e8.2.1)->r∈d8) ->
      (pj4 (Q4 (Q4 e8)))=w1/\∃ (kg:(List (List UInt8×Int))) (d120:Int×(List Nat)),(((1:Int)=d120.1/\True/\True)/\((e8.1=kg/\([]:List Nat)=d120.2)/\True)) /\
      LoopP (λ(d12:Int×(List Nat)) (mI:(Int×(List Nat))->Prop) =>
       ((∀ r:Nat,r<(List.length kg)->r∈d12.2) ->
        ((d12.1=(CX hk lw hd rows c)/\(0:Int)=(Ja hk lw hd rows c)/\(([]:List SV)=[]))/\(True))) /\
       (∀ oH:Nat,oH<(List.length kg)->oH∉d12.2 ->
        ((d12.2++[oH])≠[])/\∃ (gv:Int×(List (List UInt8×Int))×(List Nat)) (d160:Int×Int),((d12.1=d160.1/\(List.getD kg (List.getLastD (d12.2++[oH]) 0) ([],0)).2=gv.1/\(2:Int)=d160.2/\True/\True)/\((kg=gv.2.1/\(d12.2++[oH])=gv.2.2)/\True)) /\
        LoopP (λ(d16:Int×Int) (vV:(Int×Int)->Prop) =>
         ((decide (d16.2<=gv.1))=true ->
          (I64 (d16.1*d16.2))/\((decide ((d16.1*d16.2) > (1000000000000:Int)))=true ->
           (((0:Int)=(CX hk lw hd rows c)/\(8:Int)=(Ja hk lw hd rows c)/\(([]:List SV)=[]))/\(True))) /\
          ((decide ((d16.1*d16.2) > (1000000000000:Int)))=false ->
           (I64 (d16.2+(1:Int)))/\(∃ d17:Int×Int,(((d16.1*d16.2)=d17.1/\gv.1=gv.1/\(d16.2+(1:Int))=d17.2/\True/\True)/\((gv.2.1=gv.2.1/\gv.2.2=gv.2.2)/\True))/\vV d17))) /\
         ((decide (d16.2<=gv.1))=false ->
          (∃ d18:Int×(List Nat),((d16.1=d18.1/\True/\True)/\((gv.2.1=kg/\gv.2.2=d18.2)/\True))/\mI d18))) d160)) d120) /\
     (∀ r9:Nat,r9<(List.length e8.2.1)->r9∉d8 ->
      ((d8++[r9])≠[])/\(((List.getD e8.2.1 (List.getLastD (d8++[r9]) 0) ([],0)).2 != (0:Int))=true ->
       (pj4 (Q4 (Q4 e8)))=w1/\(((0:Int)=(CX hk lw hd rows c)/\(0:Int)=(Ja hk lw hd rows c)/\(([]:List SV)=[]))/\(True))) /\
      (((List.getD e8.2.1 (List.getLastD (d8++[r9]) 0) ([],0)).2 != (0:Int))=false ->
       (∃ d19:(List Nat),((True/\True/\True)/\((e8.1=e8.1)/\(e8.2.1=e8.2.1/\(d8++[r9])=d19)/\((pj4 (Q4 (Q4 e8)))=(pj4 (Q4 (Q4 e8)))/\((e8.2.2.1=e8.2.2.1/\e8.2.2.2.1=e8.2.2.2.1/\(([]:List SV)=[]))/\((pj4 e8).1=(pj4 e8).1/\(pj4 e8).2.1=(pj4 e8).2.1/\(([]:List SV)=[]))/\(pj4 e8).2.2.1=(pj4 e8).2.2.1/\True/\True/\True/\(pj8 e8).2.2.2.1=(pj8 e8).2.2.2.1/\(pj4 (pj8 e8)).1=(pj4 (pj8 e8)).1/\True/\(Q4 e8).2.1=(Q4 e8).2.1/\True/\True/\True/\True/\True/\True/\(((Q4 e8).2.2.1=(Q4 e8).2.2.1/\(Q4 e8).2.2.2.1=(Q4 e8).2.2.2.1/\True/\True/\(([]:List SV)=[]))/\(pj4 (Q4 e8)).1=(pj4 (Q4 e8)).1/\(([]:List SV)=[]))/\((pj4 (Q4 e8)).2.1=(pj4 (Q4 e8)).2.1/\(pj4 (Q4 e8)).2.2.1=(pj4 (Q4 e8)).2.2.1/\(([]:List SV)=[]))/\((pj4 (Q4 e8)).2.2.2.1=(pj4 (Q4 e8)).2.2.2.1/\(pj8 (Q4 e8)).1=(pj8 (Q4 e8)).1/\(([]:List SV)=[]))/\(pj8 (Q4 e8)).2.1=(pj8 (Q4 e8)).2.1/\(((pj8 (Q4 e8)).2.2.1=(pj8 (Q4 e8)).2.2.1/\(pj8 (Q4 e8)).2.2.2.1=(pj8 (Q4 e8)).2.2.2.1/\True/\True/\(([]:List SV)=[]))/\(pj4 (pj8 (Q4 e8))).1=(pj4 (pj8 (Q4 e8))).1/\(([]:List SV)=[]))/\((pj4 (pj8 (Q4 e8))).2.1=(pj4 (pj8 (Q4 e8))).2.1/\(pj4 (pj8 (Q4 e8))).2.2.1=(pj4 (pj8 (Q4 e8))).2.2.1/\True/\True/\(([]:List SV)=[]))/\(pj4 (pj8 (Q4 e8))).2.2.2.1=(pj4 (pj8 (Q4 e8))).2.2.2.1/\(Q4 (Q4 e8)).1=(Q4 (Q4 e8)).1/\(Q4 (Q4 e8)).2.1=(Q4 (Q4 e8)).2.1/\True/\True/\((Q4 (Q4 e8)).2.2.1=(Q4 (Q4 e8)).2.2.1/\(Q4 (Q4 e8)).2.2.2.1=(Q4 (Q4 e8)).2.2.2.1/\True/\True/\(([]:List SV)=[]))/\True/\True/\True/\True/\True/\True/\True/\True/\True/\True/\True/\True/\True/\True/\True/\True/\True/\True/\True/\True/\True/\True/\(([]:List SV)=[])))/\((pj4 e8).2.2.2.1=(pj4 e8).2.2.2.1/\(pj8 e8).1=(pj8 e8).1/\(([]:List SV)=[]))/\((pj8 e8).2.1=(pj8 e8).2.1/\(pj8 e8).2.2.1=(pj8 e8).2.2.1/\(([]:List SV)=[]))/\((pj4 (pj8 e8)).2.1=(pj4 (pj8 e8)).2.1/\(pj4 (pj8 e8)).2.2.1=(pj4 (pj8 e8)).2.2.1/\True/\True/\(([]:List SV)=[]))/\((pj4 (pj8 e8)).2.2.2.1=(pj4 (pj8 e8)).2.2.2.1/\(List.isEmpty (pj4 (pj8 e8)).2.2.2.1)=(List.isEmpty (pj4 (pj8 e8)).2.2.2.1))/\((Q4 e8).1=(Q4 e8).1/\(List.isEmpty (Q4 e8).1)=(List.isEmpty (Q4 e8).1))/\True))/\q8 d19)))) d80)) d40)
def Je:Cx:=⟨[(1000010,(.pair .st (.i .i64))),(1000011,(.pair .st (.i .i64)))],[],46,[3000040],0,[],[],[],[],false,[],[],[40],[]⟩
def J9:List (Nat×LoopAnn):=[(0,⟨Int×(List Int)×(List (List UInt8))×(List (List UInt8))×Int×Int×(List Int)×Int×(List Int)×(List (List UInt8))×Int×(List Int)×Int×(List Int)×Int×Int×Int×(List Int)×Int×Int×(List Int)×Int×Int×(List Int)×Int×(List Int)×(List (List UInt8))×Int×(List Int)×Int×Int×(List Int)×Int×Int×Bool×Int×(List Int)×(List Value),(List (List UInt8×Int))×(List (List UInt8×Int))×Int,[1,4,5,13,14,15],λe x=>[.box 2900001 0,.map 2900010,.map 2900011,.lst 20,.val (.i .i64) e.2.2.2.2.1,.val (.i .i64) x.2.2],λe x=>[(2900001,.slot 1,.cells [.val (.i .i64) e.1,.val (.list (.i .i64)) e.2.1,.lst 20,.lst 500020] (some 72)),(20,.cell 2900001 2,.lst 80 .st e.2.2.1 (List.isEmpty e.2.2.1)),(500020,.cell 2900001 3,.lst 80 .st e.2.2.2.1 (List.isEmpty e.2.2.2.1)),(2900010,.slot 4,.map .st (.i .i64) x.1),(2900011,.slot 5,.map .st (.i .i64) x.2.1),(2899999,.key 2899999,.stk [.agg [.val (.i .i64) e.2.2.2.2.2.1,.val (.list (.i .i64)) e.2.2.2.2.2.2.1],.agg [.val (.i .i64) e.2.2.2.2.2.2.2.1,.val (.list (.i .i64)) e.2.2.2.2.2.2.2.2.1],.val (.list .st) e.2.2.2.2.2.2.2.2.2.1,.box 3 0,.box 4 0,.any,.val (.i .i64) e.2.2.2.2.2.2.2.2.2.2.2.2.2.2.1,.val (.i .i64) e.2.2.2.2.2.2.2.2.2.2.2.2.2.2.2.1,.box 8 0,.val (.i .i64) e.2.2.2.2.2.2.2.2.2.2.2.2.2.2.2.2.2.2.1,.any,.any,.any,.any,.any,.any,.tup [.agg [.val (.i .i64) e.2.2.2.2.2.2.2.2.2.2.2.2.2.2.2.2.2.2.2.1,.val (.list (.i .i64)) e.2.2.2.2.2.2.2.2.2.2.2.2.2.2.2.2.2.2.2.2.1,.lst 20,.lst 500020],.val (.i .i64) e.2.2.2.2.2.2.2.2.2.2.2.2.2.2.2.2.2.2.2.2.2.1],.agg [.val (.i .i64) e.2.2.2.2.2.2.2.2.2.2.2.2.2.2.2.2.2.2.2.2.2.2.1,.val (.list (.i .i64)) e.2.2.2.2.2.2.2.2.2.2.2.2.2.2.2.2.2.2.2.2.2.2.2.1],.agg [.val (.i .i64) e.2.2.2.2.2.2.2.2.2.2.2.2.2.2.2.2.2.2.2.2.2.2.2.2.1,.val (.list (.i .i64)) e.2.2.2.2.2.2.2.2.2.2.2.2.2.2.2.2.2.2.2.2.2.2.2.2.2.1],.val (.list .st) e.2.2.2.2.2.2.2.2.2.2.2.2.2.2.2.2.2.2.2.2.2.2.2.2.2.2.1,.tup [.agg [.val (.i .i64) e.2.2.2.2.2.2.2.2.2.2.2.2.2.2.2.2.2.2.2.2.2.2.2.2.2.2.2.1,.val (.list (.i .i64)) e.2.2.2.2.2.2.2.2.2.2.2.2.2.2.2.2.2.2.2.2.2.2.2.2.2.2.2.2.1,.lst 20,.lst 500020],.val (.i .i64) e.2.2.2.2.2.2.2.2.2.2.2.2.2.2.2.2.2.2.2.2.2.2.2.2.2.2.2.2.2.1],.agg [.val (.i .i64) e.2.2.2.2.2.2.2.2.2.2.2.2.2.2.2.2.2.2.2.2.2.2.2.2.2.2.2.2.2.2.1,.val (.list (.i .i64)) e.2.2.2.2.2.2.2.2.2.2.2.2.2.2.2.2.2.2.2.2.2.2.2.2.2.2.2.2.2.2.2.1,.lst 20,.lst 500020],.val (.i .i64) e.2.2.2.2.2.2.2.2.2.2.2.2.2.2.2.2.2.2.2.2.2.2.2.2.2.2.2.2.2.2.2.2.1,.val (.i .i64) e.2.2.2.2.2.2.2.2.2.2.2.2.2.2.2.2.2.2.2.2.2.2.2.2.2.2.2.2.2.2.2.2.2.1,.val .bo e.2.2.2.2.2.2.2.2.2.2.2.2.2.2.2.2.2.2.2.2.2.2.2.2.2.2.2.2.2.2.2.2.2.2.1,.any,.any,.agg [.val (.i .i64) e.2.2.2.2.2.2.2.2.2.2.2.2.2.2.2.2.2.2.2.2.2.2.2.2.2.2.2.2.2.2.2.2.2.2.2.1,.val (.list (.i .i64)) e.2.2.2.2.2.2.2.2.2.2.2.2.2.2.2.2.2.2.2.2.2.2.2.2.2.2.2.2.2.2.2.2.2.2.2.2.1,.lst 20,.lst 500020],.any,.any,.any,.any,.any,.any,.any,.any,.any,.any,.any,.any,.any,.any,.any,.any,.any,.any,.any,.any,.any,.any] e.2.2.2.2.2.2.2.2.2.2.2.2.2.2.2.2.2.2.2.2.2.2.2.2.2.2.2.2.2.2.2.2.2.2.2.2.2),(3,.key 3,.cells [.val (.i .i64) e.2.2.2.2.2.2.2.2.2.2.1,.val (.list (.i .i64)) e.2.2.2.2.2.2.2.2.2.2.2.1] (some 29)),(4,.key 4,.cells [.val (.i .i64) e.2.2.2.2.2.2.2.2.2.2.2.2.1,.val (.list (.i .i64)) e.2.2.2.2.2.2.2.2.2.2.2.2.2.1] (some 32)),(8,.key 8,.cells [.val (.i .i64) e.2.2.2.2.2.2.2.2.2.2.2.2.2.2.2.2.1,.val (.list (.i .i64)) e.2.2.2.2.2.2.2.2.2.2.2.2.2.2.2.2.2.1,.lst 20,.lst 500020] (some 72))]⟩),
 (2,⟨(List (List UInt8×Int))×(List (List UInt8×Int))×Int×(List Int)×Int×(List Int)×(List (List UInt8))×Int×(List Int)×Int×(List Int)×Int×Int×Int×(List Int)×(List (List UInt8))×(List (List UInt8))×Int×Int×(List Int)×Int×Int×(List Int)×Int×(List Int)×(List (List UInt8))×Int×(List Int)×Int×Int×(List Int)×Int×Int×Bool×Int×(List Int)×(List Value),(List Nat),[4,38],λe x=>[.map 2900010,.box 2900038 0],λe x=>[(2900010,.slot 4,.map .st (.i .i64) e.1),(2900038,.slot 38,.iter .st (.i .i64) e.2.1 x),(2899999,.key 2899999,.stk [.agg [.val (.i .i64) e.2.2.1,.val (.list (.i .i64)) e.2.2.2.1],.agg [.val (.i .i64) e.2.2.2.2.1,.val (.list (.i .i64)) e.2.2.2.2.2.1],.val (.list .st) e.2.2.2.2.2.2.1,.box 3 0,.box 4 0,.any,.val (.i .i64) e.2.2.2.2.2.2.2.2.2.2.2.1,.val (.i .i64) e.2.2.2.2.2.2.2.2.2.2.2.2.1,.box 8 0,.val (.i .i64) e.2.2.2.2.2.2.2.2.2.2.2.2.2.2.2.2.2.1,.any,.any,.any,.any,.any,.any,.tup [.agg [.val (.i .i64) e.2.2.2.2.2.2.2.2.2.2.2.2.2.2.2.2.2.2.1,.val (.list (.i .i64)) e.2.2.2.2.2.2.2.2.2.2.2.2.2.2.2.2.2.2.2.1,.lst 20,.lst 500020],.val (.i .i64) e.2.2.2.2.2.2.2.2.2.2.2.2.2.2.2.2.2.2.2.2.1],.agg [.val (.i .i64) e.2.2.2.2.2.2.2.2.2.2.2.2.2.2.2.2.2.2.2.2.2.1,.val (.list (.i .i64)) e.2.2.2.2.2.2.2.2.2.2.2.2.2.2.2.2.2.2.2.2.2.2.1],.agg [.val (.i .i64) e.2.2.2.2.2.2.2.2.2.2.2.2.2.2.2.2.2.2.2.2.2.2.2.1,.val (.list (.i .i64)) e.2.2.2.2.2.2.2.2.2.2.2.2.2.2.2.2.2.2.2.2.2.2.2.2.1],.val (.list .st) e.2.2.2.2.2.2.2.2.2.2.2.2.2.2.2.2.2.2.2.2.2.2.2.2.2.1,.tup [.agg [.val (.i .i64) e.2.2.2.2.2.2.2.2.2.2.2.2.2.2.2.2.2.2.2.2.2.2.2.2.2.2.1,.val (.list (.i .i64)) e.2.2.2.2.2.2.2.2.2.2.2.2.2.2.2.2.2.2.2.2.2.2.2.2.2.2.2.1,.lst 20,.lst 500020],.val (.i .i64) e.2.2.2.2.2.2.2.2.2.2.2.2.2.2.2.2.2.2.2.2.2.2.2.2.2.2.2.2.1],.agg [.val (.i .i64) e.2.2.2.2.2.2.2.2.2.2.2.2.2.2.2.2.2.2.2.2.2.2.2.2.2.2.2.2.2.1,.val (.list (.i .i64)) e.2.2.2.2.2.2.2.2.2.2.2.2.2.2.2.2.2.2.2.2.2.2.2.2.2.2.2.2.2.2.1,.lst 20,.lst 500020],.val (.i .i64) e.2.2.2.2.2.2.2.2.2.2.2.2.2.2.2.2.2.2.2.2.2.2.2.2.2.2.2.2.2.2.2.1,.val (.i .i64) e.2.2.2.2.2.2.2.2.2.2.2.2.2.2.2.2.2.2.2.2.2.2.2.2.2.2.2.2.2.2.2.2.1,.val .bo e.2.2.2.2.2.2.2.2.2.2.2.2.2.2.2.2.2.2.2.2.2.2.2.2.2.2.2.2.2.2.2.2.2.1,.any,.any,.agg [.val (.i .i64) e.2.2.2.2.2.2.2.2.2.2.2.2.2.2.2.2.2.2.2.2.2.2.2.2.2.2.2.2.2.2.2.2.2.2.1,.val (.list (.i .i64)) e.2.2.2.2.2.2.2.2.2.2.2.2.2.2.2.2.2.2.2.2.2.2.2.2.2.2.2.2.2.2.2.2.2.2.2.1,.lst 20,.lst 500020],.any,.any,.any,.any,.any,.any,.any,.any,.any,.any,.any,.any,.any,.any,.any,.any,.any,.any,.any,.any,.any,.any] e.2.2.2.2.2.2.2.2.2.2.2.2.2.2.2.2.2.2.2.2.2.2.2.2.2.2.2.2.2.2.2.2.2.2.2.2),(3,.key 3,.cells [.val (.i .i64) e.2.2.2.2.2.2.2.1,.val (.list (.i .i64)) e.2.2.2.2.2.2.2.2.1] (some 29)),(4,.key 4,.cells [.val (.i .i64) e.2.2.2.2.2.2.2.2.2.1,.val (.list (.i .i64)) e.2.2.2.2.2.2.2.2.2.2.1] (some 32)),(8,.key 8,.cells [.val (.i .i64) e.2.2.2.2.2.2.2.2.2.2.2.2.2.1,.val (.list (.i .i64)) e.2.2.2.2.2.2.2.2.2.2.2.2.2.2.1,.lst 20,.lst 500020] (some 72)),(20,.cell 8 2,.lst 80 .st e.2.2.2.2.2.2.2.2.2.2.2.2.2.2.2.1 (List.isEmpty e.2.2.2.2.2.2.2.2.2.2.2.2.2.2.2.1)),(500020,.cell 8 3,.lst 80 .st e.2.2.2.2.2.2.2.2.2.2.2.2.2.2.2.2.1 (List.isEmpty e.2.2.2.2.2.2.2.2.2.2.2.2.2.2.2.2.1))]⟩)]
def DH:Cx:=⟨[],[],50,[3000036,3000032],0,[(27,XR),(28,Q1x Je (λ_=>J9) c28 [.tmp 2,.tmp 3] 46)],[],[],[],false,[],[],[36,32],[]⟩
def Sy (hk:Int) (lw:List Int) (hd:Int) (rows:List Int) (c:List (List UInt8)):List (Nat×LoopAnn):=[(0,⟨(List (List UInt8×Int)),Int×(List Nat),[12,34],λe x=>[.val (.i .i64) x.1,.box 34 0],λe x=>[(34,.slot 34,.iter .st (.i .i64) e x.2)]⟩),
 (2,⟨Int×(List (List UInt8×Int))×(List Nat),Int×Int,[12,14,15,34],λe x=>[.val (.i .i64) x.1,.val (.i .i64) e.1,.val (.i .i64) x.2,.box 34 0],λe x=>[(34,.slot 34,.iter .st (.i .i64) e.2.1 e.2.2)]⟩)]
theorem SZ (d:(Int×List Int)×(Int×List Int)×List (List UInt8)):gwp (DH) (Sy d.1.1 d.1.2 d.2.1.1 d.2.1.2 d.2.2) c15 0 (WY [.tmp 6,.tmp 7] (Mq d) (GG d)) (Qk 50 (AL.can Dz d))=K7 d.1.1 d.1.2 d.2.1.1 d.2.1.2 d.2.2:=by kernel_rfl
abbrev L4:Prop:=OkC Tryd.prog 15 NS
theorem C6 (h:∀ (hk:Int) (lw:List Int) (hd:Int) (rows:List Int) (c:List (List UInt8)),(lw.length<=110/\rows.length<=110/\c.length<=110/\∀ s∈c,s.length<=1000000)->K7 hk lw hd rows c):OkC Tryd.prog 15 NS :=
 QF Q3t mixed (C:=DH) (V:=λ(d:(Int×List Int)×(Int×List Int)×List (List UInt8))=>K7 d.1.1 d.1.2 d.2.1.1 d.2.1.2 d.2.2) ⟨.nil,(XsOk.cons KP (XsOk.cons (GZ Q20 mixed (C:=Je) ⟨.nil,XsOk.nil,ItsOk.nil,YlOk.nil,IysOk.nil,XfOk.nil⟩ (λ_=>J9)) XsOk.nil)),ItsOk.nil,YlOk.nil,IysOk.nil,XfOk.nil⟩ (SZ) λd hp=>h d.1.1 d.1.2 d.2.1.1 d.2.1.2 d.2.2 hp
theorem Sz:L4:=C6 λhk lw hd rows c h=>by
 obtain⟨h1,h2,h3,h4⟩:=h;unfold K7;(try delta lI gD sT I64 Q4 pj8 pj4);refine⟨⟨h1,h2,h3,h4⟩,λe=>?_,λe=>?_⟩
 .have hz:¬ Qv hk lw hd rows c=0:=by simpa using e
  have he:Ja hk lw hd rows c=Qv hk lw hd rows c:=by rw[Ja,z7 hz]
  have hn:CX hk lw hd rows c=0:=by rw[CX,he,z6 (λh=>hz h.1)]
  rw[hn,he];and_intros<;>first|rfl|trivial
 have he:Qv hk lw hd rows c=0:=by simpa using e
 have q1:fHk hk lw hd rows c=hk:=z7 he;have q2:fLw hk lw hd rows c=lw:=z7 he;have q3:fEy hk lw hd rows c=eyF lw rows:=z7 he;have q4:fWa hk lw hd rows c=waF lw c:=z7 he;have hE:Ja hk lw hd rows c=if okL (lfM (eyF lw rows) (waF lw c) lw.length)=true/\1000000000000<Bx (eyM (eyF lw rows) lw.length) then 8 else 0:=by rw[Ja,z6 (by simpa using he)];rfl
 have hN:CX hk lw hd rows c=if Ja hk lw hd rows c=0/\okL (lfM (eyF lw rows) (waF lw c) lw.length)=true then Bx (eyM (eyF lw rows) lw.length) else 0:=rfl
 have l1:=Iw lw rows;have l2:=Oq lw c;rw[q1,q2,q3,q4];generalize eyF lw rows=ey at *
 generalize waF lw c=wa at *
 simp only[Zs,zg,zk];intro w1;refine⟨(hk,lw,ey,wa,((ey.length:Nat):Int),hk,lw,hd,rows,c,_,_,_,_,_,_,_,_,_,_,_,_,_,_,_,_,_,_,_,_,_,_,_,_,_,_,_,w1),([],[],0),(by and_intros<;>first|rfl|trivial|simp),?_⟩;refine⟨λd=>∃ i:Nat,i<=lw.length/\d=(eyM ey i,lfM ey wa i,(i:Int)),λd=>lw.length-d.2.2.toNat,⟨0,Nat.zero_le _,rfl⟩,?_⟩;rintro _ ⟨i,hi,rfl⟩;dsimp only;simp only[zh];refine⟨λaf=>?_,λaZ=>?_⟩
 .have hA:=HI ey (ey.getD i []) i;have hB:=NU ey wa i (ey.getD i []);have hC:=A5 ey wa (wa.getD i []) i (NU ey wa i (wa.getD i []));rw[Q2k] at hC;have b1:=QA (λj=>ey.getD i []==ey.getD j []) i;have b2:=XI (λj=>ey.getD i []==ey.getD j []) i;have b3:=QA (λj=>ey.getD i []==wa.getD j []) i;have b4:=XI (λj=>ey.getD i []==wa.getD j []) i;have b5:=QA (λj=>wa.getD i []==ey.getD j []) (i+1);have b6:=XI (λj=>wa.getD i []==ey.getD j []) (i+1);have b7:=QA (λj=>wa.getD i []==wa.getD j []) i;have b8:=XI (λj=>wa.getD i []==wa.getD j []) i;exact⟨by omega,by omega,by omega,by omega,by omega,by omega,by omega,by omega,(eyM ey (i+1),lfM ey wa (i+1),(i:Int)+1),(by and_intros<;>first|rfl|trivial|simp),⟨i+1,by omega,rfl⟩,by dsimp only;omega⟩
 have:i=lw.length:=by omega
 subst this;have mu:=Q1o ey lw.length;generalize lfM ey wa lw.length=M at *
 generalize eyM ey lw.length=E at *
 refine⟨(E,M,_,_,_,_,_,_,_,_,_,_,_,_,_,ey,wa,_,_,_,_,_,_,_,_,_,_,_,_,_,_,_,_,_,_,_,_),[],(by and_intros<;>first|rfl|trivial|simp),?_⟩;refine⟨λd=>d.Nodup/\(∀ r∈d,r<M.length)/\∀ r∈d,(M.getD r ([],0)).2=0,λd=>M.length-d.length,⟨List.nodup_nil,(λr hr=>by cases hr),(λr hr=>by cases hr)⟩,?_⟩;rintro cG ⟨i1,i2,i3⟩;dsimp only;refine⟨λhall=>?_,λr hr iE=>?_⟩
 .have aj:=Q1m i3 hall;refine⟨rfl,E,(1,[]),(by and_intros<;>first|rfl|trivial|simp),?_⟩;refine⟨λd=>d.2.Nodup/\(∀ r∈d.2,r<E.length)/\d.1=pI (d.2.map λr=>JV (E.getD r ([],0)).2.toNat)/\d.1<=1000000000000,λd=>E.length-d.2.length,⟨List.nodup_nil,(λr hr=>by cases hr),rfl,by decide⟩,?_⟩;rintro⟨P,vs⟩ ⟨j1,j2,j3,j4⟩;dsimp only at j1 j2 j3 j4 |-;refine⟨λoI=>?_,λr hr iE=>?_⟩
  .rw[(At E j1 j2).2 oI] at j3;rw[z6 (by omega)] at hE;rw[hN,hE,z7 ⟨rfl,aj⟩];and_intros<;>first|rfl|trivial|exact j3
  .obtain⟨v1,v2,v3,v4⟩:=R4 j1 j2 hr iE;rw[v3];have hP:1<=P:=by
    rw[j3];refine AV λx hx=>?_;obtain⟨r,_,rfl⟩:=zM.1 hx;exact YJ _
   have hv:=mu (E.getD r ([],0)) (by rw[Q7 hr];exact zi hr);have hle:=(At E v1 v2).1;have jY:pI ((vs++[r]).map λr=>JV (E.getD r ([],0)).2.toNat)=P*JV (E.getD r ([],0)).2.toNat:=by rw[xr,HW,<-j3];simp[pI]
   rw[jY] at hle;generalize E.getD r ([],0)=x at *
   obtain⟨u,hu⟩:=zo (show 0<=x.2 by omega);rw[hu] at hv hle jY |-;simp only[zh] at hle jY;refine⟨by simp,((u:Int),E,vs++[r]),(P,2),(by and_intros<;>first|rfl|trivial|simp),?_⟩;refine⟨λd=>∃ j:Nat,1<=j/\j<=u/\d=(P*JV j,(j:Int)+1)/\P*JV j<=1000000000000,λd=>u+1-d.2.toNat,⟨1,by omega,by omega,by simp[JV],by simpa [JV] using j4⟩,?_⟩;rintro _ ⟨j,k1,k2,rfl,k4⟩;dsimp only;have hf:=YJ j;have hX:1*1<=P*JV j:=Int.mul_le_mul hP hf (by omega) (by omega);refine⟨λaf=>?_,λaZ=>?_⟩
   .have hY:P*JV j*((j:Int)+1)=P*JV (j+1):=by rw[JV,Int.mul_assoc]
    have hZ:P*JV j*((j:Int)+1)<=1000000000000*111:=Int.mul_le_mul k4 (by omega) (by omega) (by omega);have hW:0<=P*JV j*((j:Int)+1):=Int.mul_nonneg (by omega) (by omega);refine⟨by omega,λvW=>?_,λnL=>⟨by omega,(P*JV (j+1),(j:Int)+1+1),?_,⟨j+1,by omega,by omega,by simp,by omega⟩,by dsimp only;omega⟩⟩
    .have oJ:=EA (show j+1<=u by omega);have:P*JV (j+1)<=P*JV u:=Int.mul_le_mul (Int.le_refl _) oJ (by have:=YJ (j+1);omega) (by omega);rw[z7 ⟨aj,by omega⟩] at hE;rw[hN,hE,z6 (by simp)];and_intros<;>first|rfl|trivial
    .and_intros<;>first|exact hY|rfl|trivial
   .have:j=u:=by omega
    subst this;refine⟨(P*JV j,vs++[r]),(by and_intros<;>first|rfl|trivial|simp),⟨v1,v2,jY.symm,k4⟩,by rw[zF,zl];omega⟩
 .obtain⟨v1,v2,v3,v4⟩:=R4 i1 i2 hr iE;rw[v3];refine⟨by simp,λhz=>⟨rfl,?_⟩,λhz=>⟨cG++[r],(by and_intros<;>first|rfl|trivial|simp),⟨v1,v2,λx hx=>?_⟩,by rw[zF,zl];omega⟩⟩
  .have tD:=Io hr (by simpa using hz);rw[z6 (by rw[tD];simp)] at hE;rw[hN,z6 (by rw[tD];simp),hE];and_intros<;>first|rfl|trivial
  .rcases x7.1 hx with hx|hx
   .exact i3 x hx
   .rw[zI.1 hx];simpa using hz
def Y6:AL ((Int×List Int×List Int×List Int)×Int):=(.cons (.agg (.cons (.k (.i .u8)) (.cons (.k (.list (.i .u8))) (.cons (.k (.list (.i .u16))) (.one (.k (.list (.i .u8)))))))) (.one (.k (.i .i64))))
def Uv (d:(Int×List Int×List Int×List Int)×Int):Prop:=1<=d.2/\d.2<=24/\bOk d.1.1 d.1.2.1 d.1.2.2.1 d.1.2.2.2
def WJ (d:(Int×List Int×List Int×List Int)×Int):SV:=.lst 0
def WC (d:(Int×List Int×List Int×List Int)×Int):List OB:=[.lst 3 (.i .i64) (Z8 d.1.2.2.2 d.2.toNat) false]
def Xk:CSp:=W0 Y6 Uv WJ WC
def J1 (h8:Int) (ws:List Int) (rs:List Int) (ds:List Int) (n:Int):Prop :=
 ∃ (e3:Unit) (d30:(List Int)×Int),((n=n/\True/\True/\(0:Int)=d30.2/\True)/\((h8=h8/\ws=ws/\rs=rs/\ds=ds/\(([]:List SV)=[]))/\(([]:List Int)=d30.1/\false=false)/\True)) /\
 LoopP (λ(d3:(List Int)×Int) (q3:((List Int)×Int)->Prop) =>
  ((decide (d3.2<n))=true ->
   (((List.length d3.1)+(List.length [d3.2]))*8<=70368744177664)/\(I64 (d3.2+(1:Int)))/\(∃ d4:(List Int)×Int,((n=n/\True/\True/\(d3.2+(1:Int))=d4.2/\True)/\((h8=h8/\ws=ws/\rs=rs/\ds=ds/\(([]:List SV)=[]))/\((d3.1++[d3.2])=d4.1/\false=false)/\True))/\q3 d4)) /\
  ((decide (d3.2<n))=false ->
   ∃ (e7:Unit) (d70:(List Int)×Int),((n=n/\True/\True/\(0:Int)=d70.2/\True)/\((h8=h8/\ws=ws/\rs=rs/\ds=ds/\(([]:List SV)=[]))/\(d3.1=d70.1/\false=false)/\True)) /\
   LoopP (λ(d7:(List Int)×Int) (q7:((List Int)×Int)->Prop) =>
    (((decide (d7.2<(lI ds)))&&(decide (d7.2<(12:Int))))=true ->
     (0<=d7.2)/\(d7.2<(List.length ds))/\(I64 (gD ds d7.2 0))/\(n≠0)/\(0<=d7.2)/\(d7.2<(List.length ds))/\(I64 (gD ds d7.2 0))/\((7:Int)≠0)/\(I64 (Int.tdiv (gD ds d7.2 0) (7:Int)))/\(n≠0)/\(0<=(Int.tmod (gD ds d7.2 0) n))/\((Int.tmod (gD ds d7.2 0) n)<(List.length d7.1))/\(0<=(Int.tmod (Int.tdiv (gD ds d7.2 0) (7:Int)) n))/\((Int.tmod (Int.tdiv (gD ds d7.2 0) (7:Int)) n)<(List.length d7.1))/\(0<=(Int.tmod (gD ds d7.2 0) n))/\((Int.tmod (gD ds d7.2 0) n)<(List.length d7.1))/\(0<=(Int.tmod (Int.tdiv (gD ds d7.2 0) (7:Int)) n))/\((Int.tmod (Int.tdiv (gD ds d7.2 0) (7:Int)) n)<(List.length (sT d7.1 (Int.tmod (gD ds d7.2 0) n) (gD d7.1 (Int.tmod (Int.tdiv (gD ds d7.2 0) (7:Int)) n) 0))))/\(I64 (d7.2+(1:Int)))/\(∃ d8:(List Int)×Int,((n=n/\True/\True/\(d7.2+(1:Int))=d8.2/\True)/\((h8=h8/\ws=ws/\rs=rs/\ds=ds/\(([]:List SV)=[]))/\((sT (sT d7.1 (Int.tmod (gD ds d7.2 0) n) (gD d7.1 (Int.tmod (Int.tdiv (gD ds d7.2 0) (7:Int)) n) 0)) (Int.tmod (Int.tdiv (gD ds d7.2 0) (7:Int)) n) (gD d7.1 (Int.tmod (gD ds d7.2 0) n) 0))=d8.1/\false=false)/\True))/\q7 d8)) /\
    (((decide (d7.2<(lI ds)))&&(decide (d7.2<(12:Int))))=false ->
     (True/\((d7.1=(Z8 ds n.toNat)/\false=false)/\True)))) d70)) d30
def Y2:Cx:=⟨[(3,(.i .i64))],[],67,[],0,[],[],[],[],false,[],[],[],[]⟩
def Nf (h8:Int) (ws:List Int) (rs:List Int) (ds:List Int) (n:Int):List (Nat×LoopAnn):=[(0,⟨Unit,(List Int)×Int,[1,2,5,6],λe x=>[.val (.i .i64) n,.box 2 0,.lst 12,.val (.i .i64) x.2],λe x=>[(2,.slot 2,.cells [.val (.i .u8) h8,.val (.list (.i .u8)) ws,.val (.list (.i .u16)) rs,.val (.list (.i .u8)) ds] (some 25)),(12,.slot 5,.lst 3 (.i .i64) x.1 false)]⟩),
 (2,⟨Unit,(List Int)×Int,[1,2,5,7],λe x=>[.val (.i .i64) n,.box 2 0,.lst 12,.val (.i .i64) x.2],λe x=>[(2,.slot 2,.cells [.val (.i .u8) h8,.val (.list (.i .u8)) ws,.val (.list (.i .u16)) rs,.val (.list (.i .u8)) ds] (some 25)),(12,.slot 5,.lst 3 (.i .i64) x.1 false)]⟩)]
theorem Nb (d:(Int×List Int×List Int×List Int)×Int):gwp (Y2) (Nf d.1.1 d.1.2.1 d.1.2.2.1 d.1.2.2.2 d.2) c13 0 (WY [.tmp 4] (WJ d) (WC d)) (Qk 67 (AL.can Y6 d))=J1 d.1.1 d.1.2.1 d.1.2.2.1 d.1.2.2.2 d.2:=by kernel_rfl
abbrev Na:Prop:=OkC Tryd.prog 13 Xk
theorem Ni (h:∀ (h8:Int) (ws:List Int) (rs:List Int) (ds:List Int) (n:Int),(1<=n/\n<=24/\bOk h8 ws rs ds)->J1 h8 ws rs ds n):OkC Tryd.prog 13 Xk :=
 QF Q4o mixed (C:=Y2) (V:=λ(d:(Int×List Int×List Int×List Int)×Int)=>J1 d.1.1 d.1.2.1 d.1.2.2.1 d.1.2.2.2 d.2) ⟨.nil,XsOk.nil,ItsOk.nil,YlOk.nil,IysOk.nil,XfOk.nil⟩ (Nb) λd hp=>h d.1.1 d.1.2.1 d.1.2.2.1 d.1.2.2.2 d.2 hp
theorem CU (n:Int) (l:List Int) (v:Int):(XY n l v).length=l.length:=by simp[XY]
theorem IS (ds:List Int) (n k:Nat):((ds.take k).foldl (XY n) ((List.range n).map λ(w:Nat)=>(w:Int))).length=n:=by
 generalize ds.take k=l;have:∀ (l:List Int) (a:List Int),(l.foldl (XY n) a).length=a.length:=λl=>by
  induction l with
  |nil=>intro a;rfl
  |cons x l ih=>intro a;rw[xJ,ih,CU]
 rw[this];simp
theorem Nc:Na:=Ni λh8 ws rs ds n h=>by
 obtain⟨h1,h2,h3⟩:=h;obtain⟨n,rfl⟩:=zo (show 0<=n by omega);unfold J1;(try delta lI gD sT I64 Q4 pj8 pj4);simp only[Zs,zg,zk];refine⟨(),([],0),(by and_intros<;>first|rfl|trivial|simp),?_⟩;refine⟨λd=>∃ k:Nat,k<=n/\d=((List.range k).map λ(w:Nat)=>(w:Int),(k:Int)),λd=>n-d.2.toNat,⟨0,Nat.zero_le _,rfl⟩,?_⟩;rintro _ ⟨k,hk,rfl⟩;dsimp only;refine⟨λaf=>⟨by simp;omega,by omega,((List.range k).map (λ(w:Nat)=>(w:Int))++[(k:Int)],(k:Int)+1),(by and_intros<;>first|rfl|trivial|simp),⟨k+1,by omega,by simp[List.range_succ]⟩,by dsimp only;omega⟩,λaZ=>?_⟩;have:k=n:=by omega
 subst this;refine⟨(),((List.range k).map λ(w:Nat)=>(w:Int),0),(by and_intros<;>first|rfl|trivial|simp),?_⟩;refine⟨λd=>∃ i:Nat,i<=ds.length/\i<=12/\d=((ds.take i).foldl (XY k) ((List.range k).map λ(w:Nat)=>(w:Int)),(i:Int)),λd=>12-d.2.toNat,⟨0,Nat.zero_le _,by omega,rfl⟩,?_⟩;rintro _ ⟨i,hi,vX,rfl⟩;dsimp only;have hl:=IS ds k i;refine⟨λaf=>?_,λaZ=>?_⟩
 .simp only[z1,zg] at af;have b_:i<ds.length:=by omega
  have hd:=h3.2.2.2.2 _ (zi b_);have bB:(ds.take (i+1)).foldl (XY k) ((List.range k).map λ(w:Nat)=>(w:Int))=XY k ((ds.take i).foldl (XY k) ((List.range k).map λ(w:Nat)=>(w:Int))) ds[i]:=by rw[Qc b_,List.foldl_append];rfl
  simp only[zh,Q7 b_];generalize (ds.take i).foldl (XY k) ((List.range k).map λ(w:Nat)=>(w:Int))=X at *
  generalize ds[i]=v at *
  have t0:0<=Int.tdiv v 7:=Int.tdiv_nonneg hd.1 (by omega);have t7:Int.tdiv v 7<=v:=by rw[Int.tdiv_eq_ediv_of_nonneg hd.1];omega
  have t1:=Int.tmod_nonneg (k:Int) hd.1;have t2:=Int.tmod_lt_of_pos v (show (0:Int)<k by omega);have t3:=Int.tmod_nonneg (k:Int) t0;have t4:=Int.tmod_lt_of_pos (Int.tdiv v 7) (show (0:Int)<k by omega);refine⟨by omega,by omega,by omega,by omega,by omega,by omega,by omega,by decide,by omega,by omega,by omega,by omega,by omega,by omega,by omega,by omega,by omega,by rw[xX];omega,by omega,(XY k X v,(i:Int)+1),?_,⟨i+1,by omega,by omega,by rw[bB];rfl⟩,by dsimp only;omega⟩;and_intros<;>first|rfl|trivial
 .simp only[Bool.and_eq_false_iff,zk] at aZ;have:(ds.take i)=ds.take 12:=by
   rcases aZ with h|h
   .rw[zy (by omega),zy (by omega)]
   .rw[show i=12 by omega]
  rw[this];and_intros<;>first|rfl|trivial
theorem Cb {h8:Int}{ws rs ds:List Int}(hb:bOk h8 ws rs ds):(1<=bHk h8/\bHk h8<=10)/\(∀ x∈Q0 h8 ws,0<=x/\x<bHk h8)/\1<=(Q2 h8 rs).length/\(Q2 h8 rs).length<=8/\∀ x∈Q2 h8 rs,0<=x/\x<2 ^ (bHk h8).toNat:=by
 obtain⟨h1,h2,lJ,mG,hds⟩:=hb;have hk:1<=bHk h8/\bHk h8<=10:=HH (m:=10) (by omega) h1;have hp:=KJ hk.1 (show bHk h8<=24 by omega);have hN:(Q2 h8 rs).length=if rs=[] then 1 else min 8 rs.length:=SX
 refine⟨hk,λx hx=>?_,?_,by rw[hN];split<;>omega,λx hx=>?_⟩
 .unfold Q0 HU at hx;split at hx
  .rw[zI.1 hx];omega
  .obtain⟨y,hy,rfl⟩:=zM.1 hx;have hy:=lJ y (List.mem_of_mem_take hy);exact⟨Int.tmod_nonneg _ hy.1,Int.tmod_lt_of_pos _ (by omega)⟩
 .rw[hN];split
  .omega
  .rename_i h;have:=xl.2 h;omega
 .unfold Q2 A7 at hx;split at hx
  .rw[zI.1 hx];exact⟨Int.emod_nonneg _ (by omega),Int.emod_lt_of_pos _ (by omega)⟩
  .obtain⟨y,hy,rfl⟩:=zM.1 hx;exact⟨Int.emod_nonneg _ (by omega),Int.emod_lt_of_pos _ (by omega)⟩
theorem O0 {l:List Int}{a b:Int}(h:∀ x∈l,a<=x/\x<=b):(l.any λx=>!inI x a b)=false:=by rw[xe];intro x hx;have:=h x hx;simp[inI,this]
theorem Ic {hk:Int}{lw:List Int}(h1:1<=hk) (h2:hk<=24) (h3:lw.length<=96) (h4:1<=lw.length) (h5:∀ x∈lw,0<=x/\x<hk):QV hk lw=0:=by unfold QV;rw[z6 (by simp[inI,h1,h2]),z6 (by omega),z6 (by omega),z6 (by rw[O0 λx hx=>by have:=h5 x hx;omega];simp)]
theorem Cu {hd:Int}{rows:List Int}(h1:1<=hd) (h2:hd<=24) (h3:rows.length<=60) (h4:1<=rows.length) (h5:∀ x∈rows,0<=x/\x<2 ^ hd.toNat):QD hd rows=0:=by unfold QD;rw[z6 (by simp[inI,h1,h2]),z6 (by omega),z6 (by omega),z6 (by rw[O0 λx hx=>by have:=h5 x hx;omega];simp)]
theorem FQ {hk:Int}{lw l:List Int}(ht:QV hk lw=0) (hl:l.length=lw.length) (h:∀ x∈l,-1<=x/\x<lw.length):ZD hk lw l=0:=by unfold ZD;rw[z6 (by omega),z6 (by omega),z6 (by rw[O0 λx hx=>by have:=h x hx;omega];simp)]
theorem CN {hk:Int}{lw rows:List Int}(ht:QV hk lw=0) (hp:QD hk rows=0):Qa hk lw hk rows=0:=by unfold Qa;rw[z6 (by omega),z6 (by omega),z6 (by omega)]
theorem AK {lw:List Int}{r:Int}{i:Nat}(h:i<lw.length):(QP lw r).getD i 0=if r.toNat.testBit (lw.getD i 0).toNat then 120 else 46:=by rw[Q7 (show i<(QP lw r).length by simpa [QP] using h),Q7 h];simp[QP]
theorem GC {lw l:List Int}{r:Int}{i:Nat}(hl:l.length=lw.length) (hv:∀ x∈l,-1<=x/\x<lw.length) (h:i<lw.length):(Z7 l (QP lw r)).getD i 0=if l.getD i 0=-1 then 46 else if r.toNat.testBit (lw.getD (l.getD i 0).toNat 0).toNat then 120 else 46:=by
 have fz:i<l.length:=by omega
 have hv:=hv _ (zi fz);rw[Q7 (show i<(Z7 l (QP lw r)).length by simpa [Z7] using fz),Q7 fz];simp only[Z7,xM];by_cases h:l[i]=-1
 .rw[z7 h,z7 h]
 .rw[z6 h,z6 h,AK (by omega)]
theorem YH {l:List Int}{p:List UInt8}:(Z7 l p).length=l.length:=by simp[Z7]
theorem AX {α β:Type}{f:α->β}{l:List α}{p:Nat}{a:α}{b:β}(h:p<l.length):(l.map f).getD p b=f (l.getD p a):=by rw[Q7 (by simpa using h),Q7 h,xM]
theorem FM {ds:List Int}{n:Nat}(hd:u8s ds) (hn:1<=n):∀ x∈Qm ds n,-1<=x/\x<n:=λx hx=>by
 obtain⟨k,hk,rfl⟩:=List.mem_iff_getElem.1 hx;have fM:k<n:=by rw[MH] at hk;exact hk
 rw[Pe ds fM];split
 .rename_i tE;have qq:=hd _ (zi tE);rw[Q7 tE];split
  .omega
  .split
   .have h1:=Int.tmod_nonneg (n:Int) qq.1;have h2:=Int.tmod_lt_of_pos ds[k] (show (0:Int)<n by omega);omega
   .omega
 .omega
theorem Ft {h8:Int}{ws:List Int}:1<=(Q0 h8 ws).length/\(Q0 h8 ws).length<=24:=by
 have:(Q0 h8 ws).length=if ws=[] then 1 else min 24 ws.length:=TD
 rw[this];split
 .omega
 .rename_i h;have:=xl.2 h;omega
theorem Zi {p q:Nat->Bool}:∀ {n:Nat},(∀ j,j<n->p j=q j)->XH p n=XH q n
 |0,_=>rfl
 |n+1,h=>by rw[Zv,Zv,Zi λj hj=>h j (by omega),h n (by omega)]
theorem GB {p q:Nat->Bool}:∀ {n:Nat},(∀ j,j<n->p j=true->q j=true)->XH p n<=XH q n
 |0,_=>Int.le_refl _
 |n+1,h=>by
  have h1:=GB (p:=p) (q:=q) (n:=n) λj hj=>h j (by omega);have h2:=h n (by omega);rw[Zv,Zv];by_cases c:p n=true
  .rw[z7 c,z7 (h2 c)];omega
  .rw[z6 c];split<;>omega
theorem Yi {q:Nat->Bool}{e:Nat}:∀ {n:Nat},e<n->XH q n=XH (λj=>q j&&j != e) n+if q e=true then 1 else 0
 |0,h=>by omega
 |n+1,h=>by
  rw[Zv,Zv];by_cases c:e=n
  .subst c;rw[Zi (p:=q) (q:=λj=>q j&&j != e) (n:=e) λj hj=>by simp;omega];simp
  .rw[Yi (q:=q) (show e<n by omega)];have:(n != e)=true:=by simp;omega
   rw[this,xB];omega
theorem S9 {p:Nat->Bool}:∀ {n:Nat},1<=XH p n->∃ j,j<n/\p j=true
 |0,h=>by simp[XH] at h
 |n+1,h=>by
  rw[Zv] at h;by_cases c:p n=true
  .exact⟨n,by omega,c⟩
  .rw[z6 c] at h;obtain⟨j,h1,h2⟩:=S9 (p:=p) (n:=n) (by omega);exact⟨j,by omega,h2⟩
theorem Q1y {p:Nat->Bool}{n j:Nat}(hj:j<n) (h:p j=true):1<=XH p n:=by rw[Yi hj,z7 h];have:=QA (λi=>p i&&i != j) n;omega
def ES (f:Nat->Int):Nat->Int
 |0=>0
 |k+1=>ES f k+f k
theorem Od {f g:Nat->Int}:∀ {k:Nat},(∀ h,h<k->f h<=g h)->ES f k<=ES g k
 |0,_=>Int.le_refl _
 |k+1,h=>by have:=Od (f:=f) (g:=g) (k:=k) λi hi=>h i (by omega);have:=h k (by omega);simp only[ES];omega
theorem AO (f g:Nat->Int):∀ k,ES (λh=>f h+g h) k=ES f k+ES g k
 |0=>rfl
 |k+1=>by simp only[ES];rw[AO f g k];omega
theorem Hq:∀ {f:Nat->Int}{k:Nat},(∀ h,h<k->f h=0)->ES f k=0
 |_,0,_=>rfl
 |f,k+1,h=>by have:=Hq (f:=f) (k:=k) λi hi=>h i (by omega);have:=h k (by omega);simp only[ES];omega
theorem Ah {f:Nat->Int}{x:Nat}:∀ {k:Nat},x<k->(∀ h,h<k->h≠x->f h=0)->ES f k=f x
 |0,h,_=>by omega
 |k+1,hx,h=>by
  simp only[ES];by_cases c:x=k
  .subst c;rw[Hq λi hi=>h i (by omega) (by omega)];omega
  .rw[Ah (show x<k by omega) λi hi hn=>h i (by omega) hn,h k (by omega) (by omega)];omega
theorem Pz {lw:List Int}{K:Nat}(p:Nat->Bool) (q:Int->Bool):∀ {n:Nat},(∀ j,j<n->0<=lw.getD j 0/\lw.getD j 0<K)->XH (λj=>p j&&q (lw.getD j 0)) n=ES (λh=>if q (h:Int)=true then XH (λj=>p j&&(h:Int)==lw.getD j 0) n else 0) K
 |0,_=>by rw[Hq λh _=>by split<;>rfl];rfl
 |n+1,hl=>by
  have ih:=Pz (lw:=lw) (K:=K) p q (n:=n) λj hj=>hl j (by omega);have hx:=hl n (by omega);obtain⟨x,aX⟩:=zo hx.1;have e:(λh:Nat=>if q (h:Int)=true then XH (λj=>p j&&(h:Int)==lw.getD j 0) (n+1) else 0)=λh:Nat=>(if q (h:Int)=true then XH (λj=>p j&&(h:Int)==lw.getD j 0) n else 0)+(if q (h:Int)=true then (if (p n&&(h:Int)==lw.getD n 0)=true then 1 else 0) else 0):=by
   funext h
   by_cases c:q (h:Int)=true
   .rw[z7 c,z7 c,z7 c,Zv]
   .rw[z6 c,z6 c,z6 c];rfl
  rw[e,AO,<-ih,Zv];congr 1;rw[aX] at hx |-;rw[Ah (x:=x) (by omega) λh _ hn=>?_]
  .simp only[beq_self_eq_true,xB];by_cases c:q (x:Int)=true
   .simp[c]
   .simp only[x3] at c;simp[c]
  .have:((h:Int)==(x:Int))=false:=by rw[xm];omega
   simp[this]
structure FindInv (lw:List Int) (ey wa:List (List UInt8)) (k:Nat) (S:FSt):Prop where
 len:S.1.length=k
 mem:∀ x∈S.1,∃ e:Nat,x=e/\e<lw.length
 nd:S.1.Nodup
 used:∀ e:Nat,gq.aget (.i .i64) S.2.2.2 (e:Int) false=decide ((e:Int)∈S.1)
 free:∀ h,gq.aget (.i .i64) S.2.1 h 0=XH (λj=>!decide ((j:Int)∈S.1)&&h==lw.getD j 0) lw.length
 due:∀ h,gq.aget (.i .i64) S.2.2.1 h 0=XH (λj=>(decide (k<=j)&&Qs ey wa j)&&h==lw.getD j 0) lw.length
 le:∀ h,gq.aget (.i .i64) S.2.2.1 h 0<=gq.aget (.i .i64) S.2.1 h 0
 col:∀ c,XH (λj=>!decide ((j:Int)∈S.1)&&c==ey.getD j []) lw.length=XH (λj=>decide (k<=j)&&c==wa.getD j []) lw.length
 ok:∀ w,w<k->ey.getD (S.1.getD w 0).toNat []=wa.getD w []/\(Qs ey wa w=true->lw.getD (S.1.getD w 0).toNat 0=lw.getD w 0)
structure FindHyp (lw:List Int) (ey wa:List (List UInt8)) (K:Nat) (F:Int->List UInt8):Prop where
 key:∀ j,j<lw.length->0<=lw.getD j 0/\lw.getD j 0<K
 eyc:∀ j,j<lw.length->ey.getD j []=F (lw.getD j 0)
 cnt:∀ c,XH (λj=>c==ey.getD j []) lw.length=XH (λj=>c==wa.getD j []) lw.length
theorem N1 {ey wa:List (List UInt8)}{w:Nat}:Qs ey wa w=true<->wa.getD w []=ey.getD w []:=zr
theorem Oo {lw:List Int}{ey wa:List (List UInt8)}{K:Nat}{F:Int->List UInt8}(H:FindHyp lw ey wa K F):FindInv lw ey wa 0 (NB lw ey wa 0):=by
 refine⟨rfl,λx hx=>(by cases hx),List.nodup_nil,λe=>rfl,λh=>?_,λh=>?_,λh=>?_,λc=>?_,λw hw=>by omega⟩
 .show gq.aget (.i .i64) (MQ lw lw.length) h 0=_;rw[UR];exact Zi λj _=>by simp[NB]
 .show gq.aget (.i .i64) (Ct lw ey wa lw.length) h 0=_;rw[UX];exact Zi λj _=>by simp
 .show gq.aget (.i .i64) (Ct lw ey wa lw.length) h 0<=gq.aget (.i .i64) (MQ lw lw.length) h 0;rw[UX,UR];exact GB λj _ hj=>by rw[z1] at hj;exact hj.2
 .have:=H.cnt c;rw[Zi (q:=λj=>c==ey.getD j []) λj _=>by simp[NB],this];exact Zi λj _=>by simp
theorem Ie {lw:List Int}{ey wa:List (List UInt8)}{K:Nat}{F:Int->List UInt8}(H:FindHyp lw ey wa K F) {k:Nat}(hk:k<lw.length) {S:FSt}(I:FindInv lw ey wa k S):∃ e,e<lw.length/\AZ lw ey wa k S e=true:=by
 by_cases hr:Qs ey wa k=true
 .have h1:1<=gq.aget (.i .i64) S.2.2.1 (lw.getD k 0) 0:=by
   rw[I.due];exact Q1y hk (by rw[hr];simp)
  have h2:=I.le (lw.getD k 0);rw[I.free] at h2;obtain⟨e,he,hp⟩:=S9 (show 1<=XH (λj=>!decide ((j:Int)∈S.1)&&lw.getD k 0==lw.getD j 0) lw.length by omega);simp only[z1,Bool.not_eq_true',zr] at hp;refine⟨e,he,?_⟩;rw[AZ,I.used,hp.1,z7 hr,hp.2];simp
 .refine Decidable.byContradiction λhc=>?_;have hc:∀ e,e<lw.length->(e:Int)∉S.1->ey.getD e []=wa.getD k []->gq.aget (.i .i64) S.2.1 (lw.getD e 0) 0<=gq.aget (.i .i64) S.2.2.1 (lw.getD e 0) 0:=λe he hu hw=>by
   refine Int.not_lt.1 λaf=>hc ⟨e,he,?_⟩;rw[AZ,I.used,z6 hr,hw,xD hu,xZ af];simp
  have eZ:=I.col (wa.getD k []);have e1:XH (λj=>!decide ((j:Int)∈S.1)&&wa.getD k []==ey.getD j []) lw.length=XH (λj=>!decide ((j:Int)∈S.1)&&(λx=>wa.getD k []==F x) (lw.getD j 0)) lw.length:=Zi λj hj=>by rw[H.eyc j hj]
  rw[e1,Pz (K:=K) (λj=>!decide ((j:Int)∈S.1)) (λx=>wa.getD k []==F x) H.key] at eZ;have e2:XH (λj=>(decide (k<=j)&&Qs ey wa j)&&(λx=>wa.getD k []==F x) (lw.getD j 0)) lw.length<=XH (λj=>(decide (k<=j)&&wa.getD k []==wa.getD j [])&&j != k) lw.length:=GB λj hj h=>by simp only[z1,zg,zr,N1] at h;obtain⟨⟨a,b⟩,c⟩:=h;simp only[z1,zg,zr,bne_iff_ne];refine⟨⟨a,by rw[b,H.eyc j hj];exact c⟩,λe=>hr (by rw[<-e];exact N1.2 b)⟩
  have e3:=Yi (q:=λj=>decide (k<=j)&&wa.getD k []==wa.getD j []) hk;rw[z7 (by simp)] at e3;rw[Pz (K:=K) (λj=>decide (k<=j)&&Qs ey wa j) (λx=>wa.getD k []==F x) H.key] at e2;have e4:=Od (k:=K) (f:=λh=>if (wa.getD k []==F (h:Int))=true then XH (λj=>!decide ((j:Int)∈S.1)&&(h:Int)==lw.getD j 0) lw.length else 0) (g:=λh=>if (wa.getD k []==F (h:Int))=true then XH (λj=>(decide (k<=j)&&Qs ey wa j)&&(h:Int)==lw.getD j 0) lw.length else 0) λh _=>by
   split
   .rename_i hq;rw[<-I.free,<-I.due];have hn:=QA (λj=>(decide (k<=j)&&Qs ey wa j)&&(h:Int)==lw.getD j 0) lw.length;rw[<-I.due] at hn;by_cases c:1<=gq.aget (.i .i64) S.2.1 (h:Int) 0
    .rw[I.free] at c;obtain⟨e,he,hp⟩:=S9 c;simp only[z1,Bool.not_eq_true',zk,zr] at hp;have:=hc e he hp.1 (by rw[H.eyc e he,<-hp.2];exact(zr.1 hq).symm)
     rwa [<-hp.2] at this
    .omega
   .exact Int.le_refl _
  omega
theorem FL {lw:List Int}{ey wa:List (List UInt8)}{K:Nat}{F:Int->List UInt8}(H:FindHyp lw ey wa K F) {k:Nat}(hk:k<lw.length) {S:FSt}(I:FindInv lw ey wa k S) {e:Nat}(he:e<lw.length) (hf:AZ lw ey wa k S e=true):FindInv lw ey wa (k+1) (Q1a lw ey wa k S e):=by
 rw[AZ,I.used,z1,Bool.not_eq_true',zk] at hf;obtain⟨hu,hf⟩:=hf;have oK:∀ j:Nat,(!decide ((j:Int)∈S.1++[(e:Int)]))=(!decide ((j:Int)∈S.1)&&j != e):=λj=>by
  by_cases c:j=e
  .subst c;simp
  .have:(j:Int)≠e:=by omega
   simp[c,this]
 have eZ:ey.getD e []=wa.getD k []/\(Qs ey wa k=true->lw.getD e 0=lw.getD k 0):=by
  by_cases hr:Qs ey wa k=true
  .rw[z7 hr,zr] at hf;exact⟨by rw[H.eyc e he,hf,<-H.eyc k hk];exact(N1.1 hr).symm,λ_=>hf⟩
  .rw[z6 hr,z1,zr] at hf;exact⟨hf.1,λh=>(hr h).elim⟩
 have sub:∀ (q:Nat->Bool),XH (λj=>decide (k<=j)&&q j) lw.length=XH (λj=>decide (k+1<=j)&&q j) lw.length+if q k=true then 1 else 0:=λq=>by
  rw[Yi (q:=λj=>decide (k<=j)&&q j) hk];rw[Zi (p:=λj=>(decide (k<=j)&&q j)&&j != k) (q:=λj=>decide (k+1<=j)&&q j) λj _=>by
   by_cases c:j=k
   .subst c;have:decide (j+1<=j)=false:=by simp
    simp[this]
   .have:decide (k<=j)=decide (k+1<=j):=by simp;omega
    simp[c,this]]
  simp
 have oL:∀ h,gq.aget (.i .i64) (Ob S.2.1 (lw.getD e 0)) h 0=XH (λj=>!decide ((j:Int)∈S.1++[(e:Int)])&&h==lw.getD j 0) lw.length:=λh=>by rw[Vh,I.free,Yi (q:=λj=>!decide ((j:Int)∈S.1)&&h==lw.getD j 0) he];rw[Zi (p:=λj=>!decide ((j:Int)∈S.1++[(e:Int)])&&h==lw.getD j 0) (q:=λj=>(!decide ((j:Int)∈S.1)&&h==lw.getD j 0)&&j != e) λj _=>by rw[oK];cases (j != e)<;>simp];simp only[xD hu,xK,Bool.true_and,zr];omega
 have sA:∀ h,gq.aget (.i .i64) (if Qs ey wa k=true then Ob S.2.2.1 (lw.getD e 0) else S.2.2.1) h 0=XH (λj=>(decide (k+1<=j)&&Qs ey wa j)&&h==lw.getD j 0) lw.length:=λh=>by
  have hs:=sub λj=>Qs ey wa j&&h==lw.getD j 0;have e1:∀ k',XH (λj=>(decide (k'<=j)&&Qs ey wa j)&&h==lw.getD j 0) lw.length=XH (λj=>decide (k'<=j)&&(Qs ey wa j&&h==lw.getD j 0)) lw.length:=λk'=>Zi λj _=>by rw[Bool.and_assoc]
  by_cases hr:Qs ey wa k=true
  .rw[z7 hr,Vh,I.due,e1,e1,hs,eZ.2 hr,hr,Bool.true_and];simp only[zr];omega
  .rw[z6 hr,I.due,e1,e1,hs];simp only[x3] at hr;simp[hr]
 refine⟨?_,?_,?_,?_,oL,sA,?_,?_,?_⟩
 .simp only[Q1a,zF,zl,I.len]
 .intro x hx;rcases x7.1 hx with hx|hx
  .exact I.mem x hx
  .exact⟨e,zI.1 hx,he⟩
 .exact List.nodup_append.2 ⟨I.nd,by simp,λa ha b hb c=>by rw[zI.1 hb] at c;rw[c] at ha;exact hu ha⟩
 .intro e';show gq.aget (.i .i64) (XZ (.i .i64) S.2.2.2 (e:Int) true) (e':Int) false=decide ((e':Int)∈S.1++[(e:Int)]);rw[agB];by_cases c:(e':Int)=e
  .rw[z7 c,c];simp
  .rw[z6 c,I.used];simp[c]
 .intro h;show gq.aget (.i .i64) (if Qs ey wa k=true then Ob S.2.2.1 (lw.getD e 0) else S.2.2.1) h 0<=gq.aget (.i .i64) (Ob S.2.1 (lw.getD e 0)) h 0;have:=I.le h;by_cases hr:Qs ey wa k=true
  .rw[z7 hr,Vh,Vh];omega
  .rw[z6 hr,Vh];rw[z6 hr,z1,zg] at hf;split
   .rename_i c;rw[c];omega
   .omega
 .intro c;have hs:=sub λj=>c==wa.getD j [];have hi:=I.col c;show XH (λj=>!decide ((j:Int)∈S.1++[(e:Int)])&&c==ey.getD j []) lw.length=_;rw[Zi (p:=λj=>!decide ((j:Int)∈S.1++[(e:Int)])&&c==ey.getD j []) (q:=λj=>(!decide ((j:Int)∈S.1)&&c==ey.getD j [])&&j != e) λj _=>by rw[oK];cases (j != e)<;>simp];rw[Yi (q:=λj=>!decide ((j:Int)∈S.1)&&c==ey.getD j []) he] at hi;simp only[xD hu,xK,Bool.true_and] at hi;rw[eZ.1] at hi;omega
 .intro w hw;show ey.getD ((S.1++[(e:Int)]).getD w 0).toNat []=wa.getD w []/\(Qs ey wa w=true->lw.getD ((S.1++[(e:Int)]).getD w 0).toNat 0=lw.getD w 0);have hl:=I.len;by_cases c:w<k
  .rw[show (S.1++[(e:Int)]).getD w 0=S.1.getD w 0 by simp only[ze];rw[x8 (by omega)]];exact I.ok w c
  .obtain rfl:w=k:=by omega
   rw[show (S.1++[(e:Int)]).getD w 0=(e:Int) by simp only[ze];rw[xj (by omega),hl];simp];exact eZ
theorem E3 {lw:List Int}{ey wa:List (List UInt8)}{K:Nat}{F:Int->List UInt8}(H:FindHyp lw ey wa K F):∀ k,k<=lw.length->FindInv lw ey wa k (NB lw ey wa k)
 |0,_=>Oo H
 |k+1,hk=>by
  have I:=E3 H k (by omega);obtain⟨e0,qd,th⟩:=Ie H (show k<lw.length by omega) I;rw[NB];cases hf:(List.range lw.length).find? (AZ lw ey wa k (NB lw ey wa k)) with
  |none=>have:=List.find?_range_eq_none.1 hf e0 qd;rw[th] at this;cases this
  |some e =>obtain⟨h1,h2,_⟩:=List.find?_range_eq_some.1 hf;exact FL H (by omega) I (x5.1 h2) h1
def Bq (n:Nat) (l:List Int):Prop:=l.Perm ((List.range n).map λ(w:Nat)=>(w:Int))
theorem KM {n:Nat}{l:List Int}(h:Bq n l):l.length=n:=by have:=h.length_eq;simpa using this
theorem Lk {n:Nat}{l:List Int}{v:Int}(h:Bq n l) (hn:1<=n) (hv:0<=v):Bq n (XY n l v):=by
 have hl:=KM h;have t0:0<=Int.tdiv v 7:=Int.tdiv_nonneg hv (by omega);have t1:=Int.tmod_nonneg (n:Int) hv;have t2:=Int.tmod_lt_of_pos v (show (0:Int)<n by omega);have t3:=Int.tmod_nonneg (n:Int) t0;have t4:=Int.tmod_lt_of_pos (Int.tdiv v 7) (show (0:Int)<n by omega);have h1:(Int.tmod v n).toNat<l.length:=by omega
 have h2:(Int.tmod (Int.tdiv v 7) n).toNat<l.length:=by omega
 rw[XY,Q7 h1,Q7 h2];exact(List.set_set_perm h1 h2).trans h
theorem Ir {ds:List Int}{n:Nat}(hd:u8s ds) (hn:1<=n):Bq n (Z8 ds n):=by
 have:∀ (l a:List Int),(∀ x∈l,0<=x)->Bq n a->Bq n (l.foldl (XY n) a):=λl=>by
  induction l with
  |nil=>intro a _ h;exact h
  |cons x l ih=>intro a hl h;exact ih _ (λy hy=>hl y (zT _ hy)) (Lk h hn (hl x (zQ ..)))
 exact this _ _ (λx hx=>(hd x (List.mem_of_mem_take hx)).1) (List.Perm.refl _)
theorem Gq {n:Nat}{l:List Int}(h:Bq n l):∀ x∈l,0<=x/\x<n:=λx hx=>by obtain⟨w,hw,rfl⟩:=zM.1 (h.mem_iff.1 hx);have:=x5.1 hw;omega
theorem Ro {n:Nat}{l:List Int}(h:Bq n l) {w:Nat}(hw:w<n):0<=l.getD w 0/\l.getD w 0<n:=by have hl:=KM h;rw[Q7 (show w<l.length by omega)];exact Gq h _ (zi _)
theorem IY {n:Nat}{l:List Int}(h:Bq n l) (p:Nat->Bool):XH (λw=>p (l.getD w 0).toNat) n=XH p n:=by
 have hl:=KM h;unfold XH;have e1:(List.range n).countP (λw=>p (l.getD w 0).toNat)=((List.range n).map λw=>(l.getD w 0).toNat).countP p:=by rw[List.countP_map];rfl
 have e2:((List.range n).map λw=>(l.getD w 0).toNat)=l.map Int.toNat:=by apply List.ext_getElem (by simp[hl]);intro i h1 h2;simp only[xP] at h2;simp only[xM,List.getElem_range,Q7 h2]
 have e3:(l.map Int.toNat).Perm (List.range n):=by
  have:=h.map Int.toNat;rw[xY] at this;have e:(Int.toNat ∘ λ(w:Nat)=>(w:Int))=id:=by funext w;rfl
  rwa [e,List.map_id] at this
 rw[e1,e2,e3.countP_eq]
theorem GS:∀ {m:SMp}{k:List UInt8}{v:Int},(m.map (·.1)).Nodup->((XZ .st m k v).map (·.1)).Nodup/\∀ x∈(XZ .st m k v).map (·.1),x=k\/x∈m.map (·.1)
 |[],k,v,_=>⟨by show ([k]:List (List UInt8)).Nodup;simp,λx hx=>.inl (zI.1 hx)⟩
 |(a,b)::m,k,v,h=>by
  rw[zW,xC] at h;have e:XZ .st ((a,b)::m) k v=if gq.keq .st k a=true then (k,v)::m else (a,b)::XZ .st m k v:=rfl
  rw[e];split
  .rename_i c;have c:=(Q3g k a).1 c;subst c;rw[zW,xC];exact⟨h,λx hx=>.inr hx⟩
  .rename_i c;obtain⟨i1,i2⟩:=GS (k:=k) (v:=v) h.2;rw[zW,xC];refine⟨⟨λhx=>?_,i1⟩,λx hx=>?_⟩
   .rcases i2 _ hx with hx|hx
    .exact c ((Q3g k a).2 hx.symm)
    .exact h.1 hx
   .rcases zG.1 hx with hx|hx
    .exact .inr (zG.2 (.inl hx))
    .rcases i2 x hx with hx|hx
     .exact .inl hx
     .exact .inr (zT _ hx)
theorem Cz:∀ {m:SMp}{e:List UInt8×Int},(m.map (·.1)).Nodup->e∈m->gq.aget .st m e.1 0=e.2
 |(a,b)::m,e,h,he=>by
  rw[zW,xC] at h;show (if gq.keq .st e.1 a=true then b else gq.aget .st m e.1 0)=e.2;rcases zG.1 he with he|he
  .subst he;rw[z7 ((Q3g _ _).2 rfl)]
  .rw[z6 λc=>h.1 (by rw[<-(Q3g e.1 a).1 c];exact zM.2 ⟨e,he,rfl⟩)];exact Cz h.2 he
theorem Sa (ey wa:List (List UInt8)):∀ i,((lfM ey wa i).map (·.1)).Nodup
 |0=>List.nodup_nil
 |i+1=>(GS (GS (Sa ey wa i)).1).1
theorem Q2p {ey wa:List (List UInt8)}{i:Nat}:okL (lfM ey wa i)=true<->∀ c,XH (λj=>c==ey.getD j []) i=XH (λj=>c==wa.getD j []) i:=by
 constructor
 .intro h c;have hg:=NU ey wa i c;by_cases hm:c∈(lfM ey wa i).map (·.1)
  .obtain⟨e,he,rfl⟩:=zM.1 hm;have h0:=Cz (Sa ey wa i) he;have:=zf.1 h e he;rw[zr] at this;omega
  .have:∀ {m:SMp},c∉m.map (·.1)->gq.aget .st m c 0=0:=λ{m} hm=>by
    induction m with
    |nil=>rfl
    |cons e m ih =>rw[zW,zG,not_or] at hm;show (if gq.keq .st c e.1=true then e.2 else gq.aget .st m c 0)=0;rw[z6 λh=>hm.1 ((Q3g _ _).1 h)];exact ih hm.2
   have:=this hm;omega
 .intro h;rw[okL,zf];intro e he;have h0:=Cz (Sa ey wa i) he;rw[NU,h e.1] at h0;rw[zr];omega
theorem Tq (lw l:List Int) (n:Nat):((Nx lw l n).length:Int)=XH (λw=>!isRight lw l (w:Int)) n:=by rw[Nx,xP,XH,List.countP_eq_length_filter]
def hkC (rows:List Int) (h:Int):List UInt8:=rows.map λr=>if r.toNat.testBit h.toNat then 120 else 46
theorem Q57 {lw rows:List Int}{j:Nat}(hj:j<lw.length):(eyF lw rows).getD j []=hkC rows (lw.getD j 0):=by rw[eyF,SH _ hj,Q3f,xY,hkC];refine zZ λr _=>?_;exact AK hj
theorem Q19 {lw rows m:List Int}(hm:Bq lw.length m) {j:Nat}(hj:j<lw.length):(waF lw (rows.map λr=>Z7 m (QP lw r))).getD j []=hkC rows (lw.getD (m.getD j 0).toNat 0):=by rw[waF,SH _ hj,Q3f,xY,hkC];refine zZ λr _=>?_;have h:=Ro hm hj;show (Z7 m (QP lw r)).getD j 0=_;rw[GC (KM hm) (λx hx=>by have:=Gq hm x hx;omega) hj,z6 (by omega)]
theorem OP {l:List Int}{lw:List Int}{r:Int}(hl:l.length=lw.length) (hv:∀ x∈l,-1<=x/\x<lw.length):Oz (Z7 l (QP lw r))=true:=by
 rw[Oz,zf];intro b hb;obtain⟨i,hi,rfl⟩:=List.getElem_of_mem hb;have fP:i<lw.length:=by rw[YH,hl] at hi;exact hi
 have:=GC (r:=r) hl hv fP;rw[Q7 hi] at this;rw[this];split
 .rfl
 .split<;>rfl
structure FindLoom (hk:Int) (lw rows m L C:List Int) (c:List (List UInt8)):Prop where
 e0:Qv hk lw hk rows c=0
 e1:X9 hk lw hk rows c=0
 w:Kn hk lw hk rows c=L
 n0:0<=GK hk lw hk rows c
 nb:GK hk lw hk rows c=((TC lw L).length:Int)
 nt:GK hk lw hk rows c<=((TC lw m).length:Int)
 len:L.length=lw.length
 at_:∀ w,w<lw.length->0<=L.getD w 0/\L.getD w 0<lw.length
 nd:L.Nodup
 val:∀ x∈L,-1<=x/\x<lw.length
 cl:rows.map (λr=>Z7 L (QP lw r))=c
 cnt:Ja hk lw hk rows c=0/\1<=CX hk lw hk rows c\/Ja hk lw hk rows c=8
theorem FJ {hk:Int}{lw rows m:List Int}(hm:Bq lw.length m) (hw:Qa hk lw hk rows=0) (lL:∀ x∈lw,0<=x/\x<hk) (vY:1<=hk/\hk<=10):FindLoom hk lw rows m (O2 lw (eyF lw rows) (waF lw (rows.map λr=>Z7 m (QP lw r)))) [] (rows.map λr=>Z7 m (QP lw r)):=by
 have ml:=KM hm;have mv:∀ x∈m,-1<=x/\x<lw.length:=λx hx=>by have:=Gq hm x hx;omega
 have e0:Qv hk lw hk rows (rows.map λr=>Z7 m (QP lw r))=0:=by rw[Qv,z6 (by rw[hw];simp),z6];rw[not_or];refine⟨by simp,?_⟩;rw[x3,xe];intro s hs;obtain⟨r,_,rfl⟩:=zM.1 hs;rw[OP ml mv,YH,ml];simp
 obtain⟨K,tn⟩:=zo (show 0<=hk by omega);have ie:∀ j,j<lw.length->0<=lw.getD j 0/\lw.getD j 0<K:=λj hj=>by have:=lL _ (zi hj);rw[Q7 hj];omega
 have oM:∀ j,j<lw.length->(eyF lw rows).getD j []=hkC rows (lw.getD j 0):=λj hj=>Q57 hj;have qE:∀ j,j<lw.length->(waF lw (rows.map λr=>Z7 m (QP lw r))).getD j []=(eyF lw rows).getD (m.getD j 0).toNat []:=λj hj=>by have:=Ro hm hj;rw[Q19 hm hj,oM _ (by omega)]
 have lN:∀ c,XH (λj=>c==(eyF lw rows).getD j []) lw.length=XH (λj=>c==(waF lw (rows.map λr=>Z7 m (QP lw r))).getD j []) lw.length:=λc=>by rw[<-IY hm];exact Zi λj hj=>by rw[qE j hj]
 have H:FindHyp lw (eyF lw rows) (waF lw (rows.map λr=>Z7 m (QP lw r))) K (hkC rows):=⟨ie,oM,lN⟩;have I:=E3 H lw.length (zd _);have aj:okF lw rows (rows.map λr=>Z7 m (QP lw r))=true:=Q2p.2 lN;have e1:X9 hk lw hk rows (rows.map λr=>Z7 m (QP lw r))=0:=by rw[X9,z6 (by rw[e0];simp),z7 aj]
 have n1:GK hk lw hk rows (rows.map λr=>Z7 m (QP lw r))=XH (λj=>!Qs (eyF lw rows) (waF lw (rows.map λr=>Z7 m (QP lw r))) j) lw.length:=by rw[GK,z7 e1,Ck]
 have cE:Bx (eyM (eyF lw rows) lw.length)>=1:=by rw[RM];refine AV λx hx=>?_;obtain⟨e,_,rfl⟩:=zM.1 hx;exact YJ _
 have r4:Ja hk lw hk rows (rows.map λr=>Z7 m (QP lw r))=0/\1<=CX hk lw hk rows (rows.map λr=>Z7 m (QP lw r))\/Ja hk lw hk rows (rows.map λr=>Z7 m (QP lw r))=8:=by
  by_cases hb:1000000000000<Bx (eyM (eyF lw rows) lw.length)
  .right;rw[Ja,z6 (by rw[e0];simp),z7 ⟨aj,hb⟩]
  .left;have h0:Ja hk lw hk rows (rows.map λr=>Z7 m (QP lw r))=0:=by rw[Ja,z6 (by rw[e0];simp),z6 (by rintro⟨_,h⟩;exact hb h)]
   exact⟨h0,by rw[CX,z7 ⟨h0,aj⟩];exact cE⟩
 have hL:(NB lw (eyF lw rows) (waF lw (rows.map λr=>Z7 m (QP lw r))) lw.length).1=O2 lw (eyF lw rows) (waF lw (rows.map λr=>Z7 m (QP lw r))):=rfl;have i1:=I.len;have i2:=I.mem;have i3:=I.nd;have i9:=I.ok;rw[hL] at i1 i2 i3 i9;have hW:Kn hk lw hk rows (rows.map λr=>Z7 m (QP lw r))=O2 lw (eyF lw rows) (waF lw (rows.map λr=>Z7 m (QP lw r))):=z7 e1;have hr:∀ j,Qs (eyF lw rows) (waF lw (rows.map λr=>Z7 m (QP lw r))) j=true<->(waF lw (rows.map λr=>Z7 m (QP lw r))).getD j []=(eyF lw rows).getD j []:=λj=>N1;clear H I hL aj e1 lN;have sB:∀ j,j<lw.length->(waF lw (rows.map λr=>Z7 m (QP lw r))).getD j []=hkC rows (lw.getD (m.getD j 0).toNat 0):=λj hj=>Q19 hm hj;have oy:X9 hk lw hk rows (rows.map λr=>Z7 m (QP lw r))=0:=by
  refine Decidable.byContradiction λh=>?_;have:=hW;rw[Kn,z6 h] at this;have h2:=i1;rw[<-this] at h2;have:Qa hk lw hk rows≠0:=by have hz:lw=[]:=xu.1 h2.symm;subst hz;unfold Qa QV;simp[inI];omega
  exact this hw
 generalize O2 lw (eyF lw rows) (waF lw (rows.map λr=>Z7 m (QP lw r)))=L at *
 have dZ:∀ w,w<lw.length->0<=L.getD w 0/\L.getD w 0<lw.length:=λw hw=>by rw[Q7 (show w<L.length by omega)];obtain⟨e,h1,h2⟩:=i2 _ (zi (show w<L.length by omega));rw[h1];omega
 have eZ:∀ w,w<lw.length->hkC rows (lw.getD (L.getD w 0).toNat 0)=hkC rows (lw.getD (m.getD w 0).toNat 0):=λw hw=>by have h1:=(i9 w hw).1;have:=dZ w hw;rw[oM _ (by omega),sB w hw] at h1;exact h1
 have lO:∀ w,w<lw.length->isRight lw L (w:Int)=Qs (eyF lw rows) (waF lw (rows.map λr=>Z7 m (QP lw r))) w:=λw hw=>by
  have h0:=dZ w hw;have e:isRight lw L (w:Int)=(L.getD w 0 != -1&&lw.getD (L.getD w 0).toNat 0==lw.getD w 0):=rfl;have h1:(L.getD w 0 != -1)=true:=by rw[bne_iff_ne];omega
  rw[e,h1,Bool.true_and,Bool.eq_iff_iff,hr,zr];constructor
  .intro h;rw[sB w hw,oM w hw,<-eZ w hw,h]
  .intro h;exact(i9 w hw).2 ((hr w).2 h)
 refine⟨e0,oy,hW,by rw[n1];exact QA _ _,?_,?_,i1,dZ,i3,λx hx=>?_,?_,r4⟩
 .rw[n1,TC,Tq,i1];exact Zi λj hj=>by rw[lO j hj]
 .rw[n1,TC,Tq,ml];refine GB λj hj h=>?_;rw[Bool.not_eq_true'] at h |-;rw[<-x3] at h |-;intro c;apply h;have e:isRight lw m (j:Int)=(m.getD j 0 != -1&&lw.getD (m.getD j 0).toNat 0==lw.getD j 0):=rfl;rw[e,z1,zr] at c;rw[hr,sB j hj,oM j hj,c.2]
 .obtain⟨e,h1,h2⟩:=i2 x hx;omega
 .refine zZ λr mi=>?_;apply List.ext_getElem (by rw[YH,YH];omega);intro i h1 h2;have hi:i<lw.length:=by rw[YH] at h1;omega
  have a1:=GC (l:=L) (r:=r) i1 (λx hx=>by obtain⟨e,h1,h2⟩:=i2 x hx;omega) hi;have a2:=GC (l:=m) (r:=r) ml mv hi;have b1:=dZ i hi;have b2:=Ro hm hi;rw[z6 (by omega)] at a1 a2;rw[Q7 h1] at a1;rw[Q7 h2] at a2;rw[a1,a2];exact(List.map_inj_left.1 (eZ i hi)) r mi
theorem AW (i:Nat):∀ (l:List Int) (b:Nat),(l.foldl (λb k=>b ||| 2 ^ k.toNat) b).testBit i=(b.testBit i||l.any λk=>decide (k.toNat=i))
 |[],b=>by simp
 |k::l,b=>by rw[xJ,AW i l,List.any_cons,Nat.testBit_or,Nat.testBit_two_pow,Bool.or_assoc]
theorem OD {lw:List Int}{k:Int}(h:k∈lw):(FB lw).testBit k.toNat=true:=by rw[FB,AW,xT.2 ⟨k,h,by simp⟩,Bool.or_true]
theorem FY:∀ (l:List Int) (b:Nat),b<2 ^ 24->(∀ k∈l,k.toNat<24)->l.foldl (λb k=>b ||| 2 ^ k.toNat) b<2 ^ 24
 |[],b,h,_=>h
 |k::l,b,h,hl=>FY l _ (Nat.or_lt_two_pow h (Nat.pow_lt_pow_right (by decide) (hl k (zQ ..)))) λx hx=>hl x (zT _ hx)
theorem Aq {rows:List Int}{w i:Nat}:∀ {s:List SI}{b:Nat},b.testBit i=true->(∀ x∈s,x.2.1=w->x.2.2=(rowAt rows x.1).testBit i)->(s.foldl (Ao rows w) b).testBit i=true
 |[],_,h,_=>h
 |x::s,b,h,hs=>by
  refine Aq (s:=s) ?_ λy hy=>hs y (zT _ hy);have hx:=hs x (zQ ..);unfold Ao;split
  .rename_i e;have hx:=hx e;cases c:x.2.2 with
   |true=>rw[c] at hx;rw[z7 rfl,Nat.testBit_and,h,<-hx];rfl
   |false=>rw[c] at hx;rw[z6 (by decide),Nat.testBit_xor,Nat.testBit_and,h,<-hx];rfl
  .exact h
theorem Q0y (rows:List Int) (w b:Nat) (x:SI):Ao rows w b x &&& b=Ao rows w b x:=by
 apply Nat.eq_of_testBit_eq;intro i;unfold Ao;rw[Nat.testBit_and];split
 .split
  .rw[Nat.testBit_and];cases b.testBit i<;>simp
  .rw[Nat.testBit_xor,Nat.testBit_and];cases b.testBit i<;>simp
 .simp
def Q5x (lw rows l:List Int) (p w:Nat):Bool:=decide (l.getD w 0≠-1)&&(rows.getD p 0).toNat.testBit (lw.getD (l.getD w 0).toNat 0).toNat
def OW (lw rows l:List Int) (s:List SI):Prop:=∀ x∈s,∃ p w:Nat,x.1=p/\p<rows.length/\x.2.1=w/\w<lw.length/\x.2.2=Q5x lw rows l p w
theorem FZ {rows:List Int}{p:Nat}(h:p<rows.length):rowAt rows (p:Int)=(rows.getD p 0).toNat:=by rw[rowAt,zh,xU h]
theorem Fm {lw rows l:List Int}{s:List SI}(hs:OW lw rows l s) {w:Nat}(hw:w<lw.length) (hl:l.getD w 0=-1):(Z1 lw s).getD w false=true:=by
 rw[Q7 (by rw[Wj];exact hw)];simp only[Z1,xM,List.getElem_range,Bool.not_eq_true'];rw[xe];intro x hx;obtain⟨p,w',_,_,h3,_,h5⟩:=hs x hx;by_cases e:x.2.1=(w:Int)
 .have:w'=w:=by omega
  subst this;rw[h5,Q5x,hl];simp
 .simp[e]
theorem Mw {lw rows:List Int}{s:List SI}{w:Nat}(hw:w<lw.length):(Z3 lw rows s).getD w 0=((Un lw rows s w:Nat):Int):=by rw[Q7 (by rw[Wn];exact hw)];simp[Z3]
theorem MB {lw rows:List Int}{s:List SI}{w:Nat}(hk:∀ k∈lw,0<=k/\k<24):Un lw rows s w<9223372036854775808:=S4 _ _ (by
 have:=FY lw 0 (by decide) λk fM=>by have:=hk k fM;omega
 have:FB lw<2 ^ 24:=this;omega)
theorem Om {lw rows l:List Int}{s:List SI}(hs:OW lw rows l s) (hk:∀ k∈lw,0<=k/\k<24) {w:Nat}(hw:w<lw.length) (h0:0<=l.getD w 0) (h1:l.getD w 0<lw.length):ZS .and .i64 (Mj .i64 ((Z3 lw rows s).getD w 0) (lw.getD (l.getD w 0).toNat 0)) 1=1:=by
 have hm:lw.getD (l.getD w 0).toNat 0∈lw:=by rw[Q7 (show (l.getD w 0).toNat<lw.length by omega)];exact zi _
 have hb:(Un lw rows s w).testBit (lw.getD (l.getD w 0).toNat 0).toNat=true:=Aq (OD hm) λx hx e=>by
  obtain⟨p,w',g1,g2,g3,_,g5⟩:=hs x hx;have:w'=w:=by omega
  subst this;rw[g5,g1,FZ g2,Q5x,xZ (by omega),Bool.true_and]
 have hx:=hk _ hm;obtain⟨i,hi⟩:=zo hx.1;rw[hi,zh] at hb;rw[Mw hw,hi];have:=IC (x:=Un lw rows s w) (i:=i) (MB hk) (by omega);rw[hb,zr] at this;exact this
theorem Fe {lw rows:List Int}{s:List SI}{x:SI}(hk:∀ k∈lw,0<=k/\k<24) {w:Nat}(hw:w<lw.length):ZS .andNot .i64 ((Z3 lw rows (s++[x])).getD w 0) ((Z3 lw rows s).getD w 0)=0:=by
 rw[Mw hw,Mw hw,NX (MB hk) (MB hk)];have:Un lw rows (s++[x]) w=Ao rows w (Un lw rows s w) x:=by simp[Un]
 rw[this,Q0y,Nat.xor_self];rfl
theorem EG {lw:List Int}{s:List SI}{x:SI}{w:Nat}(hw:w<lw.length) (h:(Z1 lw (s++[x])).getD w false=true):(Z1 lw s).getD w false=true:=by rw[Q7 (by rw[Wj];exact hw)] at h |-;simp only[Z1,xM,List.getElem_range,Bool.not_eq_true',List.any_append,Bool.or_eq_false_iff] at h |-;exact h.1
def Q49 (EC:List (List UInt8)) (n:Nat) (x:Int×Int):SI:=(Int.tmod x.1 EC.length,Int.tmod x.2 n,((((EC.getD (Int.tmod x.1 EC.length).toNat []).getD (Int.tmod x.2 n).toNat 0).toNat:Nat):Int)==120)
def ZA (EC:List (List UInt8)) (n:Nat) (lk:List (Int×Int)) (i:Nat):List SI:=(lk.take i).map (Q49 EC n)
theorem EN {lw rows l:List Int}(hl:l.length=lw.length) (hv:∀ x∈l,-1<=x/\x<lw.length) (hn:1<=lw.length) (hr:1<=rows.length) {lk:List (Int×Int)}(iM:∀ x∈lk,0<=x.1/\x.1<=255/\0<=x.2/\x.2<=255) (i:Nat):OW lw rows l (ZA (rows.map λr=>Z7 l (QP lw r)) lw.length lk i):=by
 intro x hx;obtain⟨y,hy,rfl⟩:=zM.1 hx;obtain⟨y1,_,y3,_⟩:=iM y (List.mem_of_mem_take hy);have hE:(rows.map λr=>Z7 l (QP lw r)).length=rows.length:=by simp
 have t1:=Int.tmod_nonneg (rows.length:Int) y1;have t2:=Int.tmod_lt_of_pos y.1 (show (0:Int)<rows.length by omega);have t3:=Int.tmod_nonneg (lw.length:Int) y3;have t4:=Int.tmod_lt_of_pos y.2 (show (0:Int)<lw.length by omega);obtain⟨p,hp⟩:=zo t1;obtain⟨w,hw⟩:=zo t3;refine⟨p,w,by simp only[Q49];rw[hE];exact hp,by omega,hw,by omega,?_⟩;simp only[Q49];rw[hE,hp,hw,zh,zh,AX (a:=0) (show p<rows.length by omega),GC hl hv (show w<lw.length by omega),Q5x];by_cases c:l.getD w 0=-1
 .rw[z7 c,xD (λh=>h c)];rfl
 .rw[z6 c,xZ c];cases (rows.getD p 0).toNat.testBit (lw.getD (l.getD w 0).toNat 0).toNat<;>rfl
theorem RD {hk:Int}{lw rows l:List Int}{s:List SI}(hw:Qa hk lw hk rows=0) (hs:OW lw rows l s) (hl:s.length<=60) (hr:rows.length<=8):ZP hk lw hk rows s=0:=by rw[ZP,z6 (by rw[hw];simp),z6 (by omega),z6];rw[x3,xe];intro x hx;obtain⟨p,w,h1,h2,h3,h4,_⟩:=hs x hx;rw[h1,h3];simp[inI];omega
structure TrueLoom (hk:Int) (lw rows l m:List Int) (EC MC:List (List UInt8)) (lk:List (Int×Int)) (L:List Int):Prop where
 n1:1<=lw.length
 n24:lw.length<=24
 r1:1<=rows.length
 r8:rows.length<=8
 len:l.length=lw.length
 val:∀ w,w<lw.length->-1<=l.getD w 0/\l.getD w 0<lw.length
 key:∀ w,w<lw.length->0<=lw.getD w 0/\lw.getD w 0<24
 eC:Zp hk lw l hk rows=0
 wE:Q9 hk lw l hk rows=EC
 lE:EC.length=rows.length
 lE1:∀ p,p<rows.length->(EC.getD p []).length=lw.length
 hE:∀ i,i<=60->ZP hk lw hk rows (ZA EC lw.length lk i)=0
 hW:∀ i,i<=60->XE hk lw hk rows (ZA EC lw.length lk i)=Z3 lw rows (ZA EC lw.length lk i)
 lW:∀ i,i<=60->XG hk lw hk rows (ZA EC lw.length lk i)=Z1 lw (ZA EC lw.length lk i)
 hA:∀ i w,w<lw.length->l.getD w 0=-1->(Z1 lw (ZA EC lw.length lk i)).getD w false=true
 hB:∀ i w,w<lw.length->0<=l.getD w 0->ZS .and .i64 (Mj .i64 ((Z3 lw rows (ZA EC lw.length lk i)).getD w 0) (lw.getD (l.getD w 0).toNat 0)) 1=1
 hC:∀ i w,w<lw.length->0<=(Z3 lw rows (ZA EC lw.length lk i)).getD w 0
 hD:∀ i w,w<lw.length->ZS .andNot .i64 ((Z3 lw rows (ZA EC lw.length lk (i+1))).getD w 0) ((Z3 lw rows (ZA EC lw.length lk i)).getD w 0)=0
 hF:∀ i w,w<lw.length->(Z1 lw (ZA EC lw.length lk (i+1))).getD w false=true->(Z1 lw (ZA EC lw.length lk i)).getD w false=true
 lM:m.length=lw.length
 mC:Zp hk lw m hk rows=0
 mE:ZD hk lw m=0
 wM:Q9 hk lw m hk rows=MC
 sM:MC.length=rows.length
 sM1:∀ s∈MC,s.length<=1000000
 fE:X9 hk lw hk rows MC=0
 fW:Kn hk lw hk rows MC=L
 f0:0<=GK hk lw hk rows MC
 ft:GK hk lw hk rows MC<=((WU hk lw m).length:Int)
 fb:((WU hk lw L).length:Int)=GK hk lw hk rows MC
 fl:L.length=lw.length
 fa:∀ w,w<lw.length->0<=L.getD w 0/\L.getD w 0<lw.length
 fd:L.Nodup
 LC:Zp hk lw L hk rows=0
 LE:ZD hk lw L=0
 wL:Q9 hk lw L hk rows=MC
 cnt:Ja hk lw hk rows MC=0/\1<=CX hk lw hk rows MC\/Ja hk lw hk rows MC=8
theorem GQ {EC:List (List UInt8)}{n:Nat}{lk:List (Int×Int)}{i:Nat}(h:i<lk.length):ZA EC n lk (i+1)=ZA EC n lk i++[Q49 EC n (lk.getD i (0,0))]:=by rw[ZA,Qc h,xr,Q7 h];rfl
theorem Sv (EC:List (List UInt8)) (n:Nat) (lk:List (Int×Int)) (i:Nat):(ZA EC n lk i).length<=i:=by simp[ZA];omega
theorem Ip {hk:Int}{lw rows l m:List Int}(h1:1<=hk/\hk<=10) (lL:∀ x∈lw,0<=x/\x<hk) (eF:1<=rows.length) (tF:rows.length<=8) (hr:∀ x∈rows,0<=x/\x<2 ^ hk.toNat) (n1:1<=lw.length) (n24:lw.length<=24) (hl:l.length=lw.length) (hv:∀ x∈l,-1<=x/\x<lw.length) (hm:Bq lw.length m) {lk:List (Int×Int)}(iM:∀ x∈lk,0<=x.1/\x.1<=255/\0<=x.2/\x.2<=255):∃ EC MC L,TrueLoom hk lw rows l m EC MC lk L:=by
 have ht:QV hk lw=0:=Ic h1.1 (by omega) (by omega) n1 lL;have hp:QD hk rows=0:=Cu h1.1 (by omega) (by omega) eF hr;have hw:=CN ht hp;have ml:=KM hm;have mv:∀ x∈m,-1<=x/\x<lw.length:=λx hx=>by have:=Gq hm x hx;omega
 have F:=FJ (rows:=rows) hm hw lL h1;have fK:∀ k∈lw,0<=k/\k<24:=λk fM=>by have:=lL k fM;omega
 have eE:∀ {d:List Int},d.length=lw.length->(∀ x∈d,-1<=x/\x<lw.length)->ZD hk lw d=0:=λh1 h2=>FQ ht h1 h2;have eW:∀ {d:List Int},d.length=lw.length->(∀ x∈d,-1<=x/\x<lw.length)->Zp hk lw d hk rows=0:=λh1 h2=>by rw[Zp,z6 (by rw[eE h1 h2];simp),hw]
 have eC:∀ {d:List Int},d.length=lw.length->(∀ x∈d,-1<=x/\x<lw.length)->Q9 hk lw d hk rows=rows.map λr=>Z7 d (QP lw r):=λh1 h2=>by rw[Q9,z7 (eW h1 h2)]
 have T:=λi=>EN (rows:=rows) hl hv n1 eF iM i;have sl:=Sv (rows.map λr=>Z7 l (QP lw r)) lw.length lk;have hE:=λi (hi:i<=60)=>RD hw (T i) (zJ (sl i) hi) tF;refine⟨rows.map λr=>Z7 l (QP lw r),rows.map λr=>Z7 m (QP lw r),_,n1,n24,eF,tF,hl,λw hw=>?_,λw hw=>?_,eW hl hv,eC hl hv,by simp,λp hp=>?_,hE,λi hi=>z7 (hE i hi),λi hi=>z7 (hE i hi),λi w hw lL=>Fm (T i) hw lL,λi w hw h0=>?_,λi w hw=>by rw[Mw hw];exact Int.natCast_nonneg _,λi w hw=>?_,λi w hw h=>?_,ml,eW ml mv,eE ml mv,eC ml mv,by simp,λs hs=>?_,F.e1,F.w,F.n0,?_,?_,F.len,F.at_,F.nd,eW F.len F.val,eE F.len F.val,?_,F.cnt⟩
 .rw[Q7 (show w<l.length by omega)];exact hv _ (zi _)
 .rw[Q7 hw];exact fK _ (zi _)
 .rw[AX (a:=0) hp,YH,hl]
 .exact Om (T i) fK hw h0 (by rw[Q7 (show w<l.length by omega)];exact(hv _ (zi _)).2)
 .by_cases c:i<lk.length
  .rw[GQ c];exact Fe fK hw
  .have:ZA (rows.map λr=>Z7 l (QP lw r)) lw.length lk (i+1)=ZA (rows.map λr=>Z7 l (QP lw r)) lw.length lk i:=by rw[ZA,ZA,zy (by omega),zy (by omega)]
   rw[this,Mw hw,NX (MB fK) (MB fK),Nat.and_self,Nat.xor_self];rfl
 .by_cases c:i<lk.length
  .rw[GQ c] at h;exact EG hw h
  .have:ZA (rows.map λr=>Z7 l (QP lw r)) lw.length lk (i+1)=ZA (rows.map λr=>Z7 l (QP lw r)) lw.length lk i:=by rw[ZA,ZA,zy (by omega),zy (by omega)]
   rwa [this] at h
 .obtain⟨r,_,rfl⟩:=zM.1 hs;rw[YH];omega
 .rw[WU,z7 (eE ml mv)];exact F.nt
 .rw[WU,z7 (eE F.len F.val)];exact F.nb.symm
 .rw[eC F.len F.val];exact F.cl
def CK (lw rows:List Int) (EC:List (List UInt8)) (lk:List (Int×Int)):Nat->List Int
 |0=>[]
 |i+1=>Z3 lw rows (ZA EC lw.length lk i)
def CL (lw:List Int) (EC:List (List UInt8)) (lk:List (Int×Int)):Nat->List Bool
 |0=>[]
 |i+1=>Z1 lw (ZA EC lw.length lk i)
end Go.Proofs.Tryd
namespace Go.V
open Go Go.ChangeShapes Go.WideShapes Go.RowKit Go.Deep Go.Joins
def Heap.RO (U:Heap):Prop:=∀ i b,U.get i=some b->b.wr=false
structure View (w:World) (ρ:Plc) (U:Heap):Prop where
 rel:HRel ρ U w
 ro:U.RO
structure More (ρ:Plc) (U:Heap) (ρ':Plc) (U':Heap):Prop where
 n:U.n<=U'.n
 pl:∀ i,i<U.n->∀ p,ρ' i=some p->ρ i=some p
 ag:Agree U U'
theorem More.refl (ρ:Plc) (U:Heap):More ρ U ρ U:=⟨zd _,λ_ _ _ h=>h,Agree.refl _⟩
theorem More.trans {ρ ρ' dX:Plc}{U U' aH:Heap}(h:More ρ U ρ' U') (k:More ρ' U' dX aH):More ρ U dX aH :=
 ⟨zJ h.n k.n,λi hi p hp=>h.pl i hi p (k.pl i (xh hi h.n) p hp),h.ag.trans k.ag h.n⟩
def Q7x (w:World):Prop:=∀ g cs,Q03 g=some cs->∃ e f,w.heap[g]?=some (.cells cs.toArray e f)
theorem View.emptyT (w:World) (ht:Q7x w):View w (λ_=>none) Heap.empty where
 rel:=⟨⟨λi b h=>(by cases h),λ_ _=>rfl,λi p h=>(by cases h),λi j p q b _ h=>(by cases h)⟩,λg cs hg=>⟨ht g cs hg,λ⟨_,_,_,h,_⟩=>by cases h⟩⟩
 ro:=λi b h=>by cases h
theorem View.add {w:World}{ρ:Plc}{U:Heap}(h:View w ρ U) (p:Pl) (c:List Value) {C:Array Value}{e:TypeId}{f:Nat×Nat}(hb:w.heap[p.blk]?=some (.cells C e f)) (hs:p.shift+p.ext<=C.size) (hl:c.length<=p.ext) (ht:e=p.esz.ty)
  (hc:∀ (k:Nat) (v:Value),c[k]?=some v->∃ u,w.cell? ⟨p.blk,p.shift+k,none⟩=some u/\VRel ρ U.n v u) :
  View w (ρ.put U.n (some p)) (U.push (.cells c p.esz false p.tight))/\More ρ U (ρ.put U.n (some p)) (U.push (.cells c p.esz false p.tight)):=by
 have aN:∀ i,i<U.n->∀ q,(ρ.put U.n (some p)) i=some q->ρ i=some q:=λi hi q hq=>by unfold Plc.put at hq;rwa [z6 (by omega)] at hq
 have bI:(U.push (.cells c p.esz false p.tight)).RO:=λi b hi=>by
  by_cases e:i=U.n
  .subst e;rw[Heap.q0a] at hi;obtain rfl:=osj hi;rfl
  .rw[Heap.q0e _ _ e] at hi;exact h.ro i b hi
 refine⟨⟨⟨⟨?_,?_,?_,?_⟩,λg cs hg=>⟨(h.rel.tab g cs hg).1,λ⟨i,_,b,_,hi,hw,_⟩=>by rw[bI i b hi] at hw;cases hw⟩⟩,bI⟩,⟨by simp,aN,λi hi=>Heap.q0j _ _ hi⟩⟩
 .intro i b hi;by_cases aL:i=U.n
  .subst aL;rw[Heap.q0a] at hi;obtain rfl:=osj hi;refine⟨p,by simp[Plc.put],rfl,rfl,hl,⟨C,e,f,hb,hs,ht⟩,λk v hk=>?_,λh=>by cases h⟩;obtain⟨u,hu,hv⟩:=hc k v hk;exact⟨u,hu,hv.mono (by simp) aN⟩
  .rw[Heap.q0e _ _ aL] at hi;obtain⟨q,hq,hB⟩:=h.rel.live i b hi;exact⟨q,by simp[Plc.put,aL,hq],hB.mono (by simp) aN rfl⟩
 .intro i hi;by_cases aL:i=U.n
  .grind [Heap.q0a]
  .rw[Heap.q0e _ _ aL] at hi;simp[Plc.put,aL,h.rel.dead i hi]
 .intro i q hq;by_cases aL:i=U.n
  .subst aL;simp[Plc.put] at hq
   grind
  .simp[Plc.put,aL] at hq;exact h.rel.lt i q hq
 .intro i j q r b _ _ _ bS hw _;rw[bI i b bS] at hw;cases hw
theorem IL {P:Program}{fits:TypeId->Bool}{d:Nat}{e:TypeId}{count off n:Nat}(h:rowAt P fits d e count off n=true):off<=count*P.cellsOf e:=by
 cases d with
 |zero=>cases h
 |succ d =>
  unfold rowAt at h;by_cases hs:P.cellsOf e=0
  .simp[hs] at h
  .have dh:0<P.cellsOf e:=Nat.pos_of_ne_zero hs;simp only[hs,if_false,zw,z1,zr,zg] at h;have hd:=Nat.div_add_mod off (P.cellsOf e);have hm:=wP off dh;rcases h with⟨⟨h1,h2⟩,_⟩|⟨h1,_⟩
   .have:P.cellsOf e*(off / P.cellsOf e)<=P.cellsOf e*count:=Nat.mul_le_mul_left _ (by omega);rw[wU count];omega
   .have:P.cellsOf e*(off / P.cellsOf e+1)<=P.cellsOf e*count:=Nat.mul_le_mul_left _ (by omega)
    grind
theorem TJ {P:Program}:∀ {d:Nat}{e:TypeId}{count off:Nat}{u:TypeId}{n:Nat},liesAt P d e count off u n=true->off<=count*P.cellsOf e
 |0,_,_,_,_,_,h=>by cases h
 |d+1,e,count,off,u,n,h=>by
  unfold liesAt at h;rw[zw] at h;rcases h with h|h
  .exact IL h
  .split at h
   .exact TJ h
   .cases h
theorem Ss {P:Program}{w:World}{r:Reach}{base:Nat}{a:Addr}{e:TypeId}{n:Nat}(h:w.has P r base a e n):∃ C row f,w.heap[a.block]?=some (.cells C row f)/\a.off<=C.size/\a.spot=none:=by
 obtain⟨_,hs,row,cells,dG,hl⟩:=h;unfold World.shape? at dG;split at dG
 .rename_i C e' f hb;obtain⟨rfl,rfl⟩:=(by simpa using dG:e'=row/\C.size=cells);exact⟨C,e',f,hb,zJ (TJ hl) (Nat.div_mul_le_self _ _),hs⟩
 .cases dG
theorem Du {P:Program}{w:World}{r:Reach}{base:Nat}{t e:TypeId}{v:Value}(ht:P.underlying t=some (.slice e)) (h:Cell.okWide P w r base t v) :
  v=.slice none 0 0\/∃ a len cap,v=.slice (some a) len cap/\w.has P r base a e cap:=by
 unfold Cell.okWide at h;rw[ht] at h;have h':Cell.ok P w r base t v:=by omega
 unfold Cell.ok at h'
 grind
theorem Q4u {k:IntKind}{x:Int}(h:(Lit.int k x).wf=true):k.min<=x/\x<=k.max:=by simpa [Lit.wf] using h
theorem View.calls {P:Program}{f:FuncId}{w:World}{ρ:Plc}{U:Heap}(h:View w ρ U) {args:List Value}{aq:Array Value}(hl:LRel ρ U.n args aq.toList) (hc:VCallsTo P f args U λv _=>v=.bool true) :
  Calls P f aq w λe w'=>e=.returned (.bool true)/\Below w.heap.size w w':=by
 refine (hc ρ w aq h.rel hl).mono λe w' ⟨c,he,v,ρ',U',hv,hr,_,hx⟩=>?_;subst hv;have:c=.bool true:=by cases hr;rfl
 subst this;exact⟨he,hx.os,hx.tape,hx.output,hx.size,λB hB=>hx.keep B hB λ⟨i,p,b,_,hi,hw,_⟩=>by rw[h.ro i b hi] at hw;cases hw⟩
theorem G9 {H:Type}{enc:TypeId×Value->H}{P:Program}(hl:laidOutB P=true) {W W':World}{sp:Nat->Bool}(hb:Below W.heap.size W W') :
  ∀ {ts:List TypeId}{vs:List Value}{ds:List (DataW H)}{ps:List MemPlace},(∀ t∈ts,P.readableRec t=true/\t<P.types.size)->DataW.TrodAll enc P W 0 (λ_=>true) true ts vs ds ps->(∀ p∈ps,p.block<W.heap.size)->(∀ p∈ps,sp p.block=true) ->
   DataW.TrodAll enc P W' 0 sp true ts vs ds ps
 |[],vs,ds,ps,_,h,_,_=>by obtain⟨rfl,rfl,rfl⟩:=trodAll_nil h;rfl
 |t::ts,vs,ds,ps,ht,h,af,hs=>by
  obtain⟨v,cH,d,ds',p,q,rfl,rfl,rfl,h1,h2⟩:=trodAll_cons h;obtain⟨r1,r2⟩:=ht t (by simp);exact⟨p,q,WideElems.Trod_stays hl r1 r2 h1 (λx hx=>hb.same (af x (by simp[hx]))) (λx hx=>hs x (by simp[hx])),
   G9 hl hb (λt qv=>ht t (by simp[qv])) h2 (λx hx=>af x (by simp[hx])) (λx hx=>hs x (by simp[hx])),rfl⟩
theorem Iv {H:Type}{enc:TypeId×Value->H}{P:Program}{f:Func}{s:ChangeSpec}{apart fresh handsOn again:Bool}{W W':World}{args:Array Value}{ds gs:List (DataW H)}{before:List MemPlace}{tb:TypeId}
  (hl:laidOutB P=true) (hp:f.params.toList.all (λt=>P.readableRec t&&decide (t<P.types.size))=true) (kj:s.vars=[]) (hr:f.resultTypes=#[tb]) (bz:P.underlying tb=some .bool) (hs:s.fn H ds={results:=[.lit (.bool true)],args:=ds})
  (hW:DataW.Whole enc P f.params.toList s.vars apart W args.toList ds gs before) (hb:Below W.heap.size W W'):s.post enc P f apart fresh handsOn again W args (.bool true) W':=by
 have af:∀ p∈before,p.block<W.heap.size:=λp hp=>hW.lt p hp;have vZ:=hW;obtain⟨p,q,hA,hV,rfl,hz,hn⟩:=hW;rw[kj] at hV;obtain⟨rfl,rfl⟩:=trodVars_none hV;have bh:∀ t∈f.params.toList,P.readableRec t=true/\t<P.types.size:=(by grind);have fe:s.fn H (ds++[])={results:=[.lit (.bool true)],args:=ds}:=by rw[xI];exact hs
 have eX:∀ (b:Nat) (sp:Nat->Bool) (hd:Bool),DataW.TrodAll enc P W' b sp hd f.resultTypes.toList ((Value.bool true).resultList f.resultTypes.size) (s.fn H (ds++[])).results []:=λb sp hd=>by rw[fe,hr];exact trodAll_mk1 (shut_bool bz _)
 have au:∀ sp:Nat->Bool,(∀ x∈p++[],sp x.block=true)->DataW.TrodAll enc P W' 0 sp true f.params.toList args.toList (s.fn H (ds++[])).args p:=(by grind [G9]);have bY:∀ sp:Nat->Bool,DataW.TrodVars enc P W' sp s.vars (s.fn H (ds++[])).vars []:=λsp=>by rw[fe,kj];rfl
 have hold:∀ x∈p++[],(λb=>decide (b<W.heap.size)) x.block=true:=λx hx=>by simpa using af x hx
 refine⟨ds,[],p++[],[],p,[],vZ,eX _ _ _,au _ hold,bY _,World.keptBut_mono (λx hx=>⟨hx,?_⟩) (hb.frame (·∈p++[])),λ_=>?_⟩
 .exact .inr (by simpa using hx)
 .refine⟨ok_one hr rfl (okWide_bool_mk bz _),_,_,([]++p)++[],⟨[]++p,[],trodAll_append (au _ (λ_ _=>rfl)) (eX _ _ _),bY _,rfl,?_,?_⟩,?_⟩
  .intro b off hx;have aL:MemPlace.cell b off∈p++[]:=by simpa using hx
   rw[hb.frozen (af _ aL)];exact hz b off aL
  .intro ha;simpa using hn ha
  .intro x hx _;simpa using hx
end Go.V