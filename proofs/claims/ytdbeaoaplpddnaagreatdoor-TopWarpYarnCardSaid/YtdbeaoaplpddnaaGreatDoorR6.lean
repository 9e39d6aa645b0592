/- A framework for walks, contracts of functions, and their proofs: part 6. -/
import Derived.Test.YtdbeaoaplpddnaaGreatDoorR5
namespace Go.Proofs.Tryz
open Go Go.V
noncomputable def Q51:List (Option FEnt):=[
 none,
 none,
 some (.code c2 [] 1),
 some (.code c3 [.tmp 2] 184),
 some (.code c4 [.tmp 4] 268),
 some (.code c5 [.tmp 4] 203),
 some (.code c6 [.tmp 2,.tmp 3] 54),
 some (.code c7 [.tmp 4,.tmp 5] 15),
 some (.code c8 [.tmp 2] 6),
 some (.code c9 [.tmp 2,.tmp 3] 40),
 some (.code c10 [.tmp 2] 6),
 some (.code c11 [.tmp 2,.tmp 3] 52),
 some (.codeJ c12 [.tmp 2,.tmp 3] 55),
 some (.code c13 [.tmp 2,.tmp 3] 75),
 some (.code c14 [.tmp 0] 42),
 some (.code c15 [.tmp 0] 42),
 some (.code c16 [.cell 2 true 2] 51),
 some (.code c17 [.cell 2 true 2,.tmp 3] 18),
 some (.code c18 [.cell 2 true 2] 9),
 some (.code c19 [.tmp 4,.tmp 5,.tmp 6,.tmp 7] 58),
 some (.code c20 [.tmp 6,.tmp 7,.tmp 8] 61),
 some (.codeJ c21 [.tmp 6,.tmp 7] 29),
 some (.code c22 [.tmp 0] 29),
 some (.code c23 [.cell 4 true 2,.tmp 5] 52),
 some (.code c24 [.cell 2 true 2] 48),
 some (.codeJ c25 [.tmp 4,.tmp 5] 43),
 some (.code c26 [.cell 2 true 2] 9),
 some (.code c27 [.cell 6 true 2,.tmp 7,.tmp 8] 37),
 some (.code c28 [.cell 4 true 2] 8),
 some (.code c29 [.cell 8 true 2,.tmp 9] 103),
 some (.code c30 [.tmp 0] 31),
 some (.code c31 [.tmp 4,.tmp 5,.tmp 6] 29),
 some (.code c32 [.tmp 2] 11),
 some (.code c33 [.tmp 2] 22),
 some (.code c34 [.tmp 4] 10),
 some (.code c35 [.tmp 4] 19),
 some (.code c36 [.tmp 3] 8),
 some (.code c37 [.tmp 4] 48),
 some (.code c38 [.tmp 2] 7),
 some (.code c39 [.tmp 4] 9),
 some (.codeJ c40 [.tmp 4,.tmp 5] 18),
 some (.code c41 [.tmp 4] 26),
 some (.codeJ c42 [.cell 4 false 1,.tmp 5,.tmp 6] 86),
 some (.code c43 [.tmp 2] 28),
 some (.code c44 [.cell 6 true 2] 38),
 some (.code c45 [.tmp 5] 12),
 some (.code c46 [.tmp 6] 26),
 some (.code c47 [.tmp 2] 18),
 some (.code c48 [.tmp 4] 19),
 some (.code c49 [.tmp 2] 8),
 some (.code c50 [.tmp 2] 8),
 some (.code c51 [.cell 4 true 2,.tmp 5] 21),
 some (.code c52 [.tmp 2] 13),
 some (.code c53 [.tmp 4] 9),
 some (.code c54 [.tmp 3] 9),
 some (.codeJ c55 [.tmp 4,.tmp 5] 62),
 some (.codeJ c56 [.cell 6 true 2,.tmp 7,.tmp 8] 84),
 some (.code c57 [.tmp 2] 10),
 some (.code c58 [.tmp 6] 11),
 some (.code c59 [.cell 2 true 2] 61),
 some (.code c60 [.tmp 2] 27),
 some (.code c61 [.tmp 4] 22),
 some (.code c62 [.cell 6 true 3,.tmp 7] 33),
 some (.code c63 [.tmp 2,.tmp 3] 41),
 some (.code c64 [.cell 0 true 2] 2),
 some (.code c65 [.tmp 2] 4),
 some (.code c66 [.cell 6 true 2] 44),
 some (.code c67 [.cell 4 true 2] 16),
 some (.code c68 [.cell 4 true 2] 17),
 some (.codeJ c69 [.cell 4 true 2,.tmp 5,.tmp 6] 78),
 some (.code c70 [.tmp 4] 26),
 some (.codeJ c71 [.tmp 2] 16),
 some (.code c72 [.tmp 2,.tmp 3] 64),
 some (.code c73 [.tmp 6] 11),
 some (.code c74 [.tmp 2] 4),
 some (.code c75 [.tmp 2] 25),
 some (.code c76 [.tmp 4] 26),
 some (.code c77 [.tmp 2] 8),
 some (.code c78 [.tmp 2] 4),
 some (.code c79 [.tmp 4] 28),
 some (.code c80 [] 28),
 some (.code c81 [.tmp 6] 11),
 some (.code c82 [.tmp 2] 14),
 some (.code c83 [.tmp 2] 14),
 some (.code c84 [.tmp 2] 21),
 some (.code c85 [.tmp 2] 35),
 some (.code c86 [.tmp 4] 19),
 some (.codeJ c87 [.tmp 2] 15),
 some (.codeJ c88 [.tmp 4] 24),
 some (.codeJ c89 [.tmp 4] 38),
 some (.code c90 [.tmp 2] 18),
 some (.code c91 [.tmp 4] 20),
 some (.code c92 [.tmp 4] 36),
 some (.code c93 [.tmp 2,.tmp 3] 102),
 some (.code c94 [.tmp 4] 9),
 some (.code c95 [.tmp 2] 6),
 some (.code c96 [.tmp 2] 32),
 some (.code c97 [.tmp 4] 9),
 some (.code c98 [.tmp 4] 13),
 some (.code c99 [.tmp 6] 11),
 some (.code Q2j [.tmp 4] 17),
 some (.code Q38 [.tmp 2] 4),
 some (.code Q2p [.tmp 6] 17),
 some (.code Q2m [.tmp 2] 14),
 some (.code Q3l [.tmp 2] 15),
 some (.code Q1t [.tmp 4] 9),
 some (.code Q2v [.cell 6 true 2] 44),
 some (.code Q5d [] 19),
 some (.code Q4i [.tmp 4] 48),
 some (.code Q4r [.tmp 2] 32),
 some (.code Q5g [] 9),
 some (.code Q4u [.tmp 5] 36),
 some (.code Q47 [] 11),
 some (.code Q4x [] 14),
 some (.code Q5q [.tmp 4] 13),
 some (.code Q4v [] 19),
 some (.code Q5v [] 19),
 some (.code Q2f [.tmp 4] 13),
 some (.code Q53 [.tmp 3] 11),
 some (.code Q5p [.tmp 2] 6),
 some (.code Q52 [.cell 4 true 4] 20),
 some (.code Q5m [.tmp 6] 29),
 some (.code Q59 [.tmp 4] 81),
 some (.code Q5j [.tmp 2] 4),
 some (.code Q5x [.cell 6 true 4,.tmp 7] 40),
 some (.code Q4t [.tmp 4] 19),
 some (.code Q0x [.tmp 4] 19),
 some (.code Q0u [.tmp 4] 13),
 some (.code Q23 [] 20),
 some (.code Q37 [.tmp 4] 19),
 some (.code Q3x [.tmp 4,.tmp 5] 30),
 some (.code Q41 [.tmp 2] 5),
 some (.code Q5s [.tmp 4] 6),
 some (.code Q4j [] 63),
 some (.code Q4b [] 134),
 some (.code Q58 [.tmp 2] 8),
 some (.code Q3y [] 148),
 some .same,
 some (.code Q5t [.tmp 4,.tmp 5] 17),
 some (.code Q3n [.tmp 4,.tmp 5] 51),
 some (.code Q4q [.tmp 4] 13),
 some (.code Q3s [] 22),
 some (.code Q5n [] 53),
 some (.code Q5w [] 220),
 some (.code Q3o [] 49),
 some (.code Q5c [] 56),
 some (.code Q5o [] 65),
 some (.code Q4h [.tmp 6,.tmp 7] 57),
 some (.code Q3u [] 32),
 some (.code Q4d [.tmp 6] 133),
 some (.code Q4a [.tmp 4] 17),
 some (.code Q4o [.tmp 8] 84),
 some (.code Q4k [.tmp 8,.tmp 9] 168),
 some (.code Q50 [.tmp 2] 19),
 some (.code Q5h [.tmp 2] 25),
 some (.code Q44 [] 53),
 some (.code Q3q [] 60),
 some (.code Q49 [] 67),
 some (.code Q46 [.tmp 8,.tmp 9] 63),
 some (.code Q4y [] 34),
 some (.code Q5l [.tmp 8] 141),
 some (.code Q4g [.tmp 10] 90),
 some (.code Q4z [.tmp 10,.tmp 11] 178),
 some (.code Q3v [] 58),
 some (.code Q57 [] 76),
 some (.code Q5a [.tmp 2] 7),
 some (.code Q4p [.tmp 2] 33),
 some (.code Q5r [.tmp 6] 15),
 some (.code Q3p [.tmp 10] 36),
 some (.code Q4n [] 82),
 some (.code Q5e [.tmp 8] 18),
 some (.code Q5f [.tmp 12] 41),
 some (.code Q3z [] 38),
 some (.code Q4w [.tmp 8,.tmp 9] 28),
 some (.code Q43 [.tmp 10,.tmp 11] 32)]
noncomputable def tab:Tab:=fun f=>(Q51[f]?).join
theorem Fb:EntsOk Tryz.prog 0 Q51:=⟨trivial,trivial,Q66,Q5z,Q69,fun5,Q65,Q60,Q68,Q6d,Ip,Q15,Q33,Q1g,Ot,Q34,Q0j,Q1k,Ih,Q1f,Q18,Q3e,Q2q,Q1l,IF,IS,Oq,Ib,Iz,O1,F_,Q3k,Q2z,Q3c,Q10,Q3g,Q2u,Q2l,Q27,Q1r,Q22,Q13,Q1n,O0,Q3d,Q2t,Q35,Q2o,Q25,Q39,Q2h,Q1y,Q2d,Q29,Q1o,Q1c,Q1w,Q2x,I3,Q11,Q0d,OP,OQ,I8,OZ,IE,Oi,O_,Ii,Q2a,Q16,Q1s,Q0w,Q2c,Q2w,Q1q,Q1m,Q2e,Q2r,Q12,Q3h,O8,Q17,Q1p,Q1v,Q2y,Q32,Q20,Q0z,Q2b,Q1e,Q1z,Q1u,Q19,Q3f,Q36,Q21,OU,IZ,OT,EF,Eg,Ez,Ee,EH,Et,Eu,O5,Il,Q04,Q01,Ou,Og,Ox,Ix,Q0h,OI,Eo,Q03,Q0k,OH,O6,IT,IX,IB,FZ,EJ,Ep,EA,Ei,Ij,O4,Im,Iw,IV,I1,It,TF,OF,IY,IK,Oo,Q0l,Ic,OC,OA,IJ,Q0i,I4,OL,I_,Q0a,On,Q08,Q0c,I5,Iq,O2,IP,OK,IA,Oa,Ig,OD,OE,Oc,Q05,I7,Oy,OY,Io,IQ,O7,I0,Q0f,trivial⟩
theorem Em:TabOk Tryz.prog tab:=E6 Fb
end Go.Proofs.Tryz
namespace Go.Proofs.Tryz
open Go Go.V
theorem SX:Ho tab 300 YL [] c30 none (ET.of [] 31) CH.empty (EC false [.tmp 0] fun v _=>isTrue v)=true:=by kernel_rfl
theorem SY {σ:Heap}{K:Value→Heap→Prop}(hK:K (.bool true) σ):VCalled Tryz.prog 30 [] σ K:=RT mixed Em 300 F_ (by decide) SX hK
end Go.Proofs.Tryz
namespace Go.Proofs.Tryz
open Go Go.V
theorem PI:Ho tab 300 YL [] c14 none (ET.of [] 42) CH.empty (EC false [.tmp 0] fun v _=>isTrue v)=true:=by kernel_rfl
theorem PC {σ:Heap}{K:Value→Heap→Prop}(hK:K (.bool true) σ):VCalled Tryz.prog 14 [] σ K:=RT mixed Em 300 Ot (by decide) PI hK
end Go.Proofs.Tryz
set_option linter.unusedVariables false
namespace Go.Proofs.Tryz
open Go Go.V Go.Proofs
def TA (s:List UInt8):Nat:=s.countP fun b=>b==120
def Je (lw:List Int) (k:Nat):Nat:=lw.countP fun x=>x==(k:Int)
def LP (r:Int) (k:Nat):Int:=((r.toNat >>> k &&& 1:Nat):Int)
def P8 (lw:List Int) (r:Int):Nat→Int
 |0=>0
 |n+1=>P8 lw r n+LP r n*(Je lw n:Int)
theorem Rh (r:Int) (k:Nat):LP r k=if r.toNat.testBit k then 1 else 0:=by
 unfold LP;rw[Nat.and_one_is_mod];have h:r.toNat.testBit k=decide (r.toNat >>> k % 2=1):=by rw[Nat.testBit,Nat.one_and_eq_mod_two];rcases Nat.mod_two_eq_zero_or_one (r.toNat >>> k) with h|h<;>simp[h]
 rw[h];rcases Nat.mod_two_eq_zero_or_one (r.toNat >>> k) with h|h<;>simp[h]
theorem RM (r:Int):∀ n,P8 [] r n=0
 |0=>rfl
 |n+1=>by unfold P8;rw[RM r n];simp[Je]
theorem PT (x:Int) (lw:List Int) (r:Int) (hx:0≤x):∀ n:Nat,P8 (x::lw) r n=P8 lw r n+(if x<n then LP r x.toNat else 0)
 |0=>by unfold P8;rw[if_neg (by omega)];rfl
 |n+1=>by
  unfold P8;rw[PT x lw r hx n];have h:(Je (x::lw) n:Int)=Je lw n+if x=(n:Int) then 1 else 0:=by
   unfold Je;rw[List.countP_cons];by_cases e:x=(n:Int)
   ·simp[e]
   ·simp[e]
  rw[h,Int.mul_add];by_cases e:x=(n:Int)
  ·subst e;rw[if_neg (by omega),if_pos rfl,if_pos (by omega),Int.toNat_natCast,Int.mul_one];omega
  ·rw[if_neg e];by_cases e2:x<n
   ·rw[if_pos e2,if_pos (by omega),Int.mul_zero];omega
   ·rw[if_neg e2,if_neg (by omega),Int.mul_zero];omega
theorem Ed {hk:Nat}(r:Int):∀ lw:List Int,(∀ x∈lw,0≤x∧x<hk)→P8 lw r hk=(TA (ZM lw r):Int)
 |[],_=>RM r hk
 |x::lw,h=>by
  have hx:=h x (by simp);rw[PT x lw r hx.1,Ed r lw fun y hy=>h y (by simp[hy]),if_pos hx.2,Rh];unfold TA ZM;rw[List.map_cons,List.countP_cons];by_cases e:r.toNat.testBit x.toNat=true
  ·simp[e]
  ·simp[e]
theorem EZ (lw:List Int) (r:Int):(TA (ZM lw r):Int)≤lw.length:=by
 have h:TA (ZM lw r)≤(ZM lw r).length:=List.countP_le_length;have e:(ZM lw r).length=lw.length:=by simp[ZM]
 omega
def wyN (lw rows:List Int) (p:Nat):Int:=(TA (ZM lw (rows.getD p 0)):Int)
def wyS (lw rows:List Int):Nat→Int
 |0=>0
 |p+1=>wyS lw rows p+wyN lw rows p
def wyB (lw rows:List Int) (n:Nat):List En:=(List.range n).map fun p=>(1,wyN lw rows p)
def wyW (lw rows:List Int) (n:Nat):List Int:=(List.range n).map (wyN lw rows)
theorem X3 (lw rows:List Int) (n:Nat):(wyB lw rows n).length=n:=by simp[wyB]
theorem B6 {lw rows:List Int}{n k:Nat}(h:k<n):(wyB lw rows n).getD k (0,0)=(1,wyN lw rows k):=by rw[QM (by rw[X3];exact h)];simp[wyB]
theorem Bw {lw rows:List Int}{n k:Nat}(h:k<n):(wyW lw rows n).getD k 0=wyN lw rows k:=by rw[QM (by simpa [wyW] using h)];simp[wyW]
theorem AU (lw rows:List Int) (n:Nat):wyB lw rows (n+1)=wyB lw rows n++[(1,wyN lw rows n)]:=by simp[wyB,List.range_succ]
theorem Bd {lw rows:List Int}(h:lw.length≤30) (p:Nat):0≤wyN lw rows p∧wyN lw rows p≤30:=by have:=EZ lw (rows.getD p 0);unfold wyN;omega
theorem Rk {lw rows:List Int}(h:lw.length≤30):∀ k:Nat,0≤wyS lw rows k∧wyS lw rows k≤30*k
 |0=>by unfold wyS;omega
 |k+1=>by have:=Rk (rows:=rows) h k;have:=Bd (rows:=rows) h k;unfold wyS;omega
theorem Ht {s:Int}{lw rows:List Int}{n:Nat}(hs:0≤s) (h:lw.length≤30) (hn:n≤10):Truth 1000 s (wyB lw rows n) (wyW lw rows n):=by
 refine AK (fun k=>1000-wyS lw rows k) (by simp[wyS]) (by simp[wyB,wyW]) (fun k hk=>?_) (fun k hk=>?_) fun k hk=>?_
 ·rw[X3] at hk;rw[B6 hk,Bw hk];simp only[stepT,wyS,if_true];omega
 ·rw[X3] at hk;have:=Rk (rows:=rows) h k;omega
 ·rw[X3] at hk;have h1:=Rk (rows:=rows) h k;have h2:=Bd (rows:=rows) h k;rw[B6 hk,Bw hk];refine⟨?_,fun _=>by omega,fun h=>(h rfl).elim⟩;unfold InB Qe;rw[Yk];dsimp only;omega
theorem Oz {lw rows:List Int}{n k:Nat}(hk:k≤n):vT 1000 (wyB lw rows n) (wyW lw rows n) k=1000-wyS lw rows k :=
 AQ (fun k=>1000-wyS lw rows k) (by simp[wyS]) (fun k hk=>by
  rw[X3] at hk;rw[B6 hk,Bw hk];simp only[stepT,wyS,if_true];omega) k (by rw[X3];exact hk)
theorem Fu {s:Int}{lw rows:List Int}{n:Nat}(hs:0≤s∧s≤1000) (h:lw.length≤30) (hn:n≤10):Jc 1000 s (wyB lw rows n):=by refine⟨by omega,by omega,hs.1,hs.2,by rw[X3];omega,fun x hx=>?_⟩;obtain⟨p,_,rfl⟩:=List.mem_map.1 hx;have:=Bd (rows:=rows) h p;unfold Fz;dsimp only;omega
theorem LJ {s:Int}{lw rows:List Int}{n:Nat}(hs:0≤s∧s≤1000) (h:lw.length≤30) (hn:n≤10):Qn 1000 s (wyB lw rows n)=0∧(Qf 1000 s (wyB lw rows n)).1≤1000-wyS lw rows n∧1000-wyS lw rows n≤(Qf 1000 s (wyB lw rows n)).2:=by have ht:=Ht (rows:=rows) hs.1 h hn;obtain⟨h1,h2,h3,h4⟩:=NC (Fu hs h hn) ht;rw[X3,Oz (Nat.le_refl _)] at h3;exact⟨h1,h3.1,h3.2⟩
theorem E7 {lw rows:List Int}{n:Nat}(h:lw.length≤30) (hn:n≤10):Qf 1000 0 (wyB lw rows n)=(1000-wyS lw rows n,1000-wyS lw rows n):=by
 have ht:=Ht (s:=0) (rows:=rows) (by omega) h hn;obtain⟨h1,h2,h3,h4⟩:=NC (Fu (by omega) h hn) ht;rw[h2,Ry ht _ (Nat.le_refl _) (fun j hj=>?_) fun j hj=>?_,X3,Oz (Nat.le_refl _)]
 ·rw[X3] at hj;rw[B6 hj,Bw hj]
 ·rw[X3] at hj;rw[Bw hj];exact(Bd h j).1
theorem IC {lw rows:List Int}{n k:Nat}(h:lw.length≤30) (hn:n≤10) (hk:k<n):Qk 1000 0 (wyB lw rows n) k=0∧Qc 1000 0 (wyB lw rows n) k=(wyN lw rows k,wyN lw rows k):=by
 have ht:=Ht (s:=0) (rows:=rows) (by omega) h hn;obtain⟨h1,h2,h3⟩:=TW (Fu (by omega) h hn) ht (show k<(wyB lw rows n).length by rw[X3];exact hk);refine⟨h1,?_⟩;rw[Bw hk] at h3;have hb:=Bd (rows:=rows) h k;have e:∀ p r:Sp,(A5 0 p r (1,wyN lw rows k)).1≥wyN lw rows k∧(A5 0 p r (1,wyN lw rows k)).2≤wyN lw rows k:=fun p r=>by unfold A5 Uc Qe;simp only[Yk,V1];omega
 have e2:=e (stB 1000 0 (wyB lw rows n) k) (Kj 0 ((wyB lw rows n).drop (k+1)));have hw:Qc 1000 0 (wyB lw rows n) k=A5 0 (stB 1000 0 (wyB lw rows n) k) (Kj 0 ((wyB lw rows n).drop (k+1))) (1,wyN lw rows k):=by rw[h2];unfold E9;rw[B6 hk]
 rw[hw] at h3 ⊢;unfold InB at h3;apply Prod.ext
 ·dsimp only;omega
 ·dsimp only;omega
def Hq:AL (Unit):=.nil
def DU (d:Unit):Prop:=True
def B2 (d:Unit):SV:=.val .bo true
def DH (d:Unit):List OB:=[]
def M4:CSp:=Y_ Hq DU B2 DH
abbrev Hu:Prop:=OkC Tryz.prog 30 M4
theorem Hc:Hu:=RI fun _ _ h=>SY h
def GJ:AL (Unit):=.nil
def Mz (d:Unit):Prop:=True
def MF (d:Unit):SV:=.val .bo true
def MB (d:Unit):List OB:=[]
def U2:CSp:=Y_ GJ Mz MF MB
abbrev G1:Prop:=OkC Tryz.prog 14 U2
theorem GZ:G1:=RI fun _ _ h=>PC h
def VU:AL (List Int):=(.one (.k (.list (.i .i64))))
def GF (d:List Int):Prop:=d.length≤1000
def KJ (d:List Int):SV:=.lst 0
def Kp (d:List Int):List OB:=[.lst 3 (.i .i64) d false]
def W5:CSp:=Y_ VU GF KJ Kp
def Xx (l:List Int):Prop :=
 (((List.length ([]:List Int))+(List.length l))*8≤70368744177664)∧(True∧(((([]:List Int)++l)=l∧((List.isEmpty l)&&false)=false)∧True))
def VF:Cx:=⟨[(3,(.i .i64))],[],6,[],0,[],[],[],[],false,[],[],[],[]⟩
def DS (l:List Int):List (Nat×LoopAnn):=[]
set_option maxRecDepth 100000 in
theorem Dy (d:List Int):gwp (VF) (DS d) c10 0 (Ko [.tmp 2] (KJ d) (Kp d)) (QS 6 (AL.can VU d))=Xx d:=by kernel_rfl
abbrev DA:Prop:=OkC Tryz.prog 10 W5
theorem DM (h:∀ (l:List Int),(l.length≤1000)→Xx l):OkC Tryz.prog 10 W5 :=
 Z8 Ip mixed (C:=VF) (V:=fun (d:List Int)=>Xx d) ⟨.nil,XsOk.nil,ItsOk.nil,YlOk.nil,IysOk.nil,XfOk.nil⟩ (Dy) fun d hp=>h d hp
theorem VR:DA:=DM fun l h=>by
 (unfold Xx;(try delta lI gD sT I64);simp);omega
def VW:AL (Int×Int):=(.cons (.k (.i .i64)) (.one (.k (.i .i64))))
def GD (d:Int×Int):Prop:=True
def Kx (d:Int×Int):SV:=.agg [.val (.i .i64) d.1,.val (.i .i64) d.2]
def V3 (d:Int×Int):List OB:=[]
def YO:CSp:=Y_ VW GD Kx V3
def Yh (a:Int) (b:Int):Prop :=
 ((a=a∧b=b∧(([]:List SV)=[]))∧(True))
def U3:Cx:=⟨[],[],8,[],0,[],[],[],[],false,[],[],[],[]⟩
def Dn (a:Int) (b:Int):List (Nat×LoopAnn):=[]
set_option maxRecDepth 100000 in
theorem DX (d:Int×Int):gwp (U3) (Dn d.1 d.2) c28 0 (Ko [.cell 4 true 2] (Kx d) (V3 d)) (QS 8 (AL.can VW d))=Yh d.1 d.2:=by kernel_rfl
abbrev DZ:Prop:=OkC Tryz.prog 28 YO
theorem D_ (h:∀ (a:Int) (b:Int),(True)→Yh a b):OkC Tryz.prog 28 YO :=
 Z8 Iz mixed (C:=U3) (V:=fun (d:Int×Int)=>Yh d.1 d.2) ⟨.nil,XsOk.nil,ItsOk.nil,YlOk.nil,IysOk.nil,XfOk.nil⟩ (DX) fun d hp=>h d.1 d.2 hp
theorem DV:DZ:=D_ fun a b _=>(by and_intros<;>first|rfl|trivial|simp)
def UB:AL (Int×List Int):=(.one (.agg (.cons (.k (.i .i64)) (.one (.k (.list (.i .i64)))))))
def Dl (d:Int×List Int):Prop:=d.2.length≤1000
def VC (d:Int×List Int):SV:=.agg [.val (.i .i64) d.1,.lst 0]
def VI (d:Int×List Int):List OB:=[.lst 3 (.i .i64) d.2 false]
def V6:CSp:=Y_ UB Dl VC VI
def W4 (hd:Int) (rows:List Int):Prop :=
 (rows.length≤1000)∧(false=true→rows=[])∧((hd=hd∧True∧(([]:List SV)=[]))∧((rows=rows∧false=false)∧True))
def Ng:Cx:=⟨[],[(10,W5)],9,[],0,[],[],[],[],false,[],[],[],[]⟩
def B_ (hd:Int) (rows:List Int):List (Nat×LoopAnn):=[]
set_option maxRecDepth 100000 in
theorem HF (d:Int×List Int):gwp (Ng) (B_ d.1 d.2) c18 0 (Ko [.cell 2 true 2] (VC d) (VI d)) (QS 9 (AL.can UB d))=W4 d.1 d.2:=by kernel_rfl
abbrev Ha:Prop:=OkC Tryz.prog 18 V6
theorem HT (h:∀ (hd:Int) (rows:List Int),(rows.length≤1000)→W4 hd rows):OkC Tryz.prog 18 V6 :=
 Z8 Ih mixed (C:=Ng) (V:=fun (d:Int×List Int)=>W4 d.1 d.2) ⟨(.cons VR .nil),XsOk.nil,ItsOk.nil,YlOk.nil,IysOk.nil,XfOk.nil⟩ (HF) fun d hp=>h d.1 d.2 hp
theorem BX:Ha:=HT fun hd rows h=>by simp[W4,h]
def VM:AL (Int×List Int):=(.one (.agg (.cons (.k (.i .i64)) (.one (.k (.list (.i .i64)))))))
def D1 (d:Int×List Int):Prop:=d.2.length≤1000
def KK (d:Int×List Int):SV:=.agg [.val (.i .i64) d.1,.lst 0]
def KA (d:Int×List Int):List OB:=[.lst 3 (.i .i64) d.2 false]
def YX:CSp:=Y_ VM D1 KK KA
def Xw (hk:Int) (lw:List Int):Prop :=
 (lw.length≤1000)∧(false=true→lw=[])∧((hk=hk∧True∧(([]:List SV)=[]))∧((lw=lw∧false=false)∧True))
def VG:Cx:=⟨[],[(10,W5)],9,[],0,[],[],[],[],false,[],[],[],[]⟩
def DI (hk:Int) (lw:List Int):List (Nat×LoopAnn):=[]
set_option maxRecDepth 100000 in
theorem DC (d:Int×List Int):gwp (VG) (DI d.1 d.2) c26 0 (Ko [.cell 2 true 2] (KK d) (KA d)) (QS 9 (AL.can VM d))=Xw d.1 d.2:=by kernel_rfl
abbrev Dw:Prop:=OkC Tryz.prog 26 YX
theorem DB (h:∀ (hk:Int) (lw:List Int),(lw.length≤1000)→Xw hk lw):OkC Tryz.prog 26 YX :=
 Z8 Oq mixed (C:=VG) (V:=fun (d:Int×List Int)=>Xw d.1 d.2) ⟨(.cons VR .nil),XsOk.nil,ItsOk.nil,YlOk.nil,IysOk.nil,XfOk.nil⟩ (DC) fun d hp=>h d.1 d.2 hp
theorem Dz:Dw:=DB fun hk lw h=>by simp[Xw,h]
def X9:AL (Int×List Int×List Int×List Int):=(.one (.agg (.cons (.k (.i .u8)) (.cons (.k (.list (.i .u8))) (.cons (.k (.list (.i .u16))) (.one (.k (.list (.i .u8)))))))))
def YN (d:Int×List Int×List Int×List Int):Prop:=bOk d.1 d.2.1 d.2.2.1 d.2.2.2
def JY (d:Int×List Int×List Int×List Int):SV:=.agg [.val (.i .i64) (hkN 12 d.1),.lst 0]
def JZ (d:Int×List Int×List Int×List Int):List OB:=[.lst 3 (.i .i64) (QH (hkN 12 d.1) 30 d.2.1) false]
def Jf:CSp:=Y_ X9 YN JY JZ
def Zk (h8:Int) (ws:List Int) (rs:List Int) (ds:List Int):Prop :=
 (I64 h8)∧((12:Int)≠0)∧(I64 ((1:Int)+(Int.tmod h8 (12:Int))))∧∃ (e4:Unit) (d40:(List Int)×Int),((True∧True∧True∧(0:Int)=d40.2∧True)∧((h8=h8∧ws=ws∧rs=rs∧ds=ds∧(([]:List SV)=[]))∧((0:Int)=(0:Int)∧True∧(([]:List SV)=[]))∧(((1:Int)+(Int.tmod h8 (12:Int)))=((1:Int)+(Int.tmod h8 (12:Int)))∧True∧(([]:List SV)=[]))∧(d40.1=[]∧(List.isEmpty d40.1)=true)∧True)) ∧
 LoopP (fun (d4:(List Int)×Int) (q4:((List Int)×Int)→Prop) =>
  (((d4.2==(0:Int))||((decide (d4.2<(lI ws)))&&(decide (d4.2<(30:Int)))))=true →
   ((decide (d4.2<(lI ws)))=true →
    (0≤d4.2)∧(d4.2<(List.length ws))∧(I64 (gD ws d4.2 0))∧(((1:Int)+(Int.tmod h8 (12:Int)))≠0)∧(((List.length d4.1)+(List.length [(Int.tmod (gD ws d4.2 0) ((1:Int)+(Int.tmod h8 (12:Int))))]))*8≤70368744177664)∧(I64 (d4.2+(1:Int)))∧(∃ d5:(List Int)×Int,((True∧True∧True∧(d4.2+(1:Int))=d5.2∧True)∧((h8=h8∧ws=ws∧rs=rs∧ds=ds∧(([]:List SV)=[]))∧((0:Int)=(0:Int)∧True∧(([]:List SV)=[]))∧(((1:Int)+(Int.tmod h8 (12:Int)))=((1:Int)+(Int.tmod h8 (12:Int)))∧True∧(([]:List SV)=[]))∧((d4.1++[(Int.tmod (gD ws d4.2 0) ((1:Int)+(Int.tmod h8 (12:Int))))])=d5.1∧false=(List.isEmpty d5.1))∧True))∧q4 d5)) ∧
   ((decide (d4.2<(lI ws)))=false →
    (((List.length d4.1)+(List.length [(0:Int)]))*8≤70368744177664)∧(I64 (d4.2+(1:Int)))∧(∃ d6:(List Int)×Int,((True∧True∧True∧(d4.2+(1:Int))=d6.2∧True)∧((h8=h8∧ws=ws∧rs=rs∧ds=ds∧(([]:List SV)=[]))∧((0:Int)=(0:Int)∧True∧(([]:List SV)=[]))∧(((1:Int)+(Int.tmod h8 (12:Int)))=((1:Int)+(Int.tmod h8 (12:Int)))∧True∧(([]:List SV)=[]))∧((d4.1++[(0:Int)])=d6.1∧false=(List.isEmpty d6.1))∧True))∧q4 d6))) ∧
  (((d4.2==(0:Int))||((decide (d4.2<(lI ws)))&&(decide (d4.2<(30:Int)))))=false →
   ((((1:Int)+(Int.tmod h8 (12:Int)))=(hkN 12 h8)∧True∧(([]:List SV)=[]))∧((d4.1=(QH (hkN 12 h8) 30 ws)∧(List.isEmpty d4.1)=false)∧True)))) d40
def Xf:Cx:=⟨[(3,(.i .i64))],[],48,[],0,[],[],[],[],false,[],[],[],[]⟩
def Kn (h8:Int) (ws:List Int) (rs:List Int) (ds:List Int):List (Nat×LoopAnn):=[(0,⟨Unit,(List Int)×Int,[1,2,3,4],fun e x=>[.box 1 0,.box 2 0,.box 3 0,.val (.i .i64) x.2],fun e x=>[(1,.slot 1,.cells [.val (.i .u8) h8,.val (.list (.i .u8)) ws,.val (.list (.i .u16)) rs,.val (.list (.i .u8)) ds] (some 45)),(2,.slot 2,.cells [.val (.i .i64) (0:Int),.nilS] (some 69)),(3,.slot 3,.cells [.val (.i .i64) ((1:Int)+(Int.tmod h8 (12:Int))),.lst 45] (some 69)),(45,.cell 3 1,.lst 3 (.i .i64) x.1 (List.isEmpty x.1))]⟩)]
set_option maxRecDepth 100000 in
theorem Kh (d:Int×List Int×List Int×List Int):gwp (Xf) (Kn d.1 d.2.1 d.2.2.1 d.2.2.2) c24 0 (Ko [.cell 2 true 2] (JY d) (JZ d)) (QS 48 (AL.can X9 d))=Zk d.1 d.2.1 d.2.2.1 d.2.2.2:=by kernel_rfl
abbrev Kk:Prop:=OkC Tryz.prog 24 Jf
theorem Ki (h:∀ (h8:Int) (ws:List Int) (rs:List Int) (ds:List Int),(bOk h8 ws rs ds)→Zk h8 ws rs ds):OkC Tryz.prog 24 Jf :=
 Z8 IF mixed (C:=Xf) (V:=fun (d:Int×List Int×List Int×List Int)=>Zk d.1 d.2.1 d.2.2.1 d.2.2.2) ⟨.nil,XsOk.nil,ItsOk.nil,YlOk.nil,IysOk.nil,XfOk.nil⟩ (Kh) fun d hp=>h d.1 d.2.1 d.2.2.1 d.2.2.2 hp
theorem G2 {m h8:Int}(hm:0<m) (h:0≤h8):1≤hkN m h8∧hkN m h8≤m:=by have h1:=Int.tmod_nonneg m h;have h2:=Int.tmod_lt_of_pos h8 hm;simp only[hkN];omega
theorem B7 {hk:Int}{cap:Nat}{ws:List Int}:(QH hk cap ws).length=if ws=[] then 1 else min cap ws.length:=by unfold QH;split<;>simp
theorem Lb {hk:Int}{cap:Nat}{ws:List Int}{i:Nat}(h:i<ws.length) (hc:i<cap):(QH hk cap ws)[i]?=some (Int.tmod (ws.getD i 0) hk):=by
 have aC:ws≠[]:=by rintro rfl;simp at h
 unfold QH;rw[if_neg aC];simp[hc,h]
theorem Km:Kk:=Ki fun h8 ws rs ds h=>by
 obtain⟨h1,h2,lP,lR,hds⟩:=h;have hk:=G2 (m:=12) (by omega) h1;have e:(1+Int.tmod h8 12)=hkN 12 h8:=rfl;have hk:1≤hkN 12 h8∧hkN 12 h8≤12:=hk;unfold Zk;(try delta lI gD sT I64);simp only[true_and,and_true,exists_const,decide_eq_true_eq,decide_eq_false_iff_not,ne_eq,Zs,e];refine⟨by omega,by omega,by omega,([],0),⟨rfl,rfl,rfl⟩,?_⟩;have hN:(QH (hkN 12 h8) 30 ws).length=if ws=[] then 1 else min 30 ws.length:=B7
 have ak:∀ k:Nat,(((k:Int)==0)||(decide ((k:Int)<ws.length)&&decide ((k:Int)<30)))=decide (k<(QH (hkN 12 h8) 30 ws).length):=fun k=>by
  rw[hN];by_cases hz:ws=[]
  ·subst hz;cases k<;>simp;omega
  ·have:0<ws.length:=List.length_pos_iff.2 hz;rw[if_neg hz];cases k with
   |zero=>simp;omega
   |succ k =>rw[Bool.eq_iff_iff];simp;omega
 have qe:(QH (hkN 12 h8) 30 ws).length≤30:=by rw[hN];split<;>omega
 refine LoopP.count2 (QH (hkN 12 h8) 30 ws).length (fun k xs=>xs=(QH (hkN 12 h8) 30 ws).take k) (by simp) fun k xs hk hJ q hq=>?_;dsimp only;rw[ak];simp only[decide_eq_true_eq,decide_eq_false_iff_not,Int.toNat_natCast,Int.ofNat_lt];refine⟨fun ah=>⟨fun hw=>?_,fun hw=>?_⟩,fun a7=>?_⟩
 ·have hw:k<ws.length:=by omega
  have uE:=lP _ (List.getElem_mem hw);have qf:k<30:=by omega
  simp only[QM hw,List.length_singleton];have hv:(QH (hkN 12 h8) 30 ws)[k]=Int.tmod ws[k] (hkN 12 h8):=by have:=Lb (hk:=hkN 12 h8) hw qf;rw[QM hw] at this;have h3:=List.getElem?_eq_getElem ah;exact osj (h3.symm.trans this)
  refine⟨by omega,by omega,by omega,by omega,by rw[hJ,List.length_take];omega,by omega,(xs++[Int.tmod ws[k] (hkN 12 h8)],(k:Int)+1),⟨rfl,rfl,by simp⟩,hq _ ah ?_⟩;rw[QX ah,←hJ,hv]
 ·have hz:ws=[]:=by
   cases lP:ws with
   |nil=>rfl
   |cons a l =>
    exfalso;rw[hN] at ah;have:ws≠[]:=by rw[lP];simp
    rw[if_neg this] at ah;omega
  have fa:k=0:=by rw[hN,if_pos hz] at ah;omega
  subst fa;simp only[List.length_singleton];refine⟨by rw[hJ,List.length_take];omega,by omega,(xs++[0],1),⟨rfl,rfl,by simp⟩,hq _ ah ?_⟩;rw[QX ah,←hJ];simp[QH,hz]
 ·have:k=(QH (hkN 12 h8) 30 ws).length:=by omega
  subst this;rw[List.take_length] at hJ;subst hJ;refine⟨rfl,?_⟩;rw[List.isEmpty_eq_false_iff];intro hz;rw[hz] at hN;split at hN
  ·cases hN
  ·rename_i aC;have:=List.length_pos_iff.2 aC;simp only[List.length_nil] at hN;omega
def XJ:AL (Int×List Int×List Int×List Int):=(.one (.agg (.cons (.k (.i .u8)) (.cons (.k (.list (.i .u8))) (.cons (.k (.list (.i .u16))) (.one (.k (.list (.i .u8)))))))))
def Kg (d:Int×List Int×List Int×List Int):Prop:=bOk d.1 d.2.1 d.2.2.1 d.2.2.2
def Xg (d:Int×List Int×List Int×List Int):SV:=.agg [.val (.i .i64) (hkN 12 d.1),.lst 0]
def Xi (d:Int×List Int×List Int×List Int):List OB:=[.lst 3 (.i .i64) (Zg (hkN 12 d.1) 10 d.2.2.1) false]
def Jt:CSp:=Y_ XJ Kg Xg Xi
def Zw (h8:Int) (ws:List Int) (rs:List Int) (ds:List Int):Prop :=
 (I64 h8)∧((12:Int)≠0)∧(I64 ((1:Int)+(Int.tmod h8 (12:Int))))∧∃ (e4:Unit) (d40:(List Int)×Int),((True∧True∧True∧(0:Int)=d40.2∧True)∧((h8=h8∧ws=ws∧rs=rs∧ds=ds∧(([]:List SV)=[]))∧((0:Int)=(0:Int)∧True∧(([]:List SV)=[]))∧(((1:Int)+(Int.tmod h8 (12:Int)))=((1:Int)+(Int.tmod h8 (12:Int)))∧True∧(([]:List SV)=[]))∧(d40.1=[]∧(List.isEmpty d40.1)=true)∧True)) ∧
 LoopP (fun (d4:(List Int)×Int) (q4:((List Int)×Int)→Prop) =>
  (((d4.2==(0:Int))||((decide (d4.2<(lI rs)))&&(decide (d4.2<(10:Int)))))=true →
   ((decide (d4.2<(lI rs)))=true →
    (0≤d4.2)∧(d4.2<(List.length rs))∧(I64 (gD rs d4.2 0))∧(InK .u64 ((1:Int)+(Int.tmod h8 (12:Int))))∧(0≤((1:Int)+(Int.tmod h8 (12:Int))))∧(I64 (Bm .i64 (1:Int) ((1:Int)+(Int.tmod h8 (12:Int)))))∧(I64 ((Bm .i64 (1:Int) ((1:Int)+(Int.tmod h8 (12:Int))))-(1:Int)))∧(((List.length d4.1)+(List.length [(YQ .and .i64 (gD rs d4.2 0) ((Bm .i64 (1:Int) ((1:Int)+(Int.tmod h8 (12:Int))))-(1:Int)))]))*8≤70368744177664)∧(I64 (d4.2+(1:Int)))∧(∃ d5:(List Int)×Int,((True∧True∧True∧(d4.2+(1:Int))=d5.2∧True)∧((h8=h8∧ws=ws∧rs=rs∧ds=ds∧(([]:List SV)=[]))∧((0:Int)=(0:Int)∧True∧(([]:List SV)=[]))∧(((1:Int)+(Int.tmod h8 (12:Int)))=((1:Int)+(Int.tmod h8 (12:Int)))∧True∧(([]:List SV)=[]))∧((d4.1++[(YQ .and .i64 (gD rs d4.2 0) ((Bm .i64 (1:Int) ((1:Int)+(Int.tmod h8 (12:Int))))-(1:Int)))])=d5.1∧false=(List.isEmpty d5.1))∧True))∧q4 d5)) ∧
   ((decide (d4.2<(lI rs)))=false →
    (InK .u64 ((1:Int)+(Int.tmod h8 (12:Int))))∧(0≤((1:Int)+(Int.tmod h8 (12:Int))))∧(I64 (Bm .i64 (1:Int) ((1:Int)+(Int.tmod h8 (12:Int)))))∧(I64 ((Bm .i64 (1:Int) ((1:Int)+(Int.tmod h8 (12:Int))))-(1:Int)))∧(((List.length d4.1)+(List.length [(YQ .and .i64 (21:Int) ((Bm .i64 (1:Int) ((1:Int)+(Int.tmod h8 (12:Int))))-(1:Int)))]))*8≤70368744177664)∧(I64 (d4.2+(1:Int)))∧(∃ d6:(List Int)×Int,((True∧True∧True∧(d4.2+(1:Int))=d6.2∧True)∧((h8=h8∧ws=ws∧rs=rs∧ds=ds∧(([]:List SV)=[]))∧((0:Int)=(0:Int)∧True∧(([]:List SV)=[]))∧(((1:Int)+(Int.tmod h8 (12:Int)))=((1:Int)+(Int.tmod h8 (12:Int)))∧True∧(([]:List SV)=[]))∧((d4.1++[(YQ .and .i64 (21:Int) ((Bm .i64 (1:Int) ((1:Int)+(Int.tmod h8 (12:Int))))-(1:Int)))])=d6.1∧false=(List.isEmpty d6.1))∧True))∧q4 d6))) ∧
  (((d4.2==(0:Int))||((decide (d4.2<(lI rs)))&&(decide (d4.2<(10:Int)))))=false →
   ((((1:Int)+(Int.tmod h8 (12:Int)))=(hkN 12 h8)∧True∧(([]:List SV)=[]))∧((d4.1=(Zg (hkN 12 h8) 10 rs)∧(List.isEmpty d4.1)=false)∧True)))) d40
def XH:Cx:=⟨[(3,(.i .i64))],[],51,[],0,[],[],[],[],false,[],[],[],[]⟩
def K_ (h8:Int) (ws:List Int) (rs:List Int) (ds:List Int):List (Nat×LoopAnn):=[(0,⟨Unit,(List Int)×Int,[1,2,3,4],fun e x=>[.box 1 0,.box 2 0,.box 3 0,.val (.i .i64) x.2],fun e x=>[(1,.slot 1,.cells [.val (.i .u8) h8,.val (.list (.i .u8)) ws,.val (.list (.i .u16)) rs,.val (.list (.i .u8)) ds] (some 45)),(2,.slot 2,.cells [.val (.i .i64) (0:Int),.nilS] (some 47)),(3,.slot 3,.cells [.val (.i .i64) ((1:Int)+(Int.tmod h8 (12:Int))),.lst 48] (some 47)),(48,.cell 3 1,.lst 3 (.i .i64) x.1 (List.isEmpty x.1))]⟩)]
set_option maxRecDepth 100000 in
theorem V8 (d:Int×List Int×List Int×List Int):gwp (XH) (K_ d.1 d.2.1 d.2.2.1 d.2.2.2) c16 0 (Ko [.cell 2 true 2] (Xg d) (Xi d)) (QS 51 (AL.can XJ d))=Zw d.1 d.2.1 d.2.2.1 d.2.2.2:=by kernel_rfl
abbrev KD:Prop:=OkC Tryz.prog 16 Jt
theorem V0 (h:∀ (h8:Int) (ws:List Int) (rs:List Int) (ds:List Int),(bOk h8 ws rs ds)→Zw h8 ws rs ds):OkC Tryz.prog 16 Jt :=
 Z8 Q0j mixed (C:=XH) (V:=fun (d:Int×List Int×List Int×List Int)=>Zw d.1 d.2.1 d.2.2.1 d.2.2.2) ⟨.nil,XsOk.nil,ItsOk.nil,YlOk.nil,IysOk.nil,XfOk.nil⟩ (V8) fun d hp=>h d.1 d.2.1 d.2.2.1 d.2.2.2 hp
theorem E4 {x h:Int}(h0:0≤x) (h1:x<9223372036854775808) (a:1≤h) (b:h≤24):YQ .and .i64 x (Bm .i64 1 h-1)=x % 2 ^ h.toNat:=by
 obtain⟨n,rfl⟩:=Int.eq_ofNat_of_zero_le h0;obtain⟨m,rfl⟩:=Int.eq_ofNat_of_zero_le (show 0≤h by omega);have hp:=YG a b;rw[R3 (by omega) (by omega)];simp only[Int.toNat_natCast] at hp ⊢;have e2:((2:Int) ^ m)=((2 ^ m:Nat):Int):=by rw[Int.natCast_pow];rfl
 rw[e2] at hp ⊢;have e:(((2 ^ m:Nat):Int)-1)=((2 ^ m-1:Nat):Int):=by omega
 rw[e,HG (by omega) (by omega),Nat.and_two_pow_sub_one_eq_mod];rfl
theorem Pq {hk:Int}{cap:Nat}{rs:List Int}:(Zg hk cap rs).length=if rs=[] then 1 else min cap rs.length:=by unfold Zg;split<;>simp
theorem LW {hk:Int}{cap:Nat}{rs:List Int}{i:Nat}(h:i<rs.length) (hc:i<cap):(Zg hk cap rs)[i]?=some (rs.getD i 0 % 2 ^ hk.toNat):=by
 have aC:rs≠[]:=by rintro rfl;simp at h
 unfold Zg;rw[if_neg aC];simp[hc,h]
theorem KE:KD:=V0 fun h8 ws rs ds h=>by
 obtain⟨h1,h2,lP,lR,hds⟩:=h;have hk:1≤hkN 12 h8∧hkN 12 h8≤12:=G2 (m:=12) (by omega) h1;have e:(1+Int.tmod h8 12)=hkN 12 h8:=rfl;have hp:=YG hk.1 (show hkN 12 h8≤24 by omega);have hs:=R3 (show 0≤hkN 12 h8 by omega) (show hkN 12 h8≤62 by omega);have hm:∀ x,0≤x→x<9223372036854775808→YQ .and .i64 x (2 ^ (hkN 12 h8).toNat-1)=x % 2 ^ (hkN 12 h8).toNat:=fun x a b=>by
  have:=E4 a b hk.1 (show hkN 12 h8≤24 by omega)
  rwa [hs] at this
 have hu:InK .u64 (hkN 12 h8):=⟨by show (0:Int)≤_;omega,by show _≤(18446744073709551615:Int);omega⟩;unfold Zw;(try delta lI gD sT I64);simp only[true_and,and_true,exists_const,decide_eq_true_eq,decide_eq_false_iff_not,ne_eq,Zs,e,hs,hu];refine⟨by omega,by omega,by omega,([],0),⟨rfl,rfl,rfl⟩,?_⟩;have hN:(Zg (hkN 12 h8) 10 rs).length=if rs=[] then 1 else min 10 rs.length:=Pq
 have ak:∀ k:Nat,(((k:Int)==0)||(decide ((k:Int)<rs.length)&&decide ((k:Int)<10)))=decide (k<(Zg (hkN 12 h8) 10 rs).length):=fun k=>by
  rw[hN];by_cases hz:rs=[]
  ·subst hz;cases k<;>simp;omega
  ·have:0<rs.length:=List.length_pos_iff.2 hz;rw[if_neg hz];cases k with
   |zero=>simp;omega
   |succ k =>rw[Bool.eq_iff_iff];simp;omega
 have qe:(Zg (hkN 12 h8) 10 rs).length≤10:=by rw[hN];split<;>omega
 refine LoopP.count2 (Zg (hkN 12 h8) 10 rs).length (fun k xs=>xs=(Zg (hkN 12 h8) 10 rs).take k) (by simp) fun k xs iY hJ q hq=>?_;dsimp only;rw[ak];simp only[decide_eq_true_eq,decide_eq_false_iff_not,Int.toNat_natCast,Int.ofNat_lt];refine⟨fun ah=>⟨fun hw=>?_,fun hw=>?_⟩,fun a7=>?_⟩
 ·have hw:k<rs.length:=by omega
  have uF:=lR _ (List.getElem_mem hw);have qg:k<10:=by omega
  simp only[QM hw,List.length_singleton];have hv:(Zg (hkN 12 h8) 10 rs)[k]=rs[k] % 2 ^ (hkN 12 h8).toNat:=by have:=LW (hk:=hkN 12 h8) hw qg;rw[QM hw] at this;have h3:=List.getElem?_eq_getElem ah;exact osj (h3.symm.trans this)
  rw[hm _ (by omega) (by omega)];refine⟨by omega,by omega,by omega,by omega,by omega,by omega,by rw[hJ,List.length_take];omega,by omega,(xs++[rs[k] % 2 ^ (hkN 12 h8).toNat],(k:Int)+1),⟨rfl,rfl,by simp⟩,hq _ ah ?_⟩;rw[QX ah,←hJ,hv]
 ·have hz:rs=[]:=by
   cases lR:rs with
   |nil=>rfl
   |cons a l =>
    exfalso;rw[hN] at ah;have:rs≠[]:=by rw[lR];simp
    rw[if_neg this] at ah;omega
  have fa:k=0:=by rw[hN,if_pos hz] at ah;omega
  subst fa;simp only[List.length_singleton];rw[hm _ (by omega) (by omega)];refine⟨by omega,by omega,by omega,by rw[hJ,List.length_take];omega,by omega,(xs++[21 % 2 ^ (hkN 12 h8).toNat],1),⟨rfl,rfl,by simp⟩,hq _ ah ?_⟩;rw[QX ah,←hJ];simp[Zg,hz]
 ·have:k=(Zg (hkN 12 h8) 10 rs).length:=by omega
  subst this;rw[List.take_length] at hJ;subst hJ;refine⟨rfl,?_⟩;rw[List.isEmpty_eq_false_iff];intro hz;rw[hz] at hN;split at hN
  ·cases hN
  ·rename_i aC;have:=List.length_pos_iff.2 aC;simp only[List.length_nil] at hN;omega
end Go.Proofs.Tryz
set_option linter.unusedVariables false
namespace Go.Proofs.Tryz
open Go Go.V Go.Proofs
def W_:AL ((Int×List Int×List Int×List Int)×Int):=(.cons (.agg (.cons (.k (.i .u8)) (.cons (.k (.list (.i .u8))) (.cons (.k (.list (.i .u16))) (.one (.k (.list (.i .u8)))))))) (.one (.k (.i .u8))))
def Ux (d:(Int×List Int×List Int×List Int)×Int):Prop:=bOk d.1.1 d.1.2.1 d.1.2.2.1 d.1.2.2.2∧0≤d.2∧d.2≤255
def Wm (d:(Int×List Int×List Int×List Int)×Int):SV:=.val .bo true
def WH (d:(Int×List Int×List Int×List Int)×Int):List OB:=[]
def Yy:CSp:=Y_ W_ Ux Wm WH
abbrev Q4 (h8:Int) (ws:List Int) (rs:List Int):=((Z2 (hkN 12 h8) (QH (hkN 12 h8) 30 ws) (hkN 12 h8) (Zg (hkN 12 h8) 10 rs))=(Z2 (hkN 12 h8) (QH (hkN 12 h8) 30 ws) (hkN 12 h8) (Zg (hkN 12 h8) 10 rs))∧(List.isEmpty (Z2 (hkN 12 h8) (QH (hkN 12 h8) 30 ws) (hkN 12 h8) (Zg (hkN 12 h8) 10 rs)))=(List.isEmpty (Z2 (hkN 12 h8) (QH (hkN 12 h8) 30 ws) (hkN 12 h8) (Zg (hkN 12 h8) 10 rs))))
abbrev Q0 (h8:Int):=((hkN 12 h8)=(hkN 12 h8)∧True∧(([]:List SV)=[]))
abbrev Q3 (h8:Int) (rs:List Int):=((Zg (hkN 12 h8) 10 rs)=(Zg (hkN 12 h8) 10 rs)∧false=false)
abbrev Q5 (h8:Int) (ws:List Int):=((QH (hkN 12 h8) 30 ws)=(QH (hkN 12 h8) 30 ws)∧false=false)
abbrev XN (h8:Int) (ws:List Int) (rs:List Int) (ds:List Int) (sc:Int):=((bOk h8 ws rs ds)∧(false=true→(QH (hkN 12 h8) 30 ws)=[])∧(bOk h8 ws rs ds)∧(false=true→(Zg (hkN 12 h8) 10 rs)=[])∧((sc=sc∧True∧True∧(Q0 h8)∧(Q0 h8)∧True)∧((h8=h8∧ws=ws∧rs=rs∧ds=ds∧(([]:List SV)=[]))∧((0:Int)=(0:Int)∧True∧(([]:List SV)=[]))∧((0:Int)=(0:Int)∧True∧(([]:List SV)=[]))∧(Q5 h8 ws)∧(Q3 h8 rs)∧True)))
abbrev WO (h8:Int) (ws:List Int) (rs:List Int):=(Z2 (hkN 12 h8) (QH (hkN 12 h8) 30 ws) (hkN 12 h8) (Zg (hkN 12 h8) 10 rs))
abbrev QA :=(Int×Int×Int×Int×Int×Int×Int×Int×Int×Int×Int×Int×Int)
def J7 (h8:Int) (ws:List Int) (rs:List Int) (ds:List Int) (sc:Int):Prop :=
 (bOk h8 ws rs ds)∧(false=true→(QH (hkN 12 h8) 30 ws)=[])∧(bOk h8 ws rs ds)∧(false=true→(Zg (hkN 12 h8) 10 rs)=[])∧((sc=sc∧True∧True∧(Q0 h8)∧(Q0 h8)∧True)∧((h8=h8∧ws=ws∧rs=rs∧ds=ds∧(([]:List SV)=[]))∧((0:Int)=(0:Int)∧True∧(([]:List SV)=[]))∧((0:Int)=(0:Int)∧True∧(([]:List SV)=[]))∧(Q5 h8 ws)∧(Q3 h8 rs)∧True))∧(XN h8 ws rs ds sc)∧(XN h8 ws rs ds sc)∧(XN h8 ws rs ds sc)∧(XN h8 ws rs ds sc)∧(XN h8 ws rs ds sc)∧(XN h8 ws rs ds sc)∧(XN h8 ws rs ds sc)∧(XN h8 ws rs ds sc)∧(XN h8 ws rs ds sc)∧(XN h8 ws rs ds sc)∧(XN h8 ws rs ds sc)∧((QH (hkN 12 h8) 30 ws).length≤1000)∧(false=true→(QH (hkN 12 h8) 30 ws)=[])∧((Zg (hkN 12 h8) 10 rs).length≤1000)∧((QH (hkN 12 h8) 30 ws).length≤110∧(Zg (hkN 12 h8) 10 rs).length≤110)∧∀ (y1:Bool),y1=(Zl (hkN 12 h8) (QH (hkN 12 h8) 30 ws) (hkN 12 h8) (Zg (hkN 12 h8) 10 rs) != (0:Int))→∀ (y2:Bool),y2=((lI (WO h8 ws rs)) != (lI (Zg (hkN 12 h8) 10 rs)))→∀ (y3:Bool),y3=(y1||y2)→(y3=true →
  (false=true∧(True))) ∧
 (y3=false →
  ∃ (e3:Unit) (d30:QA),((sc=sc∧True∧True∧True∧True∧(0:Int)=(q4 (q4 (q4 d30)))∧True)∧((Q0 h8)∧(Q5 h8 ws)∧(Q0 h8)∧(Q3 h8 rs)∧((WO h8 ws rs)=(WO h8 ws rs)∧(WO h8 ws rs).isEmpty=(List.isEmpty (WO h8 ws rs)))∧((0:Int)=d30.1∧(0:Int)=d30.2.1∧(0:Int)=d30.2.2.1∧(0:Int)=d30.2.2.2.1∧(0:Int)=(q4 d30).1∧(0:Int)=(q4 d30).2.1∧(0:Int)=(q4 d30).2.2.1∧(0:Int)=(q4 d30).2.2.2.1∧(0:Int)=(q4 (q4 d30)).1∧(0:Int)=(q4 (q4 d30)).2.1∧(0:Int)=(q4 (q4 d30)).2.2.1∧(0:Int)=(q4 (q4 d30)).2.2.2.1∧(([]:List SV)=[]))∧True)) ∧
  LoopP (fun (d3:QA) (q3:(QA)→Prop) =>
   ∀ (y8:Bool),y8=(decide ((q4 (q4 (q4 d3)))<(lI (QH (hkN 12 h8) 30 ws))))→(y8=true →
    (0≤(q4 (q4 (q4 d3))))∧((q4 (q4 (q4 d3)))<(List.length (QH (hkN 12 h8) 30 ws)))∧∀ (y9:Int),y9=(gD (QH (hkN 12 h8) 30 ws) (q4 (q4 (q4 d3))) 0)→(0≤y9)∧(y9<(12:Int)) ∧
    (y9=(0:Int) →
     (I64 (d3.1+(1:Int)))∧(0≤y9)∧(y9<(12:Int)) ∧
     (y9=(0:Int) →
      (I64 ((q4 (q4 (q4 d3)))+(1:Int)))∧(∃ d4:QA,((sc=sc∧True∧True∧True∧True∧((q4 (q4 (q4 d3)))+(1:Int))=(q4 (q4 (q4 d4)))∧True)∧((Q0 h8)∧(Q5 h8 ws)∧(Q0 h8)∧(Q3 h8 rs)∧(Q4 h8 ws rs)∧((d3.1+(1:Int))=d4.1∧d3.2.1=d4.2.1∧d3.2.2.1=d4.2.2.1∧d3.2.2.2.1=d4.2.2.2.1∧(q4 d3).1=(q4 d4).1∧(q4 d3).2.1=(q4 d4).2.1∧(q4 d3).2.2.1=(q4 d4).2.2.1∧(q4 d3).2.2.2.1=(q4 d4).2.2.2.1∧(q4 (q4 d3)).1=(q4 (q4 d4)).1∧(q4 (q4 d3)).2.1=(q4 (q4 d4)).2.1∧(q4 (q4 d3)).2.2.1=(q4 (q4 d4)).2.2.1∧(q4 (q4 d3)).2.2.2.1=(q4 (q4 d4)).2.2.2.1∧(([]:List SV)=[]))∧True))∧q3 d4)) ∧
     (y9=(1:Int) →
      (I64 ((q4 (q4 (q4 d3)))+(1:Int)))∧(∃ d5:QA,((sc=sc∧True∧True∧True∧True∧((q4 (q4 (q4 d3)))+(1:Int))=(q4 (q4 (q4 d5)))∧True)∧((Q0 h8)∧(Q5 h8 ws)∧(Q0 h8)∧(Q3 h8 rs)∧(Q4 h8 ws rs)∧(d3.1=d5.1∧(d3.1+(1:Int))=d5.2.1∧d3.2.2.1=d5.2.2.1∧d3.2.2.2.1=d5.2.2.2.1∧(q4 d3).1=(q4 d5).1∧(q4 d3).2.1=(q4 d5).2.1∧(q4 d3).2.2.1=(q4 d5).2.2.1∧(q4 d3).2.2.2.1=(q4 d5).2.2.2.1∧(q4 (q4 d3)).1=(q4 (q4 d5)).1∧(q4 (q4 d3)).2.1=(q4 (q4 d5)).2.1∧(q4 (q4 d3)).2.2.1=(q4 (q4 d5)).2.2.1∧(q4 (q4 d3)).2.2.2.1=(q4 (q4 d5)).2.2.2.1∧(([]:List SV)=[]))∧True))∧q3 d5)) ∧
     (y9=(2:Int) →
      (I64 ((q4 (q4 (q4 d3)))+(1:Int)))∧(∃ d6:QA,((sc=sc∧True∧True∧True∧True∧((q4 (q4 (q4 d3)))+(1:Int))=(q4 (q4 (q4 d6)))∧True)∧((Q0 h8)∧(Q5 h8 ws)∧(Q0 h8)∧(Q3 h8 rs)∧(Q4 h8 ws rs)∧(d3.1=d6.1∧d3.2.1=d6.2.1∧(d3.1+(1:Int))=d6.2.2.1∧d3.2.2.2.1=d6.2.2.2.1∧(q4 d3).1=(q4 d6).1∧(q4 d3).2.1=(q4 d6).2.1∧(q4 d3).2.2.1=(q4 d6).2.2.1∧(q4 d3).2.2.2.1=(q4 d6).2.2.2.1∧(q4 (q4 d3)).1=(q4 (q4 d6)).1∧(q4 (q4 d3)).2.1=(q4 (q4 d6)).2.1∧(q4 (q4 d3)).2.2.1=(q4 (q4 d6)).2.2.1∧(q4 (q4 d3)).2.2.2.1=(q4 (q4 d6)).2.2.2.1∧(([]:List SV)=[]))∧True))∧q3 d6)) ∧
     (y9=(3:Int) →
      (I64 ((q4 (q4 (q4 d3)))+(1:Int)))∧(∃ d7:QA,((sc=sc∧True∧True∧True∧True∧((q4 (q4 (q4 d3)))+(1:Int))=(q4 (q4 (q4 d7)))∧True)∧((Q0 h8)∧(Q5 h8 ws)∧(Q0 h8)∧(Q3 h8 rs)∧(Q4 h8 ws rs)∧(d3.1=d7.1∧d3.2.1=d7.2.1∧d3.2.2.1=d7.2.2.1∧(d3.1+(1:Int))=d7.2.2.2.1∧(q4 d3).1=(q4 d7).1∧(q4 d3).2.1=(q4 d7).2.1∧(q4 d3).2.2.1=(q4 d7).2.2.1∧(q4 d3).2.2.2.1=(q4 d7).2.2.2.1∧(q4 (q4 d3)).1=(q4 (q4 d7)).1∧(q4 (q4 d3)).2.1=(q4 (q4 d7)).2.1∧(q4 (q4 d3)).2.2.1=(q4 (q4 d7)).2.2.1∧(q4 (q4 d3)).2.2.2.1=(q4 (q4 d7)).2.2.2.1∧(([]:List SV)=[]))∧True))∧q3 d7)) ∧
     (y9=(4:Int) →
      (I64 ((q4 (q4 (q4 d3)))+(1:Int)))∧(∃ d8:QA,((sc=sc∧True∧True∧True∧True∧((q4 (q4 (q4 d3)))+(1:Int))=(q4 (q4 (q4 d8)))∧True)∧((Q0 h8)∧(Q5 h8 ws)∧(Q0 h8)∧(Q3 h8 rs)∧(Q4 h8 ws rs)∧(d3.1=d8.1∧d3.2.1=d8.2.1∧d3.2.2.1=d8.2.2.1∧d3.2.2.2.1=d8.2.2.2.1∧(d3.1+(1:Int))=(q4 d8).1∧(q4 d3).2.1=(q4 d8).2.1∧(q4 d3).2.2.1=(q4 d8).2.2.1∧(q4 d3).2.2.2.1=(q4 d8).2.2.2.1∧(q4 (q4 d3)).1=(q4 (q4 d8)).1∧(q4 (q4 d3)).2.1=(q4 (q4 d8)).2.1∧(q4 (q4 d3)).2.2.1=(q4 (q4 d8)).2.2.1∧(q4 (q4 d3)).2.2.2.1=(q4 (q4 d8)).2.2.2.1∧(([]:List SV)=[]))∧True))∧q3 d8)) ∧
     (y9=(5:Int) →
      (I64 ((q4 (q4 (q4 d3)))+(1:Int)))∧(∃ d9:QA,((sc=sc∧True∧True∧True∧True∧((q4 (q4 (q4 d3)))+(1:Int))=(q4 (q4 (q4 d9)))∧True)∧((Q0 h8)∧(Q5 h8 ws)∧(Q0 h8)∧(Q3 h8 rs)∧(Q4 h8 ws rs)∧(d3.1=d9.1∧d3.2.1=d9.2.1∧d3.2.2.1=d9.2.2.1∧d3.2.2.2.1=d9.2.2.2.1∧(q4 d3).1=(q4 d9).1∧(d3.1+(1:Int))=(q4 d9).2.1∧(q4 d3).2.2.1=(q4 d9).2.2.1∧(q4 d3).2.2.2.1=(q4 d9).2.2.2.1∧(q4 (q4 d3)).1=(q4 (q4 d9)).1∧(q4 (q4 d3)).2.1=(q4 (q4 d9)).2.1∧(q4 (q4 d3)).2.2.1=(q4 (q4 d9)).2.2.1∧(q4 (q4 d3)).2.2.2.1=(q4 (q4 d9)).2.2.2.1∧(([]:List SV)=[]))∧True))∧q3 d9)) ∧
     (y9=(6:Int) →
      (I64 ((q4 (q4 (q4 d3)))+(1:Int)))∧(∃ d10:QA,((sc=sc∧True∧True∧True∧True∧((q4 (q4 (q4 d3)))+(1:Int))=(q4 (q4 (q4 d10)))∧True)∧((Q0 h8)∧(Q5 h8 ws)∧(Q0 h8)∧(Q3 h8 rs)∧(Q4 h8 ws rs)∧(d3.1=d10.1∧d3.2.1=d10.2.1∧d3.2.2.1=d10.2.2.1∧d3.2.2.2.1=d10.2.2.2.1∧(q4 d3).1=(q4 d10).1∧(q4 d3).2.1=(q4 d10).2.1∧(d3.1+(1:Int))=(q4 d10).2.2.1∧(q4 d3).2.2.2.1=(q4 d10).2.2.2.1∧(q4 (q4 d3)).1=(q4 (q4 d10)).1∧(q4 (q4 d3)).2.1=(q4 (q4 d10)).2.1∧(q4 (q4 d3)).2.2.1=(q4 (q4 d10)).2.2.1∧(q4 (q4 d3)).2.2.2.1=(q4 (q4 d10)).2.2.2.1∧(([]:List SV)=[]))∧True))∧q3 d10)) ∧
     (y9=(7:Int) →
      (I64 ((q4 (q4 (q4 d3)))+(1:Int)))∧(∃ d11:QA,((sc=sc∧True∧True∧True∧True∧((q4 (q4 (q4 d3)))+(1:Int))=(q4 (q4 (q4 d11)))∧True)∧((Q0 h8)∧(Q5 h8 ws)∧(Q0 h8)∧(Q3 h8 rs)∧(Q4 h8 ws rs)∧(d3.1=d11.1∧d3.2.1=d11.2.1∧d3.2.2.1=d11.2.2.1∧d3.2.2.2.1=d11.2.2.2.1∧(q4 d3).1=(q4 d11).1∧(q4 d3).2.1=(q4 d11).2.1∧(q4 d3).2.2.1=(q4 d11).2.2.1∧(d3.1+(1:Int))=(q4 d11).2.2.2.1∧(q4 (q4 d3)).1=(q4 (q4 d11)).1∧(q4 (q4 d3)).2.1=(q4 (q4 d11)).2.1∧(q4 (q4 d3)).2.2.1=(q4 (q4 d11)).2.2.1∧(q4 (q4 d3)).2.2.2.1=(q4 (q4 d11)).2.2.2.1∧(([]:List SV)=[]))∧True))∧q3 d11)) ∧
     (y9=(8:Int) →
      (I64 ((q4 (q4 (q4 d3)))+(1:Int)))∧(∃ d12:QA,((sc=sc∧True∧True∧True∧True∧((q4 (q4 (q4 d3)))+(1:Int))=(q4 (q4 (q4 d12)))∧True)∧((Q0 h8)∧(Q5 h8 ws)∧(Q0 h8)∧(Q3 h8 rs)∧(Q4 h8 ws rs)∧(d3.1=d12.1∧d3.2.1=d12.2.1∧d3.2.2.1=d12.2.2.1∧d3.2.2.2.1=d12.2.2.2.1∧(q4 d3).1=(q4 d12).1∧(q4 d3).2.1=(q4 d12).2.1∧(q4 d3).2.2.1=(q4 d12).2.2.1∧(q4 d3).2.2.2.1=(q4 d12).2.2.2.1∧(d3.1+(1:Int))=(q4 (q4 d12)).1∧(q4 (q4 d3)).2.1=(q4 (q4 d12)).2.1∧(q4 (q4 d3)).2.2.1=(q4 (q4 d12)).2.2.1∧(q4 (q4 d3)).2.2.2.1=(q4 (q4 d12)).2.2.2.1∧(([]:List SV)=[]))∧True))∧q3 d12)) ∧
     (y9=(9:Int) →
      (I64 ((q4 (q4 (q4 d3)))+(1:Int)))∧(∃ d13:QA,((sc=sc∧True∧True∧True∧True∧((q4 (q4 (q4 d3)))+(1:Int))=(q4 (q4 (q4 d13)))∧True)∧((Q0 h8)∧(Q5 h8 ws)∧(Q0 h8)∧(Q3 h8 rs)∧(Q4 h8 ws rs)∧(d3.1=d13.1∧d3.2.1=d13.2.1∧d3.2.2.1=d13.2.2.1∧d3.2.2.2.1=d13.2.2.2.1∧(q4 d3).1=(q4 d13).1∧(q4 d3).2.1=(q4 d13).2.1∧(q4 d3).2.2.1=(q4 d13).2.2.1∧(q4 d3).2.2.2.1=(q4 d13).2.2.2.1∧(q4 (q4 d3)).1=(q4 (q4 d13)).1∧(d3.1+(1:Int))=(q4 (q4 d13)).2.1∧(q4 (q4 d3)).2.2.1=(q4 (q4 d13)).2.2.1∧(q4 (q4 d3)).2.2.2.1=(q4 (q4 d13)).2.2.2.1∧(([]:List SV)=[]))∧True))∧q3 d13)) ∧
     (y9=(10:Int) →
      (I64 ((q4 (q4 (q4 d3)))+(1:Int)))∧(∃ d14:QA,((sc=sc∧True∧True∧True∧True∧((q4 (q4 (q4 d3)))+(1:Int))=(q4 (q4 (q4 d14)))∧True)∧((Q0 h8)∧(Q5 h8 ws)∧(Q0 h8)∧(Q3 h8 rs)∧(Q4 h8 ws rs)∧(d3.1=d14.1∧d3.2.1=d14.2.1∧d3.2.2.1=d14.2.2.1∧d3.2.2.2.1=d14.2.2.2.1∧(q4 d3).1=(q4 d14).1∧(q4 d3).2.1=(q4 d14).2.1∧(q4 d3).2.2.1=(q4 d14).2.2.1∧(q4 d3).2.2.2.1=(q4 d14).2.2.2.1∧(q4 (q4 d3)).1=(q4 (q4 d14)).1∧(q4 (q4 d3)).2.1=(q4 (q4 d14)).2.1∧(d3.1+(1:Int))=(q4 (q4 d14)).2.2.1∧(q4 (q4 d3)).2.2.2.1=(q4 (q4 d14)).2.2.2.1∧(([]:List SV)=[]))∧True))∧q3 d14)) ∧
     (y9=(11:Int) →
      (I64 ((q4 (q4 (q4 d3)))+(1:Int)))∧(∃ d15:QA,((sc=sc∧True∧True∧True∧True∧((q4 (q4 (q4 d3)))+(1:Int))=(q4 (q4 (q4 d15)))∧True)∧((Q0 h8)∧(Q5 h8 ws)∧(Q0 h8)∧(Q3 h8 rs)∧(Q4 h8 ws rs)∧(d3.1=d15.1∧d3.2.1=d15.2.1∧d3.2.2.1=d15.2.2.1∧d3.2.2.2.1=d15.2.2.2.1∧(q4 d3).1=(q4 d15).1∧(q4 d3).2.1=(q4 d15).2.1∧(q4 d3).2.2.1=(q4 d15).2.2.1∧(q4 d3).2.2.2.1=(q4 d15).2.2.2.1∧(q4 (q4 d3)).1=(q4 (q4 d15)).1∧(q4 (q4 d3)).2.1=(q4 (q4 d15)).2.1∧(q4 (q4 d3)).2.2.1=(q4 (q4 d15)).2.2.1∧(d3.1+(1:Int))=(q4 (q4 d15)).2.2.2.1∧(([]:List SV)=[]))∧True))∧q3 d15)) ∧
     True) ∧
    (y9=(1:Int) →
     (I64 (d3.2.1+(1:Int)))∧(0≤y9)∧(y9<(12:Int)) ∧
     (y9=(0:Int) →
      (I64 ((q4 (q4 (q4 d3)))+(1:Int)))∧(∃ d16:QA,((sc=sc∧True∧True∧True∧True∧((q4 (q4 (q4 d3)))+(1:Int))=(q4 (q4 (q4 d16)))∧True)∧((Q0 h8)∧(Q5 h8 ws)∧(Q0 h8)∧(Q3 h8 rs)∧(Q4 h8 ws rs)∧((d3.2.1+(1:Int))=d16.1∧d3.2.1=d16.2.1∧d3.2.2.1=d16.2.2.1∧d3.2.2.2.1=d16.2.2.2.1∧(q4 d3).1=(q4 d16).1∧(q4 d3).2.1=(q4 d16).2.1∧(q4 d3).2.2.1=(q4 d16).2.2.1∧(q4 d3).2.2.2.1=(q4 d16).2.2.2.1∧(q4 (q4 d3)).1=(q4 (q4 d16)).1∧(q4 (q4 d3)).2.1=(q4 (q4 d16)).2.1∧(q4 (q4 d3)).2.2.1=(q4 (q4 d16)).2.2.1∧(q4 (q4 d3)).2.2.2.1=(q4 (q4 d16)).2.2.2.1∧(([]:List SV)=[]))∧True))∧q3 d16)) ∧
     (y9=(1:Int) →
      (I64 ((q4 (q4 (q4 d3)))+(1:Int)))∧(∃ d17:QA,((sc=sc∧True∧True∧True∧True∧((q4 (q4 (q4 d3)))+(1:Int))=(q4 (q4 (q4 d17)))∧True)∧((Q0 h8)∧(Q5 h8 ws)∧(Q0 h8)∧(Q3 h8 rs)∧(Q4 h8 ws rs)∧(d3.1=d17.1∧(d3.2.1+(1:Int))=d17.2.1∧d3.2.2.1=d17.2.2.1∧d3.2.2.2.1=d17.2.2.2.1∧(q4 d3).1=(q4 d17).1∧(q4 d3).2.1=(q4 d17).2.1∧(q4 d3).2.2.1=(q4 d17).2.2.1∧(q4 d3).2.2.2.1=(q4 d17).2.2.2.1∧(q4 (q4 d3)).1=(q4 (q4 d17)).1∧(q4 (q4 d3)).2.1=(q4 (q4 d17)).2.1∧(q4 (q4 d3)).2.2.1=(q4 (q4 d17)).2.2.1∧(q4 (q4 d3)).2.2.2.1=(q4 (q4 d17)).2.2.2.1∧(([]:List SV)=[]))∧True))∧q3 d17)) ∧
     (y9=(2:Int) →
      (I64 ((q4 (q4 (q4 d3)))+(1:Int)))∧(∃ d18:QA,((sc=sc∧True∧True∧True∧True∧((q4 (q4 (q4 d3)))+(1:Int))=(q4 (q4 (q4 d18)))∧True)∧((Q0 h8)∧(Q5 h8 ws)∧(Q0 h8)∧(Q3 h8 rs)∧(Q4 h8 ws rs)∧(d3.1=d18.1∧d3.2.1=d18.2.1∧(d3.2.1+(1:Int))=d18.2.2.1∧d3.2.2.2.1=d18.2.2.2.1∧(q4 d3).1=(q4 d18).1∧(q4 d3).2.1=(q4 d18).2.1∧(q4 d3).2.2.1=(q4 d18).2.2.1∧(q4 d3).2.2.2.1=(q4 d18).2.2.2.1∧(q4 (q4 d3)).1=(q4 (q4 d18)).1∧(q4 (q4 d3)).2.1=(q4 (q4 d18)).2.1∧(q4 (q4 d3)).2.2.1=(q4 (q4 d18)).2.2.1∧(q4 (q4 d3)).2.2.2.1=(q4 (q4 d18)).2.2.2.1∧(([]:List SV)=[]))∧True))∧q3 d18)) ∧
     (y9=(3:Int) →
      (I64 ((q4 (q4 (q4 d3)))+(1:Int)))∧(∃ d19:QA,((sc=sc∧True∧True∧True∧True∧((q4 (q4 (q4 d3)))+(1:Int))=(q4 (q4 (q4 d19)))∧True)∧((Q0 h8)∧(Q5 h8 ws)∧(Q0 h8)∧(Q3 h8 rs)∧(Q4 h8 ws rs)∧(d3.1=d19.1∧d3.2.1=d19.2.1∧d3.2.2.1=d19.2.2.1∧(d3.2.1+(1:Int))=d19.2.2.2.1∧(q4 d3).1=(q4 d19).1∧(q4 d3).2.1=(q4 d19).2.1∧(q4 d3).2.2.1=(q4 d19).2.2.1∧(q4 d3).2.2.2.1=(q4 d19).2.2.2.1∧(q4 (q4 d3)).1=(q4 (q4 d19)).1∧(q4 (q4 d3)).2.1=(q4 (q4 d19)).2.1∧(q4 (q4 d3)).2.2.1=(q4 (q4 d19)).2.2.1∧(q4 (q4 d3)).2.2.2.1=(q4 (q4 d19)).2.2.2.1∧(([]:List SV)=[]))∧True))∧q3 d19)) ∧
     (y9=(4:Int) →
      (I64 ((q4 (q4 (q4 d3)))+(1:Int)))∧(∃ d20:QA,((sc=sc∧True∧True∧True∧True∧((q4 (q4 (q4 d3)))+(1:Int))=(q4 (q4 (q4 d20)))∧True)∧((Q0 h8)∧(Q5 h8 ws)∧(Q0 h8)∧(Q3 h8 rs)∧(Q4 h8 ws rs)∧(d3.1=d20.1∧d3.2.1=d20.2.1∧d3.2.2.1=d20.2.2.1∧d3.2.2.2.1=d20.2.2.2.1∧(d3.2.1+(1:Int))=(q4 d20).1∧(q4 d3).2.1=(q4 d20).2.1∧(q4 d3).2.2.1=(q4 d20).2.2.1∧(q4 d3).2.2.2.1=(q4 d20).2.2.2.1∧(q4 (q4 d3)).1=(q4 (q4 d20)).1∧(q4 (q4 d3)).2.1=(q4 (q4 d20)).2.1∧(q4 (q4 d3)).2.2.1=(q4 (q4 d20)).2.2.1∧(q4 (q4 d3)).2.2.2.1=(q4 (q4 d20)).2.2.2.1∧(([]:List SV)=[]))∧True))∧q3 d20)) ∧
     (y9=(5:Int) →
      (I64 ((q4 (q4 (q4 d3)))+(1:Int)))∧(∃ d21:QA,((sc=sc∧True∧True∧True∧True∧((q4 (q4 (q4 d3)))+(1:Int))=(q4 (q4 (q4 d21)))∧True)∧((Q0 h8)∧(Q5 h8 ws)∧(Q0 h8)∧(Q3 h8 rs)∧(Q4 h8 ws rs)∧(d3.1=d21.1∧d3.2.1=d21.2.1∧d3.2.2.1=d21.2.2.1∧d3.2.2.2.1=d21.2.2.2.1∧(q4 d3).1=(q4 d21).1∧(d3.2.1+(1:Int))=(q4 d21).2.1∧(q4 d3).2.2.1=(q4 d21).2.2.1∧(q4 d3).2.2.2.1=(q4 d21).2.2.2.1∧(q4 (q4 d3)).1=(q4 (q4 d21)).1∧(q4 (q4 d3)).2.1=(q4 (q4 d21)).2.1∧(q4 (q4 d3)).2.2.1=(q4 (q4 d21)).2.2.1∧(q4 (q4 d3)).2.2.2.1=(q4 (q4 d21)).2.2.2.1∧(([]:List SV)=[]))∧True))∧q3 d21)) ∧
     (y9=(6:Int) →
      (I64 ((q4 (q4 (q4 d3)))+(1:Int)))∧(∃ d22:QA,((sc=sc∧True∧True∧True∧True∧((q4 (q4 (q4 d3)))+(1:Int))=(q4 (q4 (q4 d22)))∧True)∧((Q0 h8)∧(Q5 h8 ws)∧(Q0 h8)∧(Q3 h8 rs)∧(Q4 h8 ws rs)∧(d3.1=d22.1∧d3.2.1=d22.2.1∧d3.2.2.1=d22.2.2.1∧d3.2.2.2.1=d22.2.2.2.1∧(q4 d3).1=(q4 d22).1∧(q4 d3).2.1=(q4 d22).2.1∧(d3.2.1+(1:Int))=(q4 d22).2.2.1∧(q4 d3).2.2.2.1=(q4 d22).2.2.2.1∧(q4 (q4 d3)).1=(q4 (q4 d22)).1∧(q4 (q4 d3)).2.1=(q4 (q4 d22)).2.1∧(q4 (q4 d3)).2.2.1=(q4 (q4 d22)).2.2.1∧(q4 (q4 d3)).2.2.2.1=(q4 (q4 d22)).2.2.2.1∧(([]:List SV)=[]))∧True))∧q3 d22)) ∧
     (y9=(7:Int) →
      (I64 ((q4 (q4 (q4 d3)))+(1:Int)))∧(∃ d23:QA,((sc=sc∧True∧True∧True∧True∧((q4 (q4 (q4 d3)))+(1:Int))=(q4 (q4 (q4 d23)))∧True)∧((Q0 h8)∧(Q5 h8 ws)∧(Q0 h8)∧(Q3 h8 rs)∧(Q4 h8 ws rs)∧(d3.1=d23.1∧d3.2.1=d23.2.1∧d3.2.2.1=d23.2.2.1∧d3.2.2.2.1=d23.2.2.2.1∧(q4 d3).1=(q4 d23).1∧(q4 d3).2.1=(q4 d23).2.1∧(q4 d3).2.2.1=(q4 d23).2.2.1∧(d3.2.1+(1:Int))=(q4 d23).2.2.2.1∧(q4 (q4 d3)).1=(q4 (q4 d23)).1∧(q4 (q4 d3)).2.1=(q4 (q4 d23)).2.1∧(q4 (q4 d3)).2.2.1=(q4 (q4 d23)).2.2.1∧(q4 (q4 d3)).2.2.2.1=(q4 (q4 d23)).2.2.2.1∧(([]:List SV)=[]))∧True))∧q3 d23)) ∧
     (y9=(8:Int) →
      (I64 ((q4 (q4 (q4 d3)))+(1:Int)))∧(∃ d24:QA,((sc=sc∧True∧True∧True∧True∧((q4 (q4 (q4 d3)))+(1:Int))=(q4 (q4 (q4 d24)))∧True)∧((Q0 h8)∧(Q5 h8 ws)∧(Q0 h8)∧(Q3 h8 rs)∧(Q4 h8 ws rs)∧(d3.1=d24.1∧d3.2.1=d24.2.1∧d3.2.2.1=d24.2.2.1∧d3.2.2.2.1=d24.2.2.2.1∧(q4 d3).1=(q4 d24).1∧(q4 d3).2.1=(q4 d24).2.1∧(q4 d3).2.2.1=(q4 d24).2.2.1∧(q4 d3).2.2.2.1=(q4 d24).2.2.2.1∧(d3.2.1+(1:Int))=(q4 (q4 d24)).1∧(q4 (q4 d3)).2.1=(q4 (q4 d24)).2.1∧(q4 (q4 d3)).2.2.1=(q4 (q4 d24)).2.2.1∧(q4 (q4 d3)).2.2.2.1=(q4 (q4 d24)).2.2.2.1∧(([]:List SV)=[]))∧True))∧q3 d24)) ∧
     (y9=(9:Int) →
      (I64 ((q4 (q4 (q4 d3)))+(1:Int)))∧(∃ d25:QA,((sc=sc∧True∧True∧True∧True∧((q4 (q4 (q4 d3)))+(1:Int))=(q4 (q4 (q4 d25)))∧True)∧((Q0 h8)∧(Q5 h8 ws)∧(Q0 h8)∧(Q3 h8 rs)∧(Q4 h8 ws rs)∧(d3.1=d25.1∧d3.2.1=d25.2.1∧d3.2.2.1=d25.2.2.1∧d3.2.2.2.1=d25.2.2.2.1∧(q4 d3).1=(q4 d25).1∧(q4 d3).2.1=(q4 d25).2.1∧(q4 d3).2.2.1=(q4 d25).2.2.1∧(q4 d3).2.2.2.1=(q4 d25).2.2.2.1∧(q4 (q4 d3)).1=(q4 (q4 d25)).1∧(d3.2.1+(1:Int))=(q4 (q4 d25)).2.1∧(q4 (q4 d3)).2.2.1=(q4 (q4 d25)).2.2.1∧(q4 (q4 d3)).2.2.2.1=(q4 (q4 d25)).2.2.2.1∧(([]:List SV)=[]))∧True))∧q3 d25)) ∧
     (y9=(10:Int) →
      (I64 ((q4 (q4 (q4 d3)))+(1:Int)))∧(∃ d26:QA,((sc=sc∧True∧True∧True∧True∧((q4 (q4 (q4 d3)))+(1:Int))=(q4 (q4 (q4 d26)))∧True)∧((Q0 h8)∧(Q5 h8 ws)∧(Q0 h8)∧(Q3 h8 rs)∧(Q4 h8 ws rs)∧(d3.1=d26.1∧d3.2.1=d26.2.1∧d3.2.2.1=d26.2.2.1∧d3.2.2.2.1=d26.2.2.2.1∧(q4 d3).1=(q4 d26).1∧(q4 d3).2.1=(q4 d26).2.1∧(q4 d3).2.2.1=(q4 d26).2.2.1∧(q4 d3).2.2.2.1=(q4 d26).2.2.2.1∧(q4 (q4 d3)).1=(q4 (q4 d26)).1∧(q4 (q4 d3)).2.1=(q4 (q4 d26)).2.1∧(d3.2.1+(1:Int))=(q4 (q4 d26)).2.2.1∧(q4 (q4 d3)).2.2.2.1=(q4 (q4 d26)).2.2.2.1∧(([]:List SV)=[]))∧True))∧q3 d26)) ∧
     (y9=(11:Int) →
      (I64 ((q4 (q4 (q4 d3)))+(1:Int)))∧(∃ d27:QA,((sc=sc∧True∧True∧True∧True∧((q4 (q4 (q4 d3)))+(1:Int))=(q4 (q4 (q4 d27)))∧True)∧((Q0 h8)∧(Q5 h8 ws)∧(Q0 h8)∧(Q3 h8 rs)∧(Q4 h8 ws rs)∧(d3.1=d27.1∧d3.2.1=d27.2.1∧d3.2.2.1=d27.2.2.1∧d3.2.2.2.1=d27.2.2.2.1∧(q4 d3).1=(q4 d27).1∧(q4 d3).2.1=(q4 d27).2.1∧(q4 d3).2.2.1=(q4 d27).2.2.1∧(q4 d3).2.2.2.1=(q4 d27).2.2.2.1∧(q4 (q4 d3)).1=(q4 (q4 d27)).1∧(q4 (q4 d3)).2.1=(q4 (q4 d27)).2.1∧(q4 (q4 d3)).2.2.1=(q4 (q4 d27)).2.2.1∧(d3.2.1+(1:Int))=(q4 (q4 d27)).2.2.2.1∧(([]:List SV)=[]))∧True))∧q3 d27)) ∧
     True) ∧
    (y9=(2:Int) →
     (I64 (d3.2.2.1+(1:Int)))∧(0≤y9)∧(y9<(12:Int)) ∧
     (y9=(0:Int) →
      (I64 ((q4 (q4 (q4 d3)))+(1:Int)))∧(∃ d28:QA,((sc=sc∧True∧True∧True∧True∧((q4 (q4 (q4 d3)))+(1:Int))=(q4 (q4 (q4 d28)))∧True)∧((Q0 h8)∧(Q5 h8 ws)∧(Q0 h8)∧(Q3 h8 rs)∧(Q4 h8 ws rs)∧((d3.2.2.1+(1:Int))=d28.1∧d3.2.1=d28.2.1∧d3.2.2.1=d28.2.2.1∧d3.2.2.2.1=d28.2.2.2.1∧(q4 d3).1=(q4 d28).1∧(q4 d3).2.1=(q4 d28).2.1∧(q4 d3).2.2.1=(q4 d28).2.2.1∧(q4 d3).2.2.2.1=(q4 d28).2.2.2.1∧(q4 (q4 d3)).1=(q4 (q4 d28)).1∧(q4 (q4 d3)).2.1=(q4 (q4 d28)).2.1∧(q4 (q4 d3)).2.2.1=(q4 (q4 d28)).2.2.1∧(q4 (q4 d3)).2.2.2.1=(q4 (q4 d28)).2.2.2.1∧(([]:List SV)=[]))∧True))∧q3 d28)) ∧
     (y9=(1:Int) →
      (I64 ((q4 (q4 (q4 d3)))+(1:Int)))∧(∃ d29:QA,((sc=sc∧True∧True∧True∧True∧((q4 (q4 (q4 d3)))+(1:Int))=(q4 (q4 (q4 d29)))∧True)∧((Q0 h8)∧(Q5 h8 ws)∧(Q0 h8)∧(Q3 h8 rs)∧(Q4 h8 ws rs)∧(d3.1=d29.1∧(d3.2.2.1+(1:Int))=d29.2.1∧d3.2.2.1=d29.2.2.1∧d3.2.2.2.1=d29.2.2.2.1∧(q4 d3).1=(q4 d29).1∧(q4 d3).2.1=(q4 d29).2.1∧(q4 d3).2.2.1=(q4 d29).2.2.1∧(q4 d3).2.2.2.1=(q4 d29).2.2.2.1∧(q4 (q4 d3)).1=(q4 (q4 d29)).1∧(q4 (q4 d3)).2.1=(q4 (q4 d29)).2.1∧(q4 (q4 d3)).2.2.1=(q4 (q4 d29)).2.2.1∧(q4 (q4 d3)).2.2.2.1=(q4 (q4 d29)).2.2.2.1∧(([]:List SV)=[]))∧True))∧q3 d29)) ∧
     (y9=(2:Int) →
      (I64 ((q4 (q4 (q4 d3)))+(1:Int)))∧(∃ d30:QA,((sc=sc∧True∧True∧True∧True∧((q4 (q4 (q4 d3)))+(1:Int))=(q4 (q4 (q4 d30)))∧True)∧((Q0 h8)∧(Q5 h8 ws)∧(Q0 h8)∧(Q3 h8 rs)∧(Q4 h8 ws rs)∧(d3.1=d30.1∧d3.2.1=d30.2.1∧(d3.2.2.1+(1:Int))=d30.2.2.1∧d3.2.2.2.1=d30.2.2.2.1∧(q4 d3).1=(q4 d30).1∧(q4 d3).2.1=(q4 d30).2.1∧(q4 d3).2.2.1=(q4 d30).2.2.1∧(q4 d3).2.2.2.1=(q4 d30).2.2.2.1∧(q4 (q4 d3)).1=(q4 (q4 d30)).1∧(q4 (q4 d3)).2.1=(q4 (q4 d30)).2.1∧(q4 (q4 d3)).2.2.1=(q4 (q4 d30)).2.2.1∧(q4 (q4 d3)).2.2.2.1=(q4 (q4 d30)).2.2.2.1∧(([]:List SV)=[]))∧True))∧q3 d30)) ∧
     (y9=(3:Int) →
      (I64 ((q4 (q4 (q4 d3)))+(1:Int)))∧(∃ d31:QA,((sc=sc∧True∧True∧True∧True∧((q4 (q4 (q4 d3)))+(1:Int))=(q4 (q4 (q4 d31)))∧True)∧((Q0 h8)∧(Q5 h8 ws)∧(Q0 h8)∧(Q3 h8 rs)∧(Q4 h8 ws rs)∧(d3.1=d31.1∧d3.2.1=d31.2.1∧d3.2.2.1=d31.2.2.1∧(d3.2.2.1+(1:Int))=d31.2.2.2.1∧(q4 d3).1=(q4 d31).1∧(q4 d3).2.1=(q4 d31).2.1∧(q4 d3).2.2.1=(q4 d31).2.2.1∧(q4 d3).2.2.2.1=(q4 d31).2.2.2.1∧(q4 (q4 d3)).1=(q4 (q4 d31)).1∧(q4 (q4 d3)).2.1=(q4 (q4 d31)).2.1∧(q4 (q4 d3)).2.2.1=(q4 (q4 d31)).2.2.1∧(q4 (q4 d3)).2.2.2.1=(q4 (q4 d31)).2.2.2.1∧(([]:List SV)=[]))∧True))∧q3 d31)) ∧
     (y9=(4:Int) →
      (I64 ((q4 (q4 (q4 d3)))+(1:Int)))∧(∃ d32:QA,((sc=sc∧True∧True∧True∧True∧((q4 (q4 (q4 d3)))+(1:Int))=(q4 (q4 (q4 d32)))∧True)∧((Q0 h8)∧(Q5 h8 ws)∧(Q0 h8)∧(Q3 h8 rs)∧(Q4 h8 ws rs)∧(d3.1=d32.1∧d3.2.1=d32.2.1∧d3.2.2.1=d32.2.2.1∧d3.2.2.2.1=d32.2.2.2.1∧(d3.2.2.1+(1:Int))=(q4 d32).1∧(q4 d3).2.1=(q4 d32).2.1∧(q4 d3).2.2.1=(q4 d32).2.2.1∧(q4 d3).2.2.2.1=(q4 d32).2.2.2.1∧(q4 (q4 d3)).1=(q4 (q4 d32)).1∧(q4 (q4 d3)).2.1=(q4 (q4 d32)).2.1∧(q4 (q4 d3)).2.2.1=(q4 (q4 d32)).2.2.1∧(q4 (q4 d3)).2.2.2.1=(q4 (q4 d32)).2.2.2.1∧(([]:List SV)=[]))∧True))∧q3 d32)) ∧
     (y9=(5:Int) →
      (I64 ((q4 (q4 (q4 d3)))+(1:Int)))∧(∃ d33:QA,((sc=sc∧True∧True∧True∧True∧((q4 (q4 (q4 d3)))+(1:Int))=(q4 (q4 (q4 d33)))∧True)∧((Q0 h8)∧(Q5 h8 ws)∧(Q0 h8)∧(Q3 h8 rs)∧(Q4 h8 ws rs)∧(d3.1=d33.1∧d3.2.1=d33.2.1∧d3.2.2.1=d33.2.2.1∧d3.2.2.2.1=d33.2.2.2.1∧(q4 d3).1=(q4 d33).1∧(d3.2.2.1+(1:Int))=(q4 d33).2.1∧(q4 d3).2.2.1=(q4 d33).2.2.1∧(q4 d3).2.2.2.1=(q4 d33).2.2.2.1∧(q4 (q4 d3)).1=(q4 (q4 d33)).1∧(q4 (q4 d3)).2.1=(q4 (q4 d33)).2.1∧(q4 (q4 d3)).2.2.1=(q4 (q4 d33)).2.2.1∧(q4 (q4 d3)).2.2.2.1=(q4 (q4 d33)).2.2.2.1∧(([]:List SV)=[]))∧True))∧q3 d33)) ∧
     (y9=(6:Int) →
      (I64 ((q4 (q4 (q4 d3)))+(1:Int)))∧(∃ d34:QA,((sc=sc∧True∧True∧True∧True∧((q4 (q4 (q4 d3)))+(1:Int))=(q4 (q4 (q4 d34)))∧True)∧((Q0 h8)∧(Q5 h8 ws)∧(Q0 h8)∧(Q3 h8 rs)∧(Q4 h8 ws rs)∧(d3.1=d34.1∧d3.2.1=d34.2.1∧d3.2.2.1=d34.2.2.1∧d3.2.2.2.1=d34.2.2.2.1∧(q4 d3).1=(q4 d34).1∧(q4 d3).2.1=(q4 d34).2.1∧(d3.2.2.1+(1:Int))=(q4 d34).2.2.1∧(q4 d3).2.2.2.1=(q4 d34).2.2.2.1∧(q4 (q4 d3)).1=(q4 (q4 d34)).1∧(q4 (q4 d3)).2.1=(q4 (q4 d34)).2.1∧(q4 (q4 d3)).2.2.1=(q4 (q4 d34)).2.2.1∧(q4 (q4 d3)).2.2.2.1=(q4 (q4 d34)).2.2.2.1∧(([]:List SV)=[]))∧True))∧q3 d34)) ∧
     (y9=(7:Int) →
      (I64 ((q4 (q4 (q4 d3)))+(1:Int)))∧(∃ d35:QA,((sc=sc∧True∧True∧True∧True∧((q4 (q4 (q4 d3)))+(1:Int))=(q4 (q4 (q4 d35)))∧True)∧((Q0 h8)∧(Q5 h8 ws)∧(Q0 h8)∧(Q3 h8 rs)∧(Q4 h8 ws rs)∧(d3.1=d35.1∧d3.2.1=d35.2.1∧d3.2.2.1=d35.2.2.1∧d3.2.2.2.1=d35.2.2.2.1∧(q4 d3).1=(q4 d35).1∧(q4 d3).2.1=(q4 d35).2.1∧(q4 d3).2.2.1=(q4 d35).2.2.1∧(d3.2.2.1+(1:Int))=(q4 d35).2.2.2.1∧(q4 (q4 d3)).1=(q4 (q4 d35)).1∧(q4 (q4 d3)).2.1=(q4 (q4 d35)).2.1∧(q4 (q4 d3)).2.2.1=(q4 (q4 d35)).2.2.1∧(q4 (q4 d3)).2.2.2.1=(q4 (q4 d35)).2.2.2.1∧(([]:List SV)=[]))∧True))∧q3 d35)) ∧
     (y9=(8:Int) →
      (I64 ((q4 (q4 (q4 d3)))+(1:Int)))∧(∃ d36:QA,((sc=sc∧True∧True∧True∧True∧((q4 (q4 (q4 d3)))+(1:Int))=(q4 (q4 (q4 d36)))∧True)∧((Q0 h8)∧(Q5 h8 ws)∧(Q0 h8)∧(Q3 h8 rs)∧(Q4 h8 ws rs)∧(d3.1=d36.1∧d3.2.1=d36.2.1∧d3.2.2.1=d36.2.2.1∧d3.2.2.2.1=d36.2.2.2.1∧(q4 d3).1=(q4 d36).1∧(q4 d3).2.1=(q4 d36).2.1∧(q4 d3).2.2.1=(q4 d36).2.2.1∧(q4 d3).2.2.2.1=(q4 d36).2.2.2.1∧(d3.2.2.1+(1:Int))=(q4 (q4 d36)).1∧(q4 (q4 d3)).2.1=(q4 (q4 d36)).2.1∧(q4 (q4 d3)).2.2.1=(q4 (q4 d36)).2.2.1∧(q4 (q4 d3)).2.2.2.1=(q4 (q4 d36)).2.2.2.1∧(([]:List SV)=[]))∧True))∧q3 d36)) ∧
     (y9=(9:Int) →
      (I64 ((q4 (q4 (q4 d3)))+(1:Int)))∧(∃ d37:QA,((sc=sc∧True∧True∧True∧True∧((q4 (q4 (q4 d3)))+(1:Int))=(q4 (q4 (q4 d37)))∧True)∧((Q0 h8)∧(Q5 h8 ws)∧(Q0 h8)∧(Q3 h8 rs)∧(Q4 h8 ws rs)∧(d3.1=d37.1∧d3.2.1=d37.2.1∧d3.2.2.1=d37.2.2.1∧d3.2.2.2.1=d37.2.2.2.1∧(q4 d3).1=(q4 d37).1∧(q4 d3).2.1=(q4 d37).2.1∧(q4 d3).2.2.1=(q4 d37).2.2.1∧(q4 d3).2.2.2.1=(q4 d37).2.2.2.1∧(q4 (q4 d3)).1=(q4 (q4 d37)).1∧(d3.2.2.1+(1:Int))=(q4 (q4 d37)).2.1∧(q4 (q4 d3)).2.2.1=(q4 (q4 d37)).2.2.1∧(q4 (q4 d3)).2.2.2.1=(q4 (q4 d37)).2.2.2.1∧(([]:List SV)=[]))∧True))∧q3 d37)) ∧
     (y9=(10:Int) →
      (I64 ((q4 (q4 (q4 d3)))+(1:Int)))∧(∃ d38:QA,((sc=sc∧True∧True∧True∧True∧((q4 (q4 (q4 d3)))+(1:Int))=(q4 (q4 (q4 d38)))∧True)∧((Q0 h8)∧(Q5 h8 ws)∧(Q0 h8)∧(Q3 h8 rs)∧(Q4 h8 ws rs)∧(d3.1=d38.1∧d3.2.1=d38.2.1∧d3.2.2.1=d38.2.2.1∧d3.2.2.2.1=d38.2.2.2.1∧(q4 d3).1=(q4 d38).1∧(q4 d3).2.1=(q4 d38).2.1∧(q4 d3).2.2.1=(q4 d38).2.2.1∧(q4 d3).2.2.2.1=(q4 d38).2.2.2.1∧(q4 (q4 d3)).1=(q4 (q4 d38)).1∧(q4 (q4 d3)).2.1=(q4 (q4 d38)).2.1∧(d3.2.2.1+(1:Int))=(q4 (q4 d38)).2.2.1∧(q4 (q4 d3)).2.2.2.1=(q4 (q4 d38)).2.2.2.1∧(([]:List SV)=[]))∧True))∧q3 d38)) ∧
     (y9=(11:Int) →
      (I64 ((q4 (q4 (q4 d3)))+(1:Int)))∧(∃ d39:QA,((sc=sc∧True∧True∧True∧True∧((q4 (q4 (q4 d3)))+(1:Int))=(q4 (q4 (q4 d39)))∧True)∧((Q0 h8)∧(Q5 h8 ws)∧(Q0 h8)∧(Q3 h8 rs)∧(Q4 h8 ws rs)∧(d3.1=d39.1∧d3.2.1=d39.2.1∧d3.2.2.1=d39.2.2.1∧d3.2.2.2.1=d39.2.2.2.1∧(q4 d3).1=(q4 d39).1∧(q4 d3).2.1=(q4 d39).2.1∧(q4 d3).2.2.1=(q4 d39).2.2.1∧(q4 d3).2.2.2.1=(q4 d39).2.2.2.1∧(q4 (q4 d3)).1=(q4 (q4 d39)).1∧(q4 (q4 d3)).2.1=(q4 (q4 d39)).2.1∧(q4 (q4 d3)).2.2.1=(q4 (q4 d39)).2.2.1∧(d3.2.2.1+(1:Int))=(q4 (q4 d39)).2.2.2.1∧(([]:List SV)=[]))∧True))∧q3 d39)) ∧
     True) ∧
    (y9=(3:Int) →
     (I64 (d3.2.2.2.1+(1:Int)))∧(0≤y9)∧(y9<(12:Int)) ∧
     (y9=(0:Int) →
      (I64 ((q4 (q4 (q4 d3)))+(1:Int)))∧(∃ d40:QA,((sc=sc∧True∧True∧True∧True∧((q4 (q4 (q4 d3)))+(1:Int))=(q4 (q4 (q4 d40)))∧True)∧((Q0 h8)∧(Q5 h8 ws)∧(Q0 h8)∧(Q3 h8 rs)∧(Q4 h8 ws rs)∧((d3.2.2.2.1+(1:Int))=d40.1∧d3.2.1=d40.2.1∧d3.2.2.1=d40.2.2.1∧d3.2.2.2.1=d40.2.2.2.1∧(q4 d3).1=(q4 d40).1∧(q4 d3).2.1=(q4 d40).2.1∧(q4 d3).2.2.1=(q4 d40).2.2.1∧(q4 d3).2.2.2.1=(q4 d40).2.2.2.1∧(q4 (q4 d3)).1=(q4 (q4 d40)).1∧(q4 (q4 d3)).2.1=(q4 (q4 d40)).2.1∧(q4 (q4 d3)).2.2.1=(q4 (q4 d40)).2.2.1∧(q4 (q4 d3)).2.2.2.1=(q4 (q4 d40)).2.2.2.1∧(([]:List SV)=[]))∧True))∧q3 d40)) ∧
     (y9=(1:Int) →
      (I64 ((q4 (q4 (q4 d3)))+(1:Int)))∧(∃ d41:QA,((sc=sc∧True∧True∧True∧True∧((q4 (q4 (q4 d3)))+(1:Int))=(q4 (q4 (q4 d41)))∧True)∧((Q0 h8)∧(Q5 h8 ws)∧(Q0 h8)∧(Q3 h8 rs)∧(Q4 h8 ws rs)∧(d3.1=d41.1∧(d3.2.2.2.1+(1:Int))=d41.2.1∧d3.2.2.1=d41.2.2.1∧d3.2.2.2.1=d41.2.2.2.1∧(q4 d3).1=(q4 d41).1∧(q4 d3).2.1=(q4 d41).2.1∧(q4 d3).2.2.1=(q4 d41).2.2.1∧(q4 d3).2.2.2.1=(q4 d41).2.2.2.1∧(q4 (q4 d3)).1=(q4 (q4 d41)).1∧(q4 (q4 d3)).2.1=(q4 (q4 d41)).2.1∧(q4 (q4 d3)).2.2.1=(q4 (q4 d41)).2.2.1∧(q4 (q4 d3)).2.2.2.1=(q4 (q4 d41)).2.2.2.1∧(([]:List SV)=[]))∧True))∧q3 d41)) ∧
     (y9=(2:Int) →
      (I64 ((q4 (q4 (q4 d3)))+(1:Int)))∧(∃ d42:QA,((sc=sc∧True∧True∧True∧True∧((q4 (q4 (q4 d3)))+(1:Int))=(q4 (q4 (q4 d42)))∧True)∧((Q0 h8)∧(Q5 h8 ws)∧(Q0 h8)∧(Q3 h8 rs)∧(Q4 h8 ws rs)∧(d3.1=d42.1∧d3.2.1=d42.2.1∧(d3.2.2.2.1+(1:Int))=d42.2.2.1∧d3.2.2.2.1=d42.2.2.2.1∧(q4 d3).1=(q4 d42).1∧(q4 d3).2.1=(q4 d42).2.1∧(q4 d3).2.2.1=(q4 d42).2.2.1∧(q4 d3).2.2.2.1=(q4 d42).2.2.2.1∧(q4 (q4 d3)).1=(q4 (q4 d42)).1∧(q4 (q4 d3)).2.1=(q4 (q4 d42)).2.1∧(q4 (q4 d3)).2.2.1=(q4 (q4 d42)).2.2.1∧(q4 (q4 d3)).2.2.2.1=(q4 (q4 d42)).2.2.2.1∧(([]:List SV)=[]))∧True))∧q3 d42)) ∧
     (y9=(3:Int) →
      (I64 ((q4 (q4 (q4 d3)))+(1:Int)))∧(∃ d43:QA,((sc=sc∧True∧True∧True∧True∧((q4 (q4 (q4 d3)))+(1:Int))=(q4 (q4 (q4 d43)))∧True)∧((Q0 h8)∧(Q5 h8 ws)∧(Q0 h8)∧(Q3 h8 rs)∧(Q4 h8 ws rs)∧(d3.1=d43.1∧d3.2.1=d43.2.1∧d3.2.2.1=d43.2.2.1∧(d3.2.2.2.1+(1:Int))=d43.2.2.2.1∧(q4 d3).1=(q4 d43).1∧(q4 d3).2.1=(q4 d43).2.1∧(q4 d3).2.2.1=(q4 d43).2.2.1∧(q4 d3).2.2.2.1=(q4 d43).2.2.2.1∧(q4 (q4 d3)).1=(q4 (q4 d43)).1∧(q4 (q4 d3)).2.1=(q4 (q4 d43)).2.1∧(q4 (q4 d3)).2.2.1=(q4 (q4 d43)).2.2.1∧(q4 (q4 d3)).2.2.2.1=(q4 (q4 d43)).2.2.2.1∧(([]:List SV)=[]))∧True))∧q3 d43)) ∧
     (y9=(4:Int) →
      (I64 ((q4 (q4 (q4 d3)))+(1:Int)))∧(∃ d44:QA,((sc=sc∧True∧True∧True∧True∧((q4 (q4 (q4 d3)))+(1:Int))=(q4 (q4 (q4 d44)))∧True)∧((Q0 h8)∧(Q5 h8 ws)∧(Q0 h8)∧(Q3 h8 rs)∧(Q4 h8 ws rs)∧(d3.1=d44.1∧d3.2.1=d44.2.1∧d3.2.2.1=d44.2.2.1∧d3.2.2.2.1=d44.2.2.2.1∧(d3.2.2.2.1+(1:Int))=(q4 d44).1∧(q4 d3).2.1=(q4 d44).2.1∧(q4 d3).2.2.1=(q4 d44).2.2.1∧(q4 d3).2.2.2.1=(q4 d44).2.2.2.1∧(q4 (q4 d3)).1=(q4 (q4 d44)).1∧(q4 (q4 d3)).2.1=(q4 (q4 d44)).2.1∧(q4 (q4 d3)).2.2.1=(q4 (q4 d44)).2.2.1∧(q4 (q4 d3)).2.2.2.1=(q4 (q4 d44)).2.2.2.1∧(([]:List SV)=[]))∧True))∧q3 d44)) ∧
     (y9=(5:Int) →
      (I64 ((q4 (q4 (q4 d3)))+(1:Int)))∧(∃ d45:QA,((sc=sc∧True∧True∧True∧True∧((q4 (q4 (q4 d3)))+(1:Int))=(q4 (q4 (q4 d45)))∧True)∧((Q0 h8)∧(Q5 h8 ws)∧(Q0 h8)∧(Q3 h8 rs)∧(Q4 h8 ws rs)∧(d3.1=d45.1∧d3.2.1=d45.2.1∧d3.2.2.1=d45.2.2.1∧d3.2.2.2.1=d45.2.2.2.1∧(q4 d3).1=(q4 d45).1∧(d3.2.2.2.1+(1:Int))=(q4 d45).2.1∧(q4 d3).2.2.1=(q4 d45).2.2.1∧(q4 d3).2.2.2.1=(q4 d45).2.2.2.1∧(q4 (q4 d3)).1=(q4 (q4 d45)).1∧(q4 (q4 d3)).2.1=(q4 (q4 d45)).2.1∧(q4 (q4 d3)).2.2.1=(q4 (q4 d45)).2.2.1∧(q4 (q4 d3)).2.2.2.1=(q4 (q4 d45)).2.2.2.1∧(([]:List SV)=[]))∧True))∧q3 d45)) ∧
     (y9=(6:Int) →
      (I64 ((q4 (q4 (q4 d3)))+(1:Int)))∧(∃ d46:QA,((sc=sc∧True∧True∧True∧True∧((q4 (q4 (q4 d3)))+(1:Int))=(q4 (q4 (q4 d46)))∧True)∧((Q0 h8)∧(Q5 h8 ws)∧(Q0 h8)∧(Q3 h8 rs)∧(Q4 h8 ws rs)∧(d3.1=d46.1∧d3.2.1=d46.2.1∧d3.2.2.1=d46.2.2.1∧d3.2.2.2.1=d46.2.2.2.1∧(q4 d3).1=(q4 d46).1∧(q4 d3).2.1=(q4 d46).2.1∧(d3.2.2.2.1+(1:Int))=(q4 d46).2.2.1∧(q4 d3).2.2.2.1=(q4 d46).2.2.2.1∧(q4 (q4 d3)).1=(q4 (q4 d46)).1∧(q4 (q4 d3)).2.1=(q4 (q4 d46)).2.1∧(q4 (q4 d3)).2.2.1=(q4 (q4 d46)).2.2.1∧(q4 (q4 d3)).2.2.2.1=(q4 (q4 d46)).2.2.2.1∧(([]:List SV)=[]))∧True))∧q3 d46)) ∧
     (y9=(7:Int) →
      (I64 ((q4 (q4 (q4 d3)))+(1:Int)))∧(∃ d47:QA,((sc=sc∧True∧True∧True∧True∧((q4 (q4 (q4 d3)))+(1:Int))=(q4 (q4 (q4 d47)))∧True)∧((Q0 h8)∧(Q5 h8 ws)∧(Q0 h8)∧(Q3 h8 rs)∧(Q4 h8 ws rs)∧(d3.1=d47.1∧d3.2.1=d47.2.1∧d3.2.2.1=d47.2.2.1∧d3.2.2.2.1=d47.2.2.2.1∧(q4 d3).1=(q4 d47).1∧(q4 d3).2.1=(q4 d47).2.1∧(q4 d3).2.2.1=(q4 d47).2.2.1∧(d3.2.2.2.1+(1:Int))=(q4 d47).2.2.2.1∧(q4 (q4 d3)).1=(q4 (q4 d47)).1∧(q4 (q4 d3)).2.1=(q4 (q4 d47)).2.1∧(q4 (q4 d3)).2.2.1=(q4 (q4 d47)).2.2.1∧(q4 (q4 d3)).2.2.2.1=(q4 (q4 d47)).2.2.2.1∧(([]:List SV)=[]))∧True))∧q3 d47)) ∧
     (y9=(8:Int) →
      (I64 ((q4 (q4 (q4 d3)))+(1:Int)))∧(∃ d48:QA,((sc=sc∧True∧True∧True∧True∧((q4 (q4 (q4 d3)))+(1:Int))=(q4 (q4 (q4 d48)))∧True)∧((Q0 h8)∧(Q5 h8 ws)∧(Q0 h8)∧(Q3 h8 rs)∧(Q4 h8 ws rs)∧(d3.1=d48.1∧d3.2.1=d48.2.1∧d3.2.2.1=d48.2.2.1∧d3.2.2.2.1=d48.2.2.2.1∧(q4 d3).1=(q4 d48).1∧(q4 d3).2.1=(q4 d48).2.1∧(q4 d3).2.2.1=(q4 d48).2.2.1∧(q4 d3).2.2.2.1=(q4 d48).2.2.2.1∧(d3.2.2.2.1+(1:Int))=(q4 (q4 d48)).1∧(q4 (q4 d3)).2.1=(q4 (q4 d48)).2.1∧(q4 (q4 d3)).2.2.1=(q4 (q4 d48)).2.2.1∧(q4 (q4 d3)).2.2.2.1=(q4 (q4 d48)).2.2.2.1∧(([]:List SV)=[]))∧True))∧q3 d48)) ∧
     (y9=(9:Int) →
      (I64 ((q4 (q4 (q4 d3)))+(1:Int)))∧(∃ d49:QA,((sc=sc∧True∧True∧True∧True∧((q4 (q4 (q4 d3)))+(1:Int))=(q4 (q4 (q4 d49)))∧True)∧((Q0 h8)∧(Q5 h8 ws)∧(Q0 h8)∧(Q3 h8 rs)∧(Q4 h8 ws rs)∧(d3.1=d49.1∧d3.2.1=d49.2.1∧d3.2.2.1=d49.2.2.1∧d3.2.2.2.1=d49.2.2.2.1∧(q4 d3).1=(q4 d49).1∧(q4 d3).2.1=(q4 d49).2.1∧(q4 d3).2.2.1=(q4 d49).2.2.1∧(q4 d3).2.2.2.1=(q4 d49).2.2.2.1∧(q4 (q4 d3)).1=(q4 (q4 d49)).1∧(d3.2.2.2.1+(1:Int))=(q4 (q4 d49)).2.1∧(q4 (q4 d3)).2.2.1=(q4 (q4 d49)).2.2.1∧(q4 (q4 d3)).2.2.2.1=(q4 (q4 d49)).2.2.2.1∧(([]:List SV)=[]))∧True))∧q3 d49)) ∧
     (y9=(10:Int) →
      (I64 ((q4 (q4 (q4 d3)))+(1:Int)))∧(∃ d50:QA,((sc=sc∧True∧True∧True∧True∧((q4 (q4 (q4 d3)))+(1:Int))=(q4 (q4 (q4 d50)))∧True)∧((Q0 h8)∧(Q5 h8 ws)∧(Q0 h8)∧(Q3 h8 rs)∧(Q4 h8 ws rs)∧(d3.1=d50.1∧d3.2.1=d50.2.1∧d3.2.2.1=d50.2.2.1∧d3.2.2.2.1=d50.2.2.2.1∧(q4 d3).1=(q4 d50).1∧(q4 d3).2.1=(q4 d50).2.1∧(q4 d3).2.2.1=(q4 d50).2.2.1∧(q4 d3).2.2.2.1=(q4 d50).2.2.2.1∧(q4 (q4 d3)).1=(q4 (q4 d50)).1∧(q4 (q4 d3)).2.1=(q4 (q4 d50)).2.1∧(d3.2.2.2.1+(1:Int))=(q4 (q4 d50)).2.2.1∧(q4 (q4 d3)).2.2.2.1=(q4 (q4 d50)).2.2.2.1∧(([]:List SV)=[]))∧True))∧q3 d50)) ∧
     (y9=(11:Int) →
      (I64 ((q4 (q4 (q4 d3)))+(1:Int)))∧(∃ d51:QA,((sc=sc∧True∧True∧True∧True∧((q4 (q4 (q4 d3)))+(1:Int))=(q4 (q4 (q4 d51)))∧True)∧((Q0 h8)∧(Q5 h8 ws)∧(Q0 h8)∧(Q3 h8 rs)∧(Q4 h8 ws rs)∧(d3.1=d51.1∧d3.2.1=d51.2.1∧d3.2.2.1=d51.2.2.1∧d3.2.2.2.1=d51.2.2.2.1∧(q4 d3).1=(q4 d51).1∧(q4 d3).2.1=(q4 d51).2.1∧(q4 d3).2.2.1=(q4 d51).2.2.1∧(q4 d3).2.2.2.1=(q4 d51).2.2.2.1∧(q4 (q4 d3)).1=(q4 (q4 d51)).1∧(q4 (q4 d3)).2.1=(q4 (q4 d51)).2.1∧(q4 (q4 d3)).2.2.1=(q4 (q4 d51)).2.2.1∧(d3.2.2.2.1+(1:Int))=(q4 (q4 d51)).2.2.2.1∧(([]:List SV)=[]))∧True))∧q3 d51)) ∧
     True) ∧
    (y9=(4:Int) →
     (I64 ((q4 d3).1+(1:Int)))∧(0≤y9)∧(y9<(12:Int)) ∧
     (y9=(0:Int) →
      (I64 ((q4 (q4 (q4 d3)))+(1:Int)))∧(∃ d52:QA,((sc=sc∧True∧True∧True∧True∧((q4 (q4 (q4 d3)))+(1:Int))=(q4 (q4 (q4 d52)))∧True)∧((Q0 h8)∧(Q5 h8 ws)∧(Q0 h8)∧(Q3 h8 rs)∧(Q4 h8 ws rs)∧(((q4 d3).1+(1:Int))=d52.1∧d3.2.1=d52.2.1∧d3.2.2.1=d52.2.2.1∧d3.2.2.2.1=d52.2.2.2.1∧(q4 d3).1=(q4 d52).1∧(q4 d3).2.1=(q4 d52).2.1∧(q4 d3).2.2.1=(q4 d52).2.2.1∧(q4 d3).2.2.2.1=(q4 d52).2.2.2.1∧(q4 (q4 d3)).1=(q4 (q4 d52)).1∧(q4 (q4 d3)).2.1=(q4 (q4 d52)).2.1∧(q4 (q4 d3)).2.2.1=(q4 (q4 d52)).2.2.1∧(q4 (q4 d3)).2.2.2.1=(q4 (q4 d52)).2.2.2.1∧(([]:List SV)=[]))∧True))∧q3 d52)) ∧
     (y9=(1:Int) →
      (I64 ((q4 (q4 (q4 d3)))+(1:Int)))∧(∃ d53:QA,((sc=sc∧True∧True∧True∧True∧((q4 (q4 (q4 d3)))+(1:Int))=(q4 (q4 (q4 d53)))∧True)∧((Q0 h8)∧(Q5 h8 ws)∧(Q0 h8)∧(Q3 h8 rs)∧(Q4 h8 ws rs)∧(d3.1=d53.1∧((q4 d3).1+(1:Int))=d53.2.1∧d3.2.2.1=d53.2.2.1∧d3.2.2.2.1=d53.2.2.2.1∧(q4 d3).1=(q4 d53).1∧(q4 d3).2.1=(q4 d53).2.1∧(q4 d3).2.2.1=(q4 d53).2.2.1∧(q4 d3).2.2.2.1=(q4 d53).2.2.2.1∧(q4 (q4 d3)).1=(q4 (q4 d53)).1∧(q4 (q4 d3)).2.1=(q4 (q4 d53)).2.1∧(q4 (q4 d3)).2.2.1=(q4 (q4 d53)).2.2.1∧(q4 (q4 d3)).2.2.2.1=(q4 (q4 d53)).2.2.2.1∧(([]:List SV)=[]))∧True))∧q3 d53)) ∧
     (y9=(2:Int) →
      (I64 ((q4 (q4 (q4 d3)))+(1:Int)))∧(∃ d54:QA,((sc=sc∧True∧True∧True∧True∧((q4 (q4 (q4 d3)))+(1:Int))=(q4 (q4 (q4 d54)))∧True)∧((Q0 h8)∧(Q5 h8 ws)∧(Q0 h8)∧(Q3 h8 rs)∧(Q4 h8 ws rs)∧(d3.1=d54.1∧d3.2.1=d54.2.1∧((q4 d3).1+(1:Int))=d54.2.2.1∧d3.2.2.2.1=d54.2.2.2.1∧(q4 d3).1=(q4 d54).1∧(q4 d3).2.1=(q4 d54).2.1∧(q4 d3).2.2.1=(q4 d54).2.2.1∧(q4 d3).2.2.2.1=(q4 d54).2.2.2.1∧(q4 (q4 d3)).1=(q4 (q4 d54)).1∧(q4 (q4 d3)).2.1=(q4 (q4 d54)).2.1∧(q4 (q4 d3)).2.2.1=(q4 (q4 d54)).2.2.1∧(q4 (q4 d3)).2.2.2.1=(q4 (q4 d54)).2.2.2.1∧(([]:List SV)=[]))∧True))∧q3 d54)) ∧
     (y9=(3:Int) →
      (I64 ((q4 (q4 (q4 d3)))+(1:Int)))∧(∃ d55:QA,((sc=sc∧True∧True∧True∧True∧((q4 (q4 (q4 d3)))+(1:Int))=(q4 (q4 (q4 d55)))∧True)∧((Q0 h8)∧(Q5 h8 ws)∧(Q0 h8)∧(Q3 h8 rs)∧(Q4 h8 ws rs)∧(d3.1=d55.1∧d3.2.1=d55.2.1∧d3.2.2.1=d55.2.2.1∧((q4 d3).1+(1:Int))=d55.2.2.2.1∧(q4 d3).1=(q4 d55).1∧(q4 d3).2.1=(q4 d55).2.1∧(q4 d3).2.2.1=(q4 d55).2.2.1∧(q4 d3).2.2.2.1=(q4 d55).2.2.2.1∧(q4 (q4 d3)).1=(q4 (q4 d55)).1∧(q4 (q4 d3)).2.1=(q4 (q4 d55)).2.1∧(q4 (q4 d3)).2.2.1=(q4 (q4 d55)).2.2.1∧(q4 (q4 d3)).2.2.2.1=(q4 (q4 d55)).2.2.2.1∧(([]:List SV)=[]))∧True))∧q3 d55)) ∧
     (y9=(4:Int) →
      (I64 ((q4 (q4 (q4 d3)))+(1:Int)))∧(∃ d56:QA,((sc=sc∧True∧True∧True∧True∧((q4 (q4 (q4 d3)))+(1:Int))=(q4 (q4 (q4 d56)))∧True)∧((Q0 h8)∧(Q5 h8 ws)∧(Q0 h8)∧(Q3 h8 rs)∧(Q4 h8 ws rs)∧(d3.1=d56.1∧d3.2.1=d56.2.1∧d3.2.2.1=d56.2.2.1∧d3.2.2.2.1=d56.2.2.2.1∧((q4 d3).1+(1:Int))=(q4 d56).1∧(q4 d3).2.1=(q4 d56).2.1∧(q4 d3).2.2.1=(q4 d56).2.2.1∧(q4 d3).2.2.2.1=(q4 d56).2.2.2.1∧(q4 (q4 d3)).1=(q4 (q4 d56)).1∧(q4 (q4 d3)).2.1=(q4 (q4 d56)).2.1∧(q4 (q4 d3)).2.2.1=(q4 (q4 d56)).2.2.1∧(q4 (q4 d3)).2.2.2.1=(q4 (q4 d56)).2.2.2.1∧(([]:List SV)=[]))∧True))∧q3 d56)) ∧
     (y9=(5:Int) →
      (I64 ((q4 (q4 (q4 d3)))+(1:Int)))∧(∃ d57:QA,((sc=sc∧True∧True∧True∧True∧((q4 (q4 (q4 d3)))+(1:Int))=(q4 (q4 (q4 d57)))∧True)∧((Q0 h8)∧(Q5 h8 ws)∧(Q0 h8)∧(Q3 h8 rs)∧(Q4 h8 ws rs)∧(d3.1=d57.1∧d3.2.1=d57.2.1∧d3.2.2.1=d57.2.2.1∧d3.2.2.2.1=d57.2.2.2.1∧(q4 d3).1=(q4 d57).1∧((q4 d3).1+(1:Int))=(q4 d57).2.1∧(q4 d3).2.2.1=(q4 d57).2.2.1∧(q4 d3).2.2.2.1=(q4 d57).2.2.2.1∧(q4 (q4 d3)).1=(q4 (q4 d57)).1∧(q4 (q4 d3)).2.1=(q4 (q4 d57)).2.1∧(q4 (q4 d3)).2.2.1=(q4 (q4 d57)).2.2.1∧(q4 (q4 d3)).2.2.2.1=(q4 (q4 d57)).2.2.2.1∧(([]:List SV)=[]))∧True))∧q3 d57)) ∧
     (y9=(6:Int) →
      (I64 ((q4 (q4 (q4 d3)))+(1:Int)))∧(∃ d58:QA,((sc=sc∧True∧True∧True∧True∧((q4 (q4 (q4 d3)))+(1:Int))=(q4 (q4 (q4 d58)))∧True)∧((Q0 h8)∧(Q5 h8 ws)∧(Q0 h8)∧(Q3 h8 rs)∧(Q4 h8 ws rs)∧(d3.1=d58.1∧d3.2.1=d58.2.1∧d3.2.2.1=d58.2.2.1∧d3.2.2.2.1=d58.2.2.2.1∧(q4 d3).1=(q4 d58).1∧(q4 d3).2.1=(q4 d58).2.1∧((q4 d3).1+(1:Int))=(q4 d58).2.2.1∧(q4 d3).2.2.2.1=(q4 d58).2.2.2.1∧(q4 (q4 d3)).1=(q4 (q4 d58)).1∧(q4 (q4 d3)).2.1=(q4 (q4 d58)).2.1∧(q4 (q4 d3)).2.2.1=(q4 (q4 d58)).2.2.1∧(q4 (q4 d3)).2.2.2.1=(q4 (q4 d58)).2.2.2.1∧(([]:List SV)=[]))∧True))∧q3 d58)) ∧
     (y9=(7:Int) →
      (I64 ((q4 (q4 (q4 d3)))+(1:Int)))∧(∃ d59:QA,((sc=sc∧True∧True∧True∧True∧((q4 (q4 (q4 d3)))+(1:Int))=(q4 (q4 (q4 d59)))∧True)∧((Q0 h8)∧(Q5 h8 ws)∧(Q0 h8)∧(Q3 h8 rs)∧(Q4 h8 ws rs)∧(d3.1=d59.1∧d3.2.1=d59.2.1∧d3.2.2.1=d59.2.2.1∧d3.2.2.2.1=d59.2.2.2.1∧(q4 d3).1=(q4 d59).1∧(q4 d3).2.1=(q4 d59).2.1∧(q4 d3).2.2.1=(q4 d59).2.2.1∧((q4 d3).1+(1:Int))=(q4 d59).2.2.2.1∧(q4 (q4 d3)).1=(q4 (q4 d59)).1∧(q4 (q4 d3)).2.1=(q4 (q4 d59)).2.1∧(q4 (q4 d3)).2.2.1=(q4 (q4 d59)).2.2.1∧(q4 (q4 d3)).2.2.2.1=(q4 (q4 d59)).2.2.2.1∧(([]:List SV)=[]))∧True))∧q3 d59)) ∧
     (y9=(8:Int) →
      (I64 ((q4 (q4 (q4 d3)))+(1:Int)))∧(∃ d60:QA,((sc=sc∧True∧True∧True∧True∧((q4 (q4 (q4 d3)))+(1:Int))=(q4 (q4 (q4 d60)))∧True)∧((Q0 h8)∧(Q5 h8 ws)∧(Q0 h8)∧(Q3 h8 rs)∧(Q4 h8 ws rs)∧(d3.1=d60.1∧d3.2.1=d60.2.1∧d3.2.2.1=d60.2.2.1∧d3.2.2.2.1=d60.2.2.2.1∧(q4 d3).1=(q4 d60).1∧(q4 d3).2.1=(q4 d60).2.1∧(q4 d3).2.2.1=(q4 d60).2.2.1∧(q4 d3).2.2.2.1=(q4 d60).2.2.2.1∧((q4 d3).1+(1:Int))=(q4 (q4 d60)).1∧(q4 (q4 d3)).2.1=(q4 (q4 d60)).2.1∧(q4 (q4 d3)).2.2.1=(q4 (q4 d60)).2.2.1∧(q4 (q4 d3)).2.2.2.1=(q4 (q4 d60)).2.2.2.1∧(([]:List SV)=[]))∧True))∧q3 d60)) ∧
     (y9=(9:Int) →
      (I64 ((q4 (q4 (q4 d3)))+(1:Int)))∧(∃ d61:QA,((sc=sc∧True∧True∧True∧True∧((q4 (q4 (q4 d3)))+(1:Int))=(q4 (q4 (q4 d61)))∧True)∧((Q0 h8)∧(Q5 h8 ws)∧(Q0 h8)∧(Q3 h8 rs)∧(Q4 h8 ws rs)∧(d3.1=d61.1∧d3.2.1=d61.2.1∧d3.2.2.1=d61.2.2.1∧d3.2.2.2.1=d61.2.2.2.1∧(q4 d3).1=(q4 d61).1∧(q4 d3).2.1=(q4 d61).2.1∧(q4 d3).2.2.1=(q4 d61).2.2.1∧(q4 d3).2.2.2.1=(q4 d61).2.2.2.1∧(q4 (q4 d3)).1=(q4 (q4 d61)).1∧((q4 d3).1+(1:Int))=(q4 (q4 d61)).2.1∧(q4 (q4 d3)).2.2.1=(q4 (q4 d61)).2.2.1∧(q4 (q4 d3)).2.2.2.1=(q4 (q4 d61)).2.2.2.1∧(([]:List SV)=[]))∧True))∧q3 d61)) ∧
     (y9=(10:Int) →
      (I64 ((q4 (q4 (q4 d3)))+(1:Int)))∧(∃ d62:QA,((sc=sc∧True∧True∧True∧True∧((q4 (q4 (q4 d3)))+(1:Int))=(q4 (q4 (q4 d62)))∧True)∧((Q0 h8)∧(Q5 h8 ws)∧(Q0 h8)∧(Q3 h8 rs)∧(Q4 h8 ws rs)∧(d3.1=d62.1∧d3.2.1=d62.2.1∧d3.2.2.1=d62.2.2.1∧d3.2.2.2.1=d62.2.2.2.1∧(q4 d3).1=(q4 d62).1∧(q4 d3).2.1=(q4 d62).2.1∧(q4 d3).2.2.1=(q4 d62).2.2.1∧(q4 d3).2.2.2.1=(q4 d62).2.2.2.1∧(q4 (q4 d3)).1=(q4 (q4 d62)).1∧(q4 (q4 d3)).2.1=(q4 (q4 d62)).2.1∧((q4 d3).1+(1:Int))=(q4 (q4 d62)).2.2.1∧(q4 (q4 d3)).2.2.2.1=(q4 (q4 d62)).2.2.2.1∧(([]:List SV)=[]))∧True))∧q3 d62)) ∧
     (y9=(11:Int) →
      (I64 ((q4 (q4 (q4 d3)))+(1:Int)))∧(∃ d63:QA,((sc=sc∧True∧True∧True∧True∧((q4 (q4 (q4 d3)))+(1:Int))=(q4 (q4 (q4 d63)))∧True)∧((Q0 h8)∧(Q5 h8 ws)∧(Q0 h8)∧(Q3 h8 rs)∧(Q4 h8 ws rs)∧(d3.1=d63.1∧d3.2.1=d63.2.1∧d3.2.2.1=d63.2.2.1∧d3.2.2.2.1=d63.2.2.2.1∧(q4 d3).1=(q4 d63).1∧(q4 d3).2.1=(q4 d63).2.1∧(q4 d3).2.2.1=(q4 d63).2.2.1∧(q4 d3).2.2.2.1=(q4 d63).2.2.2.1∧(q4 (q4 d3)).1=(q4 (q4 d63)).1∧(q4 (q4 d3)).2.1=(q4 (q4 d63)).2.1∧(q4 (q4 d3)).2.2.1=(q4 (q4 d63)).2.2.1∧((q4 d3).1+(1:Int))=(q4 (q4 d63)).2.2.2.1∧(([]:List SV)=[]))∧True))∧q3 d63)) ∧
     True) ∧
    (y9=(5:Int) →
     (I64 ((q4 d3).2.1+(1:Int)))∧(0≤y9)∧(y9<(12:Int)) ∧
     (y9=(0:Int) →
      (I64 ((q4 (q4 (q4 d3)))+(1:Int)))∧(∃ d64:QA,((sc=sc∧True∧True∧True∧True∧((q4 (q4 (q4 d3)))+(1:Int))=(q4 (q4 (q4 d64)))∧True)∧((Q0 h8)∧(Q5 h8 ws)∧(Q0 h8)∧(Q3 h8 rs)∧(Q4 h8 ws rs)∧(((q4 d3).2.1+(1:Int))=d64.1∧d3.2.1=d64.2.1∧d3.2.2.1=d64.2.2.1∧d3.2.2.2.1=d64.2.2.2.1∧(q4 d3).1=(q4 d64).1∧(q4 d3).2.1=(q4 d64).2.1∧(q4 d3).2.2.1=(q4 d64).2.2.1∧(q4 d3).2.2.2.1=(q4 d64).2.2.2.1∧(q4 (q4 d3)).1=(q4 (q4 d64)).1∧(q4 (q4 d3)).2.1=(q4 (q4 d64)).2.1∧(q4 (q4 d3)).2.2.1=(q4 (q4 d64)).2.2.1∧(q4 (q4 d3)).2.2.2.1=(q4 (q4 d64)).2.2.2.1∧(([]:List SV)=[]))∧True))∧q3 d64)) ∧
     (y9=(1:Int) →
      (I64 ((q4 (q4 (q4 d3)))+(1:Int)))∧(∃ d65:QA,((sc=sc∧True∧True∧True∧True∧((q4 (q4 (q4 d3)))+(1:Int))=(q4 (q4 (q4 d65)))∧True)∧((Q0 h8)∧(Q5 h8 ws)∧(Q0 h8)∧(Q3 h8 rs)∧(Q4 h8 ws rs)∧(d3.1=d65.1∧((q4 d3).2.1+(1:Int))=d65.2.1∧d3.2.2.1=d65.2.2.1∧d3.2.2.2.1=d65.2.2.2.1∧(q4 d3).1=(q4 d65).1∧(q4 d3).2.1=(q4 d65).2.1∧(q4 d3).2.2.1=(q4 d65).2.2.1∧(q4 d3).2.2.2.1=(q4 d65).2.2.2.1∧(q4 (q4 d3)).1=(q4 (q4 d65)).1∧(q4 (q4 d3)).2.1=(q4 (q4 d65)).2.1∧(q4 (q4 d3)).2.2.1=(q4 (q4 d65)).2.2.1∧(q4 (q4 d3)).2.2.2.1=(q4 (q4 d65)).2.2.2.1∧(([]:List SV)=[]))∧True))∧q3 d65)) ∧
     (y9=(2:Int) →
      (I64 ((q4 (q4 (q4 d3)))+(1:Int)))∧(∃ d66:QA,((sc=sc∧True∧True∧True∧True∧((q4 (q4 (q4 d3)))+(1:Int))=(q4 (q4 (q4 d66)))∧True)∧((Q0 h8)∧(Q5 h8 ws)∧(Q0 h8)∧(Q3 h8 rs)∧(Q4 h8 ws rs)∧(d3.1=d66.1∧d3.2.1=d66.2.1∧((q4 d3).2.1+(1:Int))=d66.2.2.1∧d3.2.2.2.1=d66.2.2.2.1∧(q4 d3).1=(q4 d66).1∧(q4 d3).2.1=(q4 d66).2.1∧(q4 d3).2.2.1=(q4 d66).2.2.1∧(q4 d3).2.2.2.1=(q4 d66).2.2.2.1∧(q4 (q4 d3)).1=(q4 (q4 d66)).1∧(q4 (q4 d3)).2.1=(q4 (q4 d66)).2.1∧(q4 (q4 d3)).2.2.1=(q4 (q4 d66)).2.2.1∧(q4 (q4 d3)).2.2.2.1=(q4 (q4 d66)).2.2.2.1∧(([]:List SV)=[]))∧True))∧q3 d66)) ∧
     (y9=(3:Int) →
      (I64 ((q4 (q4 (q4 d3)))+(1:Int)))∧(∃ d67:QA,((sc=sc∧True∧True∧True∧True∧((q4 (q4 (q4 d3)))+(1:Int))=(q4 (q4 (q4 d67)))∧True)∧((Q0 h8)∧(Q5 h8 ws)∧(Q0 h8)∧(Q3 h8 rs)∧(Q4 h8 ws rs)∧(d3.1=d67.1∧d3.2.1=d67.2.1∧d3.2.2.1=d67.2.2.1∧((q4 d3).2.1+(1:Int))=d67.2.2.2.1∧(q4 d3).1=(q4 d67).1∧(q4 d3).2.1=(q4 d67).2.1∧(q4 d3).2.2.1=(q4 d67).2.2.1∧(q4 d3).2.2.2.1=(q4 d67).2.2.2.1∧(q4 (q4 d3)).1=(q4 (q4 d67)).1∧(q4 (q4 d3)).2.1=(q4 (q4 d67)).2.1∧(q4 (q4 d3)).2.2.1=(q4 (q4 d67)).2.2.1∧(q4 (q4 d3)).2.2.2.1=(q4 (q4 d67)).2.2.2.1∧(([]:List SV)=[]))∧True))∧q3 d67)) ∧
     (y9=(4:Int) →
      (I64 ((q4 (q4 (q4 d3)))+(1:Int)))∧(∃ d68:QA,((sc=sc∧True∧True∧True∧True∧((q4 (q4 (q4 d3)))+(1:Int))=(q4 (q4 (q4 d68)))∧True)∧((Q0 h8)∧(Q5 h8 ws)∧(Q0 h8)∧(Q3 h8 rs)∧(Q4 h8 ws rs)∧(d3.1=d68.1∧d3.2.1=d68.2.1∧d3.2.2.1=d68.2.2.1∧d3.2.2.2.1=d68.2.2.2.1∧((q4 d3).2.1+(1:Int))=(q4 d68).1∧(q4 d3).2.1=(q4 d68).2.1∧(q4 d3).2.2.1=(q4 d68).2.2.1∧(q4 d3).2.2.2.1=(q4 d68).2.2.2.1∧(q4 (q4 d3)).1=(q4 (q4 d68)).1∧(q4 (q4 d3)).2.1=(q4 (q4 d68)).2.1∧(q4 (q4 d3)).2.2.1=(q4 (q4 d68)).2.2.1∧(q4 (q4 d3)).2.2.2.1=(q4 (q4 d68)).2.2.2.1∧(([]:List SV)=[]))∧True))∧q3 d68)) ∧
     (y9=(5:Int) →
      (I64 ((q4 (q4 (q4 d3)))+(1:Int)))∧(∃ d69:QA,((sc=sc∧True∧True∧True∧True∧((q4 (q4 (q4 d3)))+(1:Int))=(q4 (q4 (q4 d69)))∧True)∧((Q0 h8)∧(Q5 h8 ws)∧(Q0 h8)∧(Q3 h8 rs)∧(Q4 h8 ws rs)∧(d3.1=d69.1∧d3.2.1=d69.2.1∧d3.2.2.1=d69.2.2.1∧d3.2.2.2.1=d69.2.2.2.1∧(q4 d3).1=(q4 d69).1∧((q4 d3).2.1+(1:Int))=(q4 d69).2.1∧(q4 d3).2.2.1=(q4 d69).2.2.1∧(q4 d3).2.2.2.1=(q4 d69).2.2.2.1∧(q4 (q4 d3)).1=(q4 (q4 d69)).1∧(q4 (q4 d3)).2.1=(q4 (q4 d69)).2.1∧(q4 (q4 d3)).2.2.1=(q4 (q4 d69)).2.2.1∧(q4 (q4 d3)).2.2.2.1=(q4 (q4 d69)).2.2.2.1∧(([]:List SV)=[]))∧True))∧q3 d69)) ∧
     (y9=(6:Int) →
      (I64 ((q4 (q4 (q4 d3)))+(1:Int)))∧(∃ d70:QA,((sc=sc∧True∧True∧True∧True∧((q4 (q4 (q4 d3)))+(1:Int))=(q4 (q4 (q4 d70)))∧True)∧((Q0 h8)∧(Q5 h8 ws)∧(Q0 h8)∧(Q3 h8 rs)∧(Q4 h8 ws rs)∧(d3.1=d70.1∧d3.2.1=d70.2.1∧d3.2.2.1=d70.2.2.1∧d3.2.2.2.1=d70.2.2.2.1∧(q4 d3).1=(q4 d70).1∧(q4 d3).2.1=(q4 d70).2.1∧((q4 d3).2.1+(1:Int))=(q4 d70).2.2.1∧(q4 d3).2.2.2.1=(q4 d70).2.2.2.1∧(q4 (q4 d3)).1=(q4 (q4 d70)).1∧(q4 (q4 d3)).2.1=(q4 (q4 d70)).2.1∧(q4 (q4 d3)).2.2.1=(q4 (q4 d70)).2.2.1∧(q4 (q4 d3)).2.2.2.1=(q4 (q4 d70)).2.2.2.1∧(([]:List SV)=[]))∧True))∧q3 d70)) ∧
     (y9=(7:Int) →
      (I64 ((q4 (q4 (q4 d3)))+(1:Int)))∧(∃ d71:QA,((sc=sc∧True∧True∧True∧True∧((q4 (q4 (q4 d3)))+(1:Int))=(q4 (q4 (q4 d71)))∧True)∧((Q0 h8)∧(Q5 h8 ws)∧(Q0 h8)∧(Q3 h8 rs)∧(Q4 h8 ws rs)∧(d3.1=d71.1∧d3.2.1=d71.2.1∧d3.2.2.1=d71.2.2.1∧d3.2.2.2.1=d71.2.2.2.1∧(q4 d3).1=(q4 d71).1∧(q4 d3).2.1=(q4 d71).2.1∧(q4 d3).2.2.1=(q4 d71).2.2.1∧((q4 d3).2.1+(1:Int))=(q4 d71).2.2.2.1∧(q4 (q4 d3)).1=(q4 (q4 d71)).1∧(q4 (q4 d3)).2.1=(q4 (q4 d71)).2.1∧(q4 (q4 d3)).2.2.1=(q4 (q4 d71)).2.2.1∧(q4 (q4 d3)).2.2.2.1=(q4 (q4 d71)).2.2.2.1∧(([]:List SV)=[]))∧True))∧q3 d71)) ∧
     (y9=(8:Int) →
      (I64 ((q4 (q4 (q4 d3)))+(1:Int)))∧(∃ d72:QA,((sc=sc∧True∧True∧True∧True∧((q4 (q4 (q4 d3)))+(1:Int))=(q4 (q4 (q4 d72)))∧True)∧((Q0 h8)∧(Q5 h8 ws)∧(Q0 h8)∧(Q3 h8 rs)∧(Q4 h8 ws rs)∧(d3.1=d72.1∧d3.2.1=d72.2.1∧d3.2.2.1=d72.2.2.1∧d3.2.2.2.1=d72.2.2.2.1∧(q4 d3).1=(q4 d72).1∧(q4 d3).2.1=(q4 d72).2.1∧(q4 d3).2.2.1=(q4 d72).2.2.1∧(q4 d3).2.2.2.1=(q4 d72).2.2.2.1∧((q4 d3).2.1+(1:Int))=(q4 (q4 d72)).1∧(q4 (q4 d3)).2.1=(q4 (q4 d72)).2.1∧(q4 (q4 d3)).2.2.1=(q4 (q4 d72)).2.2.1∧(q4 (q4 d3)).2.2.2.1=(q4 (q4 d72)).2.2.2.1∧(([]:List SV)=[]))∧True))∧q3 d72)) ∧
     (y9=(9:Int) →
      (I64 ((q4 (q4 (q4 d3)))+(1:Int)))∧(∃ d73:QA,((sc=sc∧True∧True∧True∧True∧((q4 (q4 (q4 d3)))+(1:Int))=(q4 (q4 (q4 d73)))∧True)∧((Q0 h8)∧(Q5 h8 ws)∧(Q0 h8)∧(Q3 h8 rs)∧(Q4 h8 ws rs)∧(d3.1=d73.1∧d3.2.1=d73.2.1∧d3.2.2.1=d73.2.2.1∧d3.2.2.2.1=d73.2.2.2.1∧(q4 d3).1=(q4 d73).1∧(q4 d3).2.1=(q4 d73).2.1∧(q4 d3).2.2.1=(q4 d73).2.2.1∧(q4 d3).2.2.2.1=(q4 d73).2.2.2.1∧(q4 (q4 d3)).1=(q4 (q4 d73)).1∧((q4 d3).2.1+(1:Int))=(q4 (q4 d73)).2.1∧(q4 (q4 d3)).2.2.1=(q4 (q4 d73)).2.2.1∧(q4 (q4 d3)).2.2.2.1=(q4 (q4 d73)).2.2.2.1∧(([]:List SV)=[]))∧True))∧q3 d73)) ∧
     (y9=(10:Int) →
      (I64 ((q4 (q4 (q4 d3)))+(1:Int)))∧(∃ d74:QA,((sc=sc∧True∧True∧True∧True∧((q4 (q4 (q4 d3)))+(1:Int))=(q4 (q4 (q4 d74)))∧True)∧((Q0 h8)∧(Q5 h8 ws)∧(Q0 h8)∧(Q3 h8 rs)∧(Q4 h8 ws rs)∧(d3.1=d74.1∧d3.2.1=d74.2.1∧d3.2.2.1=d74.2.2.1∧d3.2.2.2.1=d74.2.2.2.1∧(q4 d3).1=(q4 d74).1∧(q4 d3).2.1=(q4 d74).2.1∧(q4 d3).2.2.1=(q4 d74).2.2.1∧(q4 d3).2.2.2.1=(q4 d74).2.2.2.1∧(q4 (q4 d3)).1=(q4 (q4 d74)).1∧(q4 (q4 d3)).2.1=(q4 (q4 d74)).2.1∧((q4 d3).2.1+(1:Int))=(q4 (q4 d74)).2.2.1∧(q4 (q4 d3)).2.2.2.1=(q4 (q4 d74)).2.2.2.1∧(([]:List SV)=[]))∧True))∧q3 d74)) ∧
     (y9=(11:Int) →
      (I64 ((q4 (q4 (q4 d3)))+(1:Int)))∧(∃ d75:QA,((sc=sc∧True∧True∧True∧True∧((q4 (q4 (q4 d3)))+(1:Int))=(q4 (q4 (q4 d75)))∧True)∧((Q0 h8)∧(Q5 h8 ws)∧(Q0 h8)∧(Q3 h8 rs)∧(Q4 h8 ws rs)∧(d3.1=d75.1∧d3.2.1=d75.2.1∧d3.2.2.1=d75.2.2.1∧d3.2.2.2.1=d75.2.2.2.1∧(q4 d3).1=(q4 d75).1∧(q4 d3).2.1=(q4 d75).2.1∧(q4 d3).2.2.1=(q4 d75).2.2.1∧(q4 d3).2.2.2.1=(q4 d75).2.2.2.1∧(q4 (q4 d3)).1=(q4 (q4 d75)).1∧(q4 (q4 d3)).2.1=(q4 (q4 d75)).2.1∧(q4 (q4 d3)).2.2.1=(q4 (q4 d75)).2.2.1∧((q4 d3).2.1+(1:Int))=(q4 (q4 d75)).2.2.2.1∧(([]:List SV)=[]))∧True))∧q3 d75)) ∧
     True) ∧
    (y9=(6:Int) →
     (I64 ((q4 d3).2.2.1+(1:Int)))∧(0≤y9)∧(y9<(12:Int)) ∧
     (y9=(0:Int) →
      (I64 ((q4 (q4 (q4 d3)))+(1:Int)))∧(∃ d76:QA,((sc=sc∧True∧True∧True∧True∧((q4 (q4 (q4 d3)))+(1:Int))=(q4 (q4 (q4 d76)))∧True)∧((Q0 h8)∧(Q5 h8 ws)∧(Q0 h8)∧(Q3 h8 rs)∧(Q4 h8 ws rs)∧(((q4 d3).2.2.1+(1:Int))=d76.1∧d3.2.1=d76.2.1∧d3.2.2.1=d76.2.2.1∧d3.2.2.2.1=d76.2.2.2.1∧(q4 d3).1=(q4 d76).1∧(q4 d3).2.1=(q4 d76).2.1∧(q4 d3).2.2.1=(q4 d76).2.2.1∧(q4 d3).2.2.2.1=(q4 d76).2.2.2.1∧(q4 (q4 d3)).1=(q4 (q4 d76)).1∧(q4 (q4 d3)).2.1=(q4 (q4 d76)).2.1∧(q4 (q4 d3)).2.2.1=(q4 (q4 d76)).2.2.1∧(q4 (q4 d3)).2.2.2.1=(q4 (q4 d76)).2.2.2.1∧(([]:List SV)=[]))∧True))∧q3 d76)) ∧
     (y9=(1:Int) →
      (I64 ((q4 (q4 (q4 d3)))+(1:Int)))∧(∃ d77:QA,((sc=sc∧True∧True∧True∧True∧((q4 (q4 (q4 d3)))+(1:Int))=(q4 (q4 (q4 d77)))∧True)∧((Q0 h8)∧(Q5 h8 ws)∧(Q0 h8)∧(Q3 h8 rs)∧(Q4 h8 ws rs)∧(d3.1=d77.1∧((q4 d3).2.2.1+(1:Int))=d77.2.1∧d3.2.2.1=d77.2.2.1∧d3.2.2.2.1=d77.2.2.2.1∧(q4 d3).1=(q4 d77).1∧(q4 d3).2.1=(q4 d77).2.1∧(q4 d3).2.2.1=(q4 d77).2.2.1∧(q4 d3).2.2.2.1=(q4 d77).2.2.2.1∧(q4 (q4 d3)).1=(q4 (q4 d77)).1∧(q4 (q4 d3)).2.1=(q4 (q4 d77)).2.1∧(q4 (q4 d3)).2.2.1=(q4 (q4 d77)).2.2.1∧(q4 (q4 d3)).2.2.2.1=(q4 (q4 d77)).2.2.2.1∧(([]:List SV)=[]))∧True))∧q3 d77)) ∧
     (y9=(2:Int) →
      (I64 ((q4 (q4 (q4 d3)))+(1:Int)))∧(∃ d78:QA,((sc=sc∧True∧True∧True∧True∧((q4 (q4 (q4 d3)))+(1:Int))=(q4 (q4 (q4 d78)))∧True)∧((Q0 h8)∧(Q5 h8 ws)∧(Q0 h8)∧(Q3 h8 rs)∧(Q4 h8 ws rs)∧(d3.1=d78.1∧d3.2.1=d78.2.1∧((q4 d3).2.2.1+(1:Int))=d78.2.2.1∧d3.2.2.2.1=d78.2.2.2.1∧(q4 d3).1=(q4 d78).1∧(q4 d3).2.1=(q4 d78).2.1∧(q4 d3).2.2.1=(q4 d78).2.2.1∧(q4 d3).2.2.2.1=(q4 d78).2.2.2.1∧(q4 (q4 d3)).1=(q4 (q4 d78)).1∧(q4 (q4 d3)).2.1=(q4 (q4 d78)).2.1∧(q4 (q4 d3)).2.2.1=(q4 (q4 d78)).2.2.1∧(q4 (q4 d3)).2.2.2.1=(q4 (q4 d78)).2.2.2.1∧(([]:List SV)=[]))∧True))∧q3 d78)) ∧
     (y9=(3:Int) →
      (I64 ((q4 (q4 (q4 d3)))+(1:Int)))∧(∃ d79:QA,((sc=sc∧True∧True∧True∧True∧((q4 (q4 (q4 d3)))+(1:Int))=(q4 (q4 (q4 d79)))∧True)∧((Q0 h8)∧(Q5 h8 ws)∧(Q0 h8)∧(Q3 h8 rs)∧(Q4 h8 ws rs)∧(d3.1=d79.1∧d3.2.1=d79.2.1∧d3.2.2.1=d79.2.2.1∧((q4 d3).2.2.1+(1:Int))=d79.2.2.2.1∧(q4 d3).1=(q4 d79).1∧(q4 d3).2.1=(q4 d79).2.1∧(q4 d3).2.2.1=(q4 d79).2.2.1∧(q4 d3).2.2.2.1=(q4 d79).2.2.2.1∧(q4 (q4 d3)).1=(q4 (q4 d79)).1∧(q4 (q4 d3)).2.1=(q4 (q4 d79)).2.1∧(q4 (q4 d3)).2.2.1=(q4 (q4 d79)).2.2.1∧(q4 (q4 d3)).2.2.2.1=(q4 (q4 d79)).2.2.2.1∧(([]:List SV)=[]))∧True))∧q3 d79)) ∧
     (y9=(4:Int) →
      (I64 ((q4 (q4 (q4 d3)))+(1:Int)))∧(∃ d80:QA,((sc=sc∧True∧True∧True∧True∧((q4 (q4 (q4 d3)))+(1:Int))=(q4 (q4 (q4 d80)))∧True)∧((Q0 h8)∧(Q5 h8 ws)∧(Q0 h8)∧(Q3 h8 rs)∧(Q4 h8 ws rs)∧(d3.1=d80.1∧d3.2.1=d80.2.1∧d3.2.2.1=d80.2.2.1∧d3.2.2.2.1=d80.2.2.2.1∧((q4 d3).2.2.1+(1:Int))=(q4 d80).1∧(q4 d3).2.1=(q4 d80).2.1∧(q4 d3).2.2.1=(q4 d80).2.2.1∧(q4 d3).2.2.2.1=(q4 d80).2.2.2.1∧(q4 (q4 d3)).1=(q4 (q4 d80)).1∧(q4 (q4 d3)).2.1=(q4 (q4 d80)).2.1∧(q4 (q4 d3)).2.2.1=(q4 (q4 d80)).2.2.1∧(q4 (q4 d3)).2.2.2.1=(q4 (q4 d80)).2.2.2.1∧(([]:List SV)=[]))∧True))∧q3 d80)) ∧
     (y9=(5:Int) →
      (I64 ((q4 (q4 (q4 d3)))+(1:Int)))∧(∃ d81:QA,((sc=sc∧True∧True∧True∧True∧((q4 (q4 (q4 d3)))+(1:Int))=(q4 (q4 (q4 d81)))∧True)∧((Q0 h8)∧(Q5 h8 ws)∧(Q0 h8)∧(Q3 h8 rs)∧(Q4 h8 ws rs)∧(d3.1=d81.1∧d3.2.1=d81.2.1∧d3.2.2.1=d81.2.2.1∧d3.2.2.2.1=d81.2.2.2.1∧(q4 d3).1=(q4 d81).1∧((q4 d3).2.2.1+(1:Int))=(q4 d81).2.1∧(q4 d3).2.2.1=(q4 d81).2.2.1∧(q4 d3).2.2.2.1=(q4 d81).2.2.2.1∧(q4 (q4 d3)).1=(q4 (q4 d81)).1∧(q4 (q4 d3)).2.1=(q4 (q4 d81)).2.1∧(q4 (q4 d3)).2.2.1=(q4 (q4 d81)).2.2.1∧(q4 (q4 d3)).2.2.2.1=(q4 (q4 d81)).2.2.2.1∧(([]:List SV)=[]))∧True))∧q3 d81)) ∧
     (y9=(6:Int) →
      (I64 ((q4 (q4 (q4 d3)))+(1:Int)))∧(∃ d82:QA,((sc=sc∧True∧True∧True∧True∧((q4 (q4 (q4 d3)))+(1:Int))=(q4 (q4 (q4 d82)))∧True)∧((Q0 h8)∧(Q5 h8 ws)∧(Q0 h8)∧(Q3 h8 rs)∧(Q4 h8 ws rs)∧(d3.1=d82.1∧d3.2.1=d82.2.1∧d3.2.2.1=d82.2.2.1∧d3.2.2.2.1=d82.2.2.2.1∧(q4 d3).1=(q4 d82).1∧(q4 d3).2.1=(q4 d82).2.1∧((q4 d3).2.2.1+(1:Int))=(q4 d82).2.2.1∧(q4 d3).2.2.2.1=(q4 d82).2.2.2.1∧(q4 (q4 d3)).1=(q4 (q4 d82)).1∧(q4 (q4 d3)).2.1=(q4 (q4 d82)).2.1∧(q4 (q4 d3)).2.2.1=(q4 (q4 d82)).2.2.1∧(q4 (q4 d3)).2.2.2.1=(q4 (q4 d82)).2.2.2.1∧(([]:List SV)=[]))∧True))∧q3 d82)) ∧
     (y9=(7:Int) →
      (I64 ((q4 (q4 (q4 d3)))+(1:Int)))∧(∃ d83:QA,((sc=sc∧True∧True∧True∧True∧((q4 (q4 (q4 d3)))+(1:Int))=(q4 (q4 (q4 d83)))∧True)∧((Q0 h8)∧(Q5 h8 ws)∧(Q0 h8)∧(Q3 h8 rs)∧(Q4 h8 ws rs)∧(d3.1=d83.1∧d3.2.1=d83.2.1∧d3.2.2.1=d83.2.2.1∧d3.2.2.2.1=d83.2.2.2.1∧(q4 d3).1=(q4 d83).1∧(q4 d3).2.1=(q4 d83).2.1∧(q4 d3).2.2.1=(q4 d83).2.2.1∧((q4 d3).2.2.1+(1:Int))=(q4 d83).2.2.2.1∧(q4 (q4 d3)).1=(q4 (q4 d83)).1∧(q4 (q4 d3)).2.1=(q4 (q4 d83)).2.1∧(q4 (q4 d3)).2.2.1=(q4 (q4 d83)).2.2.1∧(q4 (q4 d3)).2.2.2.1=(q4 (q4 d83)).2.2.2.1∧(([]:List SV)=[]))∧True))∧q3 d83)) ∧
     (y9=(8:Int) →
      (I64 ((q4 (q4 (q4 d3)))+(1:Int)))∧(∃ d84:QA,((sc=sc∧True∧True∧True∧True∧((q4 (q4 (q4 d3)))+(1:Int))=(q4 (q4 (q4 d84)))∧True)∧((Q0 h8)∧(Q5 h8 ws)∧(Q0 h8)∧(Q3 h8 rs)∧(Q4 h8 ws rs)∧(d3.1=d84.1∧d3.2.1=d84.2.1∧d3.2.2.1=d84.2.2.1∧d3.2.2.2.1=d84.2.2.2.1∧(q4 d3).1=(q4 d84).1∧(q4 d3).2.1=(q4 d84).2.1∧(q4 d3).2.2.1=(q4 d84).2.2.1∧(q4 d3).2.2.2.1=(q4 d84).2.2.2.1∧((q4 d3).2.2.1+(1:Int))=(q4 (q4 d84)).1∧(q4 (q4 d3)).2.1=(q4 (q4 d84)).2.1∧(q4 (q4 d3)).2.2.1=(q4 (q4 d84)).2.2.1∧(q4 (q4 d3)).2.2.2.1=(q4 (q4 d84)).2.2.2.1∧(([]:List SV)=[]))∧True))∧q3 d84)) ∧
     (y9=(9:Int) →
      (I64 ((q4 (q4 (q4 d3)))+(1:Int)))∧(∃ d85:QA,((sc=sc∧True∧True∧True∧True∧((q4 (q4 (q4 d3)))+(1:Int))=(q4 (q4 (q4 d85)))∧True)∧((Q0 h8)∧(Q5 h8 ws)∧(Q0 h8)∧(Q3 h8 rs)∧(Q4 h8 ws rs)∧(d3.1=d85.1∧d3.2.1=d85.2.1∧d3.2.2.1=d85.2.2.1∧d3.2.2.2.1=d85.2.2.2.1∧(q4 d3).1=(q4 d85).1∧(q4 d3).2.1=(q4 d85).2.1∧(q4 d3).2.2.1=(q4 d85).2.2.1∧(q4 d3).2.2.2.1=(q4 d85).2.2.2.1∧(q4 (q4 d3)).1=(q4 (q4 d85)).1∧((q4 d3).2.2.1+(1:Int))=(q4 (q4 d85)).2.1∧(q4 (q4 d3)).2.2.1=(q4 (q4 d85)).2.2.1∧(q4 (q4 d3)).2.2.2.1=(q4 (q4 d85)).2.2.2.1∧(([]:List SV)=[]))∧True))∧q3 d85)) ∧
     (y9=(10:Int) →
      (I64 ((q4 (q4 (q4 d3)))+(1:Int)))∧(∃ d86:QA,((sc=sc∧True∧True∧True∧True∧((q4 (q4 (q4 d3)))+(1:Int))=(q4 (q4 (q4 d86)))∧True)∧((Q0 h8)∧(Q5 h8 ws)∧(Q0 h8)∧(Q3 h8 rs)∧(Q4 h8 ws rs)∧(d3.1=d86.1∧d3.2.1=d86.2.1∧d3.2.2.1=d86.2.2.1∧d3.2.2.2.1=d86.2.2.2.1∧(q4 d3).1=(q4 d86).1∧(q4 d3).2.1=(q4 d86).2.1∧(q4 d3).2.2.1=(q4 d86).2.2.1∧(q4 d3).2.2.2.1=(q4 d86).2.2.2.1∧(q4 (q4 d3)).1=(q4 (q4 d86)).1∧(q4 (q4 d3)).2.1=(q4 (q4 d86)).2.1∧((q4 d3).2.2.1+(1:Int))=(q4 (q4 d86)).2.2.1∧(q4 (q4 d3)).2.2.2.1=(q4 (q4 d86)).2.2.2.1∧(([]:List SV)=[]))∧True))∧q3 d86)) ∧
     (y9=(11:Int) →
      (I64 ((q4 (q4 (q4 d3)))+(1:Int)))∧(∃ d87:QA,((sc=sc∧True∧True∧True∧True∧((q4 (q4 (q4 d3)))+(1:Int))=(q4 (q4 (q4 d87)))∧True)∧((Q0 h8)∧(Q5 h8 ws)∧(Q0 h8)∧(Q3 h8 rs)∧(Q4 h8 ws rs)∧(d3.1=d87.1∧d3.2.1=d87.2.1∧d3.2.2.1=d87.2.2.1∧d3.2.2.2.1=d87.2.2.2.1∧(q4 d3).1=(q4 d87).1∧(q4 d3).2.1=(q4 d87).2.1∧(q4 d3).2.2.1=(q4 d87).2.2.1∧(q4 d3).2.2.2.1=(q4 d87).2.2.2.1∧(q4 (q4 d3)).1=(q4 (q4 d87)).1∧(q4 (q4 d3)).2.1=(q4 (q4 d87)).2.1∧(q4 (q4 d3)).2.2.1=(q4 (q4 d87)).2.2.1∧((q4 d3).2.2.1+(1:Int))=(q4 (q4 d87)).2.2.2.1∧(([]:List SV)=[]))∧True))∧q3 d87)) ∧
     True) ∧
    (y9=(7:Int) →
     (I64 ((q4 d3).2.2.2.1+(1:Int)))∧(0≤y9)∧(y9<(12:Int)) ∧
     (y9=(0:Int) →
      (I64 ((q4 (q4 (q4 d3)))+(1:Int)))∧(∃ d88:QA,((sc=sc∧True∧True∧True∧True∧((q4 (q4 (q4 d3)))+(1:Int))=(q4 (q4 (q4 d88)))∧True)∧((Q0 h8)∧(Q5 h8 ws)∧(Q0 h8)∧(Q3 h8 rs)∧(Q4 h8 ws rs)∧(((q4 d3).2.2.2.1+(1:Int))=d88.1∧d3.2.1=d88.2.1∧d3.2.2.1=d88.2.2.1∧d3.2.2.2.1=d88.2.2.2.1∧(q4 d3).1=(q4 d88).1∧(q4 d3).2.1=(q4 d88).2.1∧(q4 d3).2.2.1=(q4 d88).2.2.1∧(q4 d3).2.2.2.1=(q4 d88).2.2.2.1∧(q4 (q4 d3)).1=(q4 (q4 d88)).1∧(q4 (q4 d3)).2.1=(q4 (q4 d88)).2.1∧(q4 (q4 d3)).2.2.1=(q4 (q4 d88)).2.2.1∧(q4 (q4 d3)).2.2.2.1=(q4 (q4 d88)).2.2.2.1∧(([]:List SV)=[]))∧True))∧q3 d88)) ∧
     (y9=(1:Int) →
      (I64 ((q4 (q4 (q4 d3)))+(1:Int)))∧(∃ d89:QA,((sc=sc∧True∧True∧True∧True∧((q4 (q4 (q4 d3)))+(1:Int))=(q4 (q4 (q4 d89)))∧True)∧((Q0 h8)∧(Q5 h8 ws)∧(Q0 h8)∧(Q3 h8 rs)∧(Q4 h8 ws rs)∧(d3.1=d89.1∧((q4 d3).2.2.2.1+(1:Int))=d89.2.1∧d3.2.2.1=d89.2.2.1∧d3.2.2.2.1=d89.2.2.2.1∧(q4 d3).1=(q4 d89).1∧(q4 d3).2.1=(q4 d89).2.1∧(q4 d3).2.2.1=(q4 d89).2.2.1∧(q4 d3).2.2.2.1=(q4 d89).2.2.2.1∧(q4 (q4 d3)).1=(q4 (q4 d89)).1∧(q4 (q4 d3)).2.1=(q4 (q4 d89)).2.1∧(q4 (q4 d3)).2.2.1=(q4 (q4 d89)).2.2.1∧(q4 (q4 d3)).2.2.2.1=(q4 (q4 d89)).2.2.2.1∧(([]:List SV)=[]))∧True))∧q3 d89)) ∧
     (y9=(2:Int) →
      (I64 ((q4 (q4 (q4 d3)))+(1:Int)))∧(∃ d90:QA,((sc=sc∧True∧True∧True∧True∧((q4 (q4 (q4 d3)))+(1:Int))=(q4 (q4 (q4 d90)))∧True)∧((Q0 h8)∧(Q5 h8 ws)∧(Q0 h8)∧(Q3 h8 rs)∧(Q4 h8 ws rs)∧(d3.1=d90.1∧d3.2.1=d90.2.1∧((q4 d3).2.2.2.1+(1:Int))=d90.2.2.1∧d3.2.2.2.1=d90.2.2.2.1∧(q4 d3).1=(q4 d90).1∧(q4 d3).2.1=(q4 d90).2.1∧(q4 d3).2.2.1=(q4 d90).2.2.1∧(q4 d3).2.2.2.1=(q4 d90).2.2.2.1∧(q4 (q4 d3)).1=(q4 (q4 d90)).1∧(q4 (q4 d3)).2.1=(q4 (q4 d90)).2.1∧(q4 (q4 d3)).2.2.1=(q4 (q4 d90)).2.2.1∧(q4 (q4 d3)).2.2.2.1=(q4 (q4 d90)).2.2.2.1∧(([]:List SV)=[]))∧True))∧q3 d90)) ∧
     (y9=(3:Int) →
      (I64 ((q4 (q4 (q4 d3)))+(1:Int)))∧(∃ d91:QA,((sc=sc∧True∧True∧True∧True∧((q4 (q4 (q4 d3)))+(1:Int))=(q4 (q4 (q4 d91)))∧True)∧((Q0 h8)∧(Q5 h8 ws)∧(Q0 h8)∧(Q3 h8 rs)∧(Q4 h8 ws rs)∧(d3.1=d91.1∧d3.2.1=d91.2.1∧d3.2.2.1=d91.2.2.1∧((q4 d3).2.2.2.1+(1:Int))=d91.2.2.2.1∧(q4 d3).1=(q4 d91).1∧(q4 d3).2.1=(q4 d91).2.1∧(q4 d3).2.2.1=(q4 d91).2.2.1∧(q4 d3).2.2.2.1=(q4 d91).2.2.2.1∧(q4 (q4 d3)).1=(q4 (q4 d91)).1∧(q4 (q4 d3)).2.1=(q4 (q4 d91)).2.1∧(q4 (q4 d3)).2.2.1=(q4 (q4 d91)).2.2.1∧(q4 (q4 d3)).2.2.2.1=(q4 (q4 d91)).2.2.2.1∧(([]:List SV)=[]))∧True))∧q3 d91)) ∧
     (y9=(4:Int) →
      (I64 ((q4 (q4 (q4 d3)))+(1:Int)))∧(∃ d92:QA,((sc=sc∧True∧True∧True∧True∧((q4 (q4 (q4 d3)))+(1:Int))=(q4 (q4 (q4 d92)))∧True)∧((Q0 h8)∧(Q5 h8 ws)∧(Q0 h8)∧(Q3 h8 rs)∧(Q4 h8 ws rs)∧(d3.1=d92.1∧d3.2.1=d92.2.1∧d3.2.2.1=d92.2.2.1∧d3.2.2.2.1=d92.2.2.2.1∧((q4 d3).2.2.2.1+(1:Int))=(q4 d92).1∧(q4 d3).2.1=(q4 d92).2.1∧(q4 d3).2.2.1=(q4 d92).2.2.1∧(q4 d3).2.2.2.1=(q4 d92).2.2.2.1∧(q4 (q4 d3)).1=(q4 (q4 d92)).1∧(q4 (q4 d3)).2.1=(q4 (q4 d92)).2.1∧(q4 (q4 d3)).2.2.1=(q4 (q4 d92)).2.2.1∧(q4 (q4 d3)).2.2.2.1=(q4 (q4 d92)).2.2.2.1∧(([]:List SV)=[]))∧True))∧q3 d92)) ∧
     (y9=(5:Int) →
      (I64 ((q4 (q4 (q4 d3)))+(1:Int)))∧(∃ d93:QA,((sc=sc∧True∧True∧True∧True∧((q4 (q4 (q4 d3)))+(1:Int))=(q4 (q4 (q4 d93)))∧True)∧((Q0 h8)∧(Q5 h8 ws)∧(Q0 h8)∧(Q3 h8 rs)∧(Q4 h8 ws rs)∧(d3.1=d93.1∧d3.2.1=d93.2.1∧d3.2.2.1=d93.2.2.1∧d3.2.2.2.1=d93.2.2.2.1∧(q4 d3).1=(q4 d93).1∧((q4 d3).2.2.2.1+(1:Int))=(q4 d93).2.1∧(q4 d3).2.2.1=(q4 d93).2.2.1∧(q4 d3).2.2.2.1=(q4 d93).2.2.2.1∧(q4 (q4 d3)).1=(q4 (q4 d93)).1∧(q4 (q4 d3)).2.1=(q4 (q4 d93)).2.1∧(q4 (q4 d3)).2.2.1=(q4 (q4 d93)).2.2.1∧(q4 (q4 d3)).2.2.2.1=(q4 (q4 d93)).2.2.2.1∧(([]:List SV)=[]))∧True))∧q3 d93)) ∧
     (y9=(6:Int) →
      (I64 ((q4 (q4 (q4 d3)))+(1:Int)))∧(∃ d94:QA,((sc=sc∧True∧True∧True∧True∧((q4 (q4 (q4 d3)))+(1:Int))=(q4 (q4 (q4 d94)))∧True)∧((Q0 h8)∧(Q5 h8 ws)∧(Q0 h8)∧(Q3 h8 rs)∧(Q4 h8 ws rs)∧(d3.1=d94.1∧d3.2.1=d94.2.1∧d3.2.2.1=d94.2.2.1∧d3.2.2.2.1=d94.2.2.2.1∧(q4 d3).1=(q4 d94).1∧(q4 d3).2.1=(q4 d94).2.1∧((q4 d3).2.2.2.1+(1:Int))=(q4 d94).2.2.1∧(q4 d3).2.2.2.1=(q4 d94).2.2.2.1∧(q4 (q4 d3)).1=(q4 (q4 d94)).1∧(q4 (q4 d3)).2.1=(q4 (q4 d94)).2.1∧(q4 (q4 d3)).2.2.1=(q4 (q4 d94)).2.2.1∧(q4 (q4 d3)).2.2.2.1=(q4 (q4 d94)).2.2.2.1∧(([]:List SV)=[]))∧True))∧q3 d94)) ∧
     (y9=(7:Int) →
      (I64 ((q4 (q4 (q4 d3)))+(1:Int)))∧(∃ d95:QA,((sc=sc∧True∧True∧True∧True∧((q4 (q4 (q4 d3)))+(1:Int))=(q4 (q4 (q4 d95)))∧True)∧((Q0 h8)∧(Q5 h8 ws)∧(Q0 h8)∧(Q3 h8 rs)∧(Q4 h8 ws rs)∧(d3.1=d95.1∧d3.2.1=d95.2.1∧d3.2.2.1=d95.2.2.1∧d3.2.2.2.1=d95.2.2.2.1∧(q4 d3).1=(q4 d95).1∧(q4 d3).2.1=(q4 d95).2.1∧(q4 d3).2.2.1=(q4 d95).2.2.1∧((q4 d3).2.2.2.1+(1:Int))=(q4 d95).2.2.2.1∧(q4 (q4 d3)).1=(q4 (q4 d95)).1∧(q4 (q4 d3)).2.1=(q4 (q4 d95)).2.1∧(q4 (q4 d3)).2.2.1=(q4 (q4 d95)).2.2.1∧(q4 (q4 d3)).2.2.2.1=(q4 (q4 d95)).2.2.2.1∧(([]:List SV)=[]))∧True))∧q3 d95)) ∧
     (y9=(8:Int) →
      (I64 ((q4 (q4 (q4 d3)))+(1:Int)))∧(∃ d96:QA,((sc=sc∧True∧True∧True∧True∧((q4 (q4 (q4 d3)))+(1:Int))=(q4 (q4 (q4 d96)))∧True)∧((Q0 h8)∧(Q5 h8 ws)∧(Q0 h8)∧(Q3 h8 rs)∧(Q4 h8 ws rs)∧(d3.1=d96.1∧d3.2.1=d96.2.1∧d3.2.2.1=d96.2.2.1∧d3.2.2.2.1=d96.2.2.2.1∧(q4 d3).1=(q4 d96).1∧(q4 d3).2.1=(q4 d96).2.1∧(q4 d3).2.2.1=(q4 d96).2.2.1∧(q4 d3).2.2.2.1=(q4 d96).2.2.2.1∧((q4 d3).2.2.2.1+(1:Int))=(q4 (q4 d96)).1∧(q4 (q4 d3)).2.1=(q4 (q4 d96)).2.1∧(q4 (q4 d3)).2.2.1=(q4 (q4 d96)).2.2.1∧(q4 (q4 d3)).2.2.2.1=(q4 (q4 d96)).2.2.2.1∧(([]:List SV)=[]))∧True))∧q3 d96)) ∧
     (y9=(9:Int) →
      (I64 ((q4 (q4 (q4 d3)))+(1:Int)))∧(∃ d97:QA,((sc=sc∧True∧True∧True∧True∧((q4 (q4 (q4 d3)))+(1:Int))=(q4 (q4 (q4 d97)))∧True)∧((Q0 h8)∧(Q5 h8 ws)∧(Q0 h8)∧(Q3 h8 rs)∧(Q4 h8 ws rs)∧(d3.1=d97.1∧d3.2.1=d97.2.1∧d3.2.2.1=d97.2.2.1∧d3.2.2.2.1=d97.2.2.2.1∧(q4 d3).1=(q4 d97).1∧(q4 d3).2.1=(q4 d97).2.1∧(q4 d3).2.2.1=(q4 d97).2.2.1∧(q4 d3).2.2.2.1=(q4 d97).2.2.2.1∧(q4 (q4 d3)).1=(q4 (q4 d97)).1∧((q4 d3).2.2.2.1+(1:Int))=(q4 (q4 d97)).2.1∧(q4 (q4 d3)).2.2.1=(q4 (q4 d97)).2.2.1∧(q4 (q4 d3)).2.2.2.1=(q4 (q4 d97)).2.2.2.1∧(([]:List SV)=[]))∧True))∧q3 d97)) ∧
     (y9=(10:Int) →
      (I64 ((q4 (q4 (q4 d3)))+(1:Int)))∧(∃ d98:QA,((sc=sc∧True∧True∧True∧True∧((q4 (q4 (q4 d3)))+(1:Int))=(q4 (q4 (q4 d98)))∧True)∧((Q0 h8)∧(Q5 h8 ws)∧(Q0 h8)∧(Q3 h8 rs)∧(Q4 h8 ws rs)∧(d3.1=d98.1∧d3.2.1=d98.2.1∧d3.2.2.1=d98.2.2.1∧d3.2.2.2.1=d98.2.2.2.1∧(q4 d3).1=(q4 d98).1∧(q4 d3).2.1=(q4 d98).2.1∧(q4 d3).2.2.1=(q4 d98).2.2.1∧(q4 d3).2.2.2.1=(q4 d98).2.2.2.1∧(q4 (q4 d3)).1=(q4 (q4 d98)).1∧(q4 (q4 d3)).2.1=(q4 (q4 d98)).2.1∧((q4 d3).2.2.2.1+(1:Int))=(q4 (q4 d98)).2.2.1∧(q4 (q4 d3)).2.2.2.1=(q4 (q4 d98)).2.2.2.1∧(([]:List SV)=[]))∧True))∧q3 d98)) ∧
     (y9=(11:Int) →
      (I64 ((q4 (q4 (q4 d3)))+(1:Int)))∧(∃ d99:QA,((sc=sc∧True∧True∧True∧True∧((q4 (q4 (q4 d3)))+(1:Int))=(q4 (q4 (q4 d99)))∧True)∧((Q0 h8)∧(Q5 h8 ws)∧(Q0 h8)∧(Q3 h8 rs)∧(Q4 h8 ws rs)∧(d3.1=d99.1∧d3.2.1=d99.2.1∧d3.2.2.1=d99.2.2.1∧d3.2.2.2.1=d99.2.2.2.1∧(q4 d3).1=(q4 d99).1∧(q4 d3).2.1=(q4 d99).2.1∧(q4 d3).2.2.1=(q4 d99).2.2.1∧(q4 d3).2.2.2.1=(q4 d99).2.2.2.1∧(q4 (q4 d3)).1=(q4 (q4 d99)).1∧(q4 (q4 d3)).2.1=(q4 (q4 d99)).2.1∧(q4 (q4 d3)).2.2.1=(q4 (q4 d99)).2.2.1∧((q4 d3).2.2.2.1+(1:Int))=(q4 (q4 d99)).2.2.2.1∧(([]:List SV)=[]))∧True))∧q3 d99)) ∧
     True) ∧
    (y9=(8:Int) →
     (I64 ((q4 (q4 d3)).1+(1:Int)))∧(0≤y9)∧(y9<(12:Int)) ∧
     (y9=(0:Int) →
      (I64 ((q4 (q4 (q4 d3)))+(1:Int)))∧(∃ d100:QA,((sc=sc∧True∧True∧True∧True∧((q4 (q4 (q4 d3)))+(1:Int))=(q4 (q4 (q4 d100)))∧True)∧((Q0 h8)∧(Q5 h8 ws)∧(Q0 h8)∧(Q3 h8 rs)∧(Q4 h8 ws rs)∧(((q4 (q4 d3)).1+(1:Int))=d100.1∧d3.2.1=d100.2.1∧d3.2.2.1=d100.2.2.1∧d3.2.2.2.1=d100.2.2.2.1∧(q4 d3).1=(q4 d100).1∧(q4 d3).2.1=(q4 d100).2.1∧(q4 d3).2.2.1=(q4 d100).2.2.1∧(q4 d3).2.2.2.1=(q4 d100).2.2.2.1∧(q4 (q4 d3)).1=(q4 (q4 d100)).1∧(q4 (q4 d3)).2.1=(q4 (q4 d100)).2.1∧(q4 (q4 d3)).2.2.1=(q4 (q4 d100)).2.2.1∧(q4 (q4 d3)).2.2.2.1=(q4 (q4 d100)).2.2.2.1∧(([]:List SV)=[]))∧True))∧q3 d100)) ∧
     (y9=(1:Int) →
      (I64 ((q4 (q4 (q4 d3)))+(1:Int)))∧(∃ d101:QA,((sc=sc∧True∧True∧True∧True∧((q4 (q4 (q4 d3)))+(1:Int))=(q4 (q4 (q4 d101)))∧True)∧((Q0 h8)∧(Q5 h8 ws)∧(Q0 h8)∧(Q3 h8 rs)∧(Q4 h8 ws rs)∧(d3.1=d101.1∧((q4 (q4 d3)).1+(1:Int))=d101.2.1∧d3.2.2.1=d101.2.2.1∧d3.2.2.2.1=d101.2.2.2.1∧(q4 d3).1=(q4 d101).1∧(q4 d3).2.1=(q4 d101).2.1∧(q4 d3).2.2.1=(q4 d101).2.2.1∧(q4 d3).2.2.2.1=(q4 d101).2.2.2.1∧(q4 (q4 d3)).1=(q4 (q4 d101)).1∧(q4 (q4 d3)).2.1=(q4 (q4 d101)).2.1∧(q4 (q4 d3)).2.2.1=(q4 (q4 d101)).2.2.1∧(q4 (q4 d3)).2.2.2.1=(q4 (q4 d101)).2.2.2.1∧(([]:List SV)=[]))∧True))∧q3 d101)) ∧
     (y9=(2:Int) →
      (I64 ((q4 (q4 (q4 d3)))+(1:Int)))∧(∃ d102:QA,((sc=sc∧True∧True∧True∧True∧((q4 (q4 (q4 d3)))+(1:Int))=(q4 (q4 (q4 d102)))∧True)∧((Q0 h8)∧(Q5 h8 ws)∧(Q0 h8)∧(Q3 h8 rs)∧(Q4 h8 ws rs)∧(d3.1=d102.1∧d3.2.1=d102.2.1∧((q4 (q4 d3)).1+(1:Int))=d102.2.2.1∧d3.2.2.2.1=d102.2.2.2.1∧(q4 d3).1=(q4 d102).1∧(q4 d3).2.1=(q4 d102).2.1∧(q4 d3).2.2.1=(q4 d102).2.2.1∧(q4 d3).2.2.2.1=(q4 d102).2.2.2.1∧(q4 (q4 d3)).1=(q4 (q4 d102)).1∧(q4 (q4 d3)).2.1=(q4 (q4 d102)).2.1∧(q4 (q4 d3)).2.2.1=(q4 (q4 d102)).2.2.1∧(q4 (q4 d3)).2.2.2.1=(q4 (q4 d102)).2.2.2.1∧(([]:List SV)=[]))∧True))∧q3 d102)) ∧
     (y9=(3:Int) →
      (I64 ((q4 (q4 (q4 d3)))+(1:Int)))∧(∃ d103:QA,((sc=sc∧True∧True∧True∧True∧((q4 (q4 (q4 d3)))+(1:Int))=(q4 (q4 (q4 d103)))∧True)∧((Q0 h8)∧(Q5 h8 ws)∧(Q0 h8)∧(Q3 h8 rs)∧(Q4 h8 ws rs)∧(d3.1=d103.1∧d3.2.1=d103.2.1∧d3.2.2.1=d103.2.2.1∧((q4 (q4 d3)).1+(1:Int))=d103.2.2.2.1∧(q4 d3).1=(q4 d103).1∧(q4 d3).2.1=(q4 d103).2.1∧(q4 d3).2.2.1=(q4 d103).2.2.1∧(q4 d3).2.2.2.1=(q4 d103).2.2.2.1∧(q4 (q4 d3)).1=(q4 (q4 d103)).1∧(q4 (q4 d3)).2.1=(q4 (q4 d103)).2.1∧(q4 (q4 d3)).2.2.1=(q4 (q4 d103)).2.2.1∧(q4 (q4 d3)).2.2.2.1=(q4 (q4 d103)).2.2.2.1∧(([]:List SV)=[]))∧True))∧q3 d103)) ∧
     (y9=(4:Int) →
      (I64 ((q4 (q4 (q4 d3)))+(1:Int)))∧(∃ d104:QA,((sc=sc∧True∧True∧True∧True∧((q4 (q4 (q4 d3)))+(1:Int))=(q4 (q4 (q4 d104)))∧True)∧((Q0 h8)∧(Q5 h8 ws)∧(Q0 h8)∧(Q3 h8 rs)∧(Q4 h8 ws rs)∧(d3.1=d104.1∧d3.2.1=d104.2.1∧d3.2.2.1=d104.2.2.1∧d3.2.2.2.1=d104.2.2.2.1∧((q4 (q4 d3)).1+(1:Int))=(q4 d104).1∧(q4 d3).2.1=(q4 d104).2.1∧(q4 d3).2.2.1=(q4 d104).2.2.1∧(q4 d3).2.2.2.1=(q4 d104).2.2.2.1∧(q4 (q4 d3)).1=(q4 (q4 d104)).1∧(q4 (q4 d3)).2.1=(q4 (q4 d104)).2.1∧(q4 (q4 d3)).2.2.1=(q4 (q4 d104)).2.2.1∧(q4 (q4 d3)).2.2.2.1=(q4 (q4 d104)).2.2.2.1∧(([]:List SV)=[]))∧True))∧q3 d104)) ∧
     (y9=(5:Int) →
      (I64 ((q4 (q4 (q4 d3)))+(1:Int)))∧(∃ d105:QA,((sc=sc∧True∧True∧True∧True∧((q4 (q4 (q4 d3)))+(1:Int))=(q4 (q4 (q4 d105)))∧True)∧((Q0 h8)∧(Q5 h8 ws)∧(Q0 h8)∧(Q3 h8 rs)∧(Q4 h8 ws rs)∧(d3.1=d105.1∧d3.2.1=d105.2.1∧d3.2.2.1=d105.2.2.1∧d3.2.2.2.1=d105.2.2.2.1∧(q4 d3).1=(q4 d105).1∧((q4 (q4 d3)).1+(1:Int))=(q4 d105).2.1∧(q4 d3).2.2.1=(q4 d105).2.2.1∧(q4 d3).2.2.2.1=(q4 d105).2.2.2.1∧(q4 (q4 d3)).1=(q4 (q4 d105)).1∧(q4 (q4 d3)).2.1=(q4 (q4 d105)).2.1∧(q4 (q4 d3)).2.2.1=(q4 (q4 d105)).2.2.1∧(q4 (q4 d3)).2.2.2.1=(q4 (q4 d105)).2.2.2.1∧(([]:List SV)=[]))∧True))∧q3 d105)) ∧
     (y9=(6:Int) →
      (I64 ((q4 (q4 (q4 d3)))+(1:Int)))∧(∃ d106:QA,((sc=sc∧True∧True∧True∧True∧((q4 (q4 (q4 d3)))+(1:Int))=(q4 (q4 (q4 d106)))∧True)∧((Q0 h8)∧(Q5 h8 ws)∧(Q0 h8)∧(Q3 h8 rs)∧(Q4 h8 ws rs)∧(d3.1=d106.1∧d3.2.1=d106.2.1∧d3.2.2.1=d106.2.2.1∧d3.2.2.2.1=d106.2.2.2.1∧(q4 d3).1=(q4 d106).1∧(q4 d3).2.1=(q4 d106).2.1∧((q4 (q4 d3)).1+(1:Int))=(q4 d106).2.2.1∧(q4 d3).2.2.2.1=(q4 d106).2.2.2.1∧(q4 (q4 d3)).1=(q4 (q4 d106)).1∧(q4 (q4 d3)).2.1=(q4 (q4 d106)).2.1∧(q4 (q4 d3)).2.2.1=(q4 (q4 d106)).2.2.1∧(q4 (q4 d3)).2.2.2.1=(q4 (q4 d106)).2.2.2.1∧(([]:List SV)=[]))∧True))∧q3 d106)) ∧
     (y9=(7:Int) →
      (I64 ((q4 (q4 (q4 d3)))+(1:Int)))∧(∃ d107:QA,((sc=sc∧True∧True∧True∧True∧((q4 (q4 (q4 d3)))+(1:Int))=(q4 (q4 (q4 d107)))∧True)∧((Q0 h8)∧(Q5 h8 ws)∧(Q0 h8)∧(Q3 h8 rs)∧(Q4 h8 ws rs)∧(d3.1=d107.1∧d3.2.1=d107.2.1∧d3.2.2.1=d107.2.2.1∧d3.2.2.2.1=d107.2.2.2.1∧(q4 d3).1=(q4 d107).1∧(q4 d3).2.1=(q4 d107).2.1∧(q4 d3).2.2.1=(q4 d107).2.2.1∧((q4 (q4 d3)).1+(1:Int))=(q4 d107).2.2.2.1∧(q4 (q4 d3)).1=(q4 (q4 d107)).1∧(q4 (q4 d3)).2.1=(q4 (q4 d107)).2.1∧(q4 (q4 d3)).2.2.1=(q4 (q4 d107)).2.2.1∧(q4 (q4 d3)).2.2.2.1=(q4 (q4 d107)).2.2.2.1∧(([]:List SV)=[]))∧True))∧q3 d107)) ∧
     (y9=(8:Int) →
      (I64 ((q4 (q4 (q4 d3)))+(1:Int)))∧(∃ d108:QA,((sc=sc∧True∧True∧True∧True∧((q4 (q4 (q4 d3)))+(1:Int))=(q4 (q4 (q4 d108)))∧True)∧((Q0 h8)∧(Q5 h8 ws)∧(Q0 h8)∧(Q3 h8 rs)∧(Q4 h8 ws rs)∧(d3.1=d108.1∧d3.2.1=d108.2.1∧d3.2.2.1=d108.2.2.1∧d3.2.2.2.1=d108.2.2.2.1∧(q4 d3).1=(q4 d108).1∧(q4 d3).2.1=(q4 d108).2.1∧(q4 d3).2.2.1=(q4 d108).2.2.1∧(q4 d3).2.2.2.1=(q4 d108).2.2.2.1∧((q4 (q4 d3)).1+(1:Int))=(q4 (q4 d108)).1∧(q4 (q4 d3)).2.1=(q4 (q4 d108)).2.1∧(q4 (q4 d3)).2.2.1=(q4 (q4 d108)).2.2.1∧(q4 (q4 d3)).2.2.2.1=(q4 (q4 d108)).2.2.2.1∧(([]:List SV)=[]))∧True))∧q3 d108)) ∧
     (y9=(9:Int) →
      (I64 ((q4 (q4 (q4 d3)))+(1:Int)))∧(∃ d109:QA,((sc=sc∧True∧True∧True∧True∧((q4 (q4 (q4 d3)))+(1:Int))=(q4 (q4 (q4 d109)))∧True)∧((Q0 h8)∧(Q5 h8 ws)∧(Q0 h8)∧(Q3 h8 rs)∧(Q4 h8 ws rs)∧(d3.1=d109.1∧d3.2.1=d109.2.1∧d3.2.2.1=d109.2.2.1∧d3.2.2.2.1=d109.2.2.2.1∧(q4 d3).1=(q4 d109).1∧(q4 d3).2.1=(q4 d109).2.1∧(q4 d3).2.2.1=(q4 d109).2.2.1∧(q4 d3).2.2.2.1=(q4 d109).2.2.2.1∧(q4 (q4 d3)).1=(q4 (q4 d109)).1∧((q4 (q4 d3)).1+(1:Int))=(q4 (q4 d109)).2.1∧(q4 (q4 d3)).2.2.1=(q4 (q4 d109)).2.2.1∧(q4 (q4 d3)).2.2.2.1=(q4 (q4 d109)).2.2.2.1∧(([]:List SV)=[]))∧True))∧q3 d109)) ∧
     (y9=(10:Int) →
      (I64 ((q4 (q4 (q4 d3)))+(1:Int)))∧(∃ d110:QA,((sc=sc∧True∧True∧True∧True∧((q4 (q4 (q4 d3)))+(1:Int))=(q4 (q4 (q4 d110)))∧True)∧((Q0 h8)∧(Q5 h8 ws)∧(Q0 h8)∧(Q3 h8 rs)∧(Q4 h8 ws rs)∧(d3.1=d110.1∧d3.2.1=d110.2.1∧d3.2.2.1=d110.2.2.1∧d3.2.2.2.1=d110.2.2.2.1∧(q4 d3).1=(q4 d110).1∧(q4 d3).2.1=(q4 d110).2.1∧(q4 d3).2.2.1=(q4 d110).2.2.1∧(q4 d3).2.2.2.1=(q4 d110).2.2.2.1∧(q4 (q4 d3)).1=(q4 (q4 d110)).1∧(q4 (q4 d3)).2.1=(q4 (q4 d110)).2.1∧((q4 (q4 d3)).1+(1:Int))=(q4 (q4 d110)).2.2.1∧(q4 (q4 d3)).2.2.2.1=(q4 (q4 d110)).2.2.2.1∧(([]:List SV)=[]))∧True))∧q3 d110)) ∧
     (y9=(11:Int) →
      (I64 ((q4 (q4 (q4 d3)))+(1:Int)))∧(∃ d111:QA,((sc=sc∧True∧True∧True∧True∧((q4 (q4 (q4 d3)))+(1:Int))=(q4 (q4 (q4 d111)))∧True)∧((Q0 h8)∧(Q5 h8 ws)∧(Q0 h8)∧(Q3 h8 rs)∧(Q4 h8 ws rs)∧(d3.1=d111.1∧d3.2.1=d111.2.1∧d3.2.2.1=d111.2.2.1∧d3.2.2.2.1=d111.2.2.2.1∧(q4 d3).1=(q4 d111).1∧(q4 d3).2.1=(q4 d111).2.1∧(q4 d3).2.2.1=(q4 d111).2.2.1∧(q4 d3).2.2.2.1=(q4 d111).2.2.2.1∧(q4 (q4 d3)).1=(q4 (q4 d111)).1∧(q4 (q4 d3)).2.1=(q4 (q4 d111)).2.1∧(q4 (q4 d3)).2.2.1=(q4 (q4 d111)).2.2.1∧((q4 (q4 d3)).1+(1:Int))=(q4 (q4 d111)).2.2.2.1∧(([]:List SV)=[]))∧True))∧q3 d111)) ∧
     True) ∧
    (y9=(9:Int) →
     (I64 ((q4 (q4 d3)).2.1+(1:Int)))∧(0≤y9)∧(y9<(12:Int)) ∧
     (y9=(0:Int) →
      (I64 ((q4 (q4 (q4 d3)))+(1:Int)))∧(∃ d112:QA,((sc=sc∧True∧True∧True∧True∧((q4 (q4 (q4 d3)))+(1:Int))=(q4 (q4 (q4 d112)))∧True)∧((Q0 h8)∧(Q5 h8 ws)∧(Q0 h8)∧(Q3 h8 rs)∧(Q4 h8 ws rs)∧(((q4 (q4 d3)).2.1+(1:Int))=d112.1∧d3.2.1=d112.2.1∧d3.2.2.1=d112.2.2.1∧d3.2.2.2.1=d112.2.2.2.1∧(q4 d3).1=(q4 d112).1∧(q4 d3).2.1=(q4 d112).2.1∧(q4 d3).2.2.1=(q4 d112).2.2.1∧(q4 d3).2.2.2.1=(q4 d112).2.2.2.1∧(q4 (q4 d3)).1=(q4 (q4 d112)).1∧(q4 (q4 d3)).2.1=(q4 (q4 d112)).2.1∧(q4 (q4 d3)).2.2.1=(q4 (q4 d112)).2.2.1∧(q4 (q4 d3)).2.2.2.1=(q4 (q4 d112)).2.2.2.1∧(([]:List SV)=[]))∧True))∧q3 d112)) ∧
     (y9=(1:Int) →
      (I64 ((q4 (q4 (q4 d3)))+(1:Int)))∧(∃ d113:QA,((sc=sc∧True∧True∧True∧True∧((q4 (q4 (q4 d3)))+(1:Int))=(q4 (q4 (q4 d113)))∧True)∧((Q0 h8)∧(Q5 h8 ws)∧(Q0 h8)∧(Q3 h8 rs)∧(Q4 h8 ws rs)∧(d3.1=d113.1∧((q4 (q4 d3)).2.1+(1:Int))=d113.2.1∧d3.2.2.1=d113.2.2.1∧d3.2.2.2.1=d113.2.2.2.1∧(q4 d3).1=(q4 d113).1∧(q4 d3).2.1=(q4 d113).2.1∧(q4 d3).2.2.1=(q4 d113).2.2.1∧(q4 d3).2.2.2.1=(q4 d113).2.2.2.1∧(q4 (q4 d3)).1=(q4 (q4 d113)).1∧(q4 (q4 d3)).2.1=(q4 (q4 d113)).2.1∧(q4 (q4 d3)).2.2.1=(q4 (q4 d113)).2.2.1∧(q4 (q4 d3)).2.2.2.1=(q4 (q4 d113)).2.2.2.1∧(([]:List SV)=[]))∧True))∧q3 d113)) ∧
     (y9=(2:Int) →
      (I64 ((q4 (q4 (q4 d3)))+(1:Int)))∧(∃ d114:QA,((sc=sc∧True∧True∧True∧True∧((q4 (q4 (q4 d3)))+(1:Int))=(q4 (q4 (q4 d114)))∧True)∧((Q0 h8)∧(Q5 h8 ws)∧(Q0 h8)∧(Q3 h8 rs)∧(Q4 h8 ws rs)∧(d3.1=d114.1∧d3.2.1=d114.2.1∧((q4 (q4 d3)).2.1+(1:Int))=d114.2.2.1∧d3.2.2.2.1=d114.2.2.2.1∧(q4 d3).1=(q4 d114).1∧(q4 d3).2.1=(q4 d114).2.1∧(q4 d3).2.2.1=(q4 d114).2.2.1∧(q4 d3).2.2.2.1=(q4 d114).2.2.2.1∧(q4 (q4 d3)).1=(q4 (q4 d114)).1∧(q4 (q4 d3)).2.1=(q4 (q4 d114)).2.1∧(q4 (q4 d3)).2.2.1=(q4 (q4 d114)).2.2.1∧(q4 (q4 d3)).2.2.2.1=(q4 (q4 d114)).2.2.2.1∧(([]:List SV)=[]))∧True))∧q3 d114)) ∧
     (y9=(3:Int) →
      (I64 ((q4 (q4 (q4 d3)))+(1:Int)))∧(∃ d115:QA,((sc=sc∧True∧True∧True∧True∧((q4 (q4 (q4 d3)))+(1:Int))=(q4 (q4 (q4 d115)))∧True)∧((Q0 h8)∧(Q5 h8 ws)∧(Q0 h8)∧(Q3 h8 rs)∧(Q4 h8 ws rs)∧(d3.1=d115.1∧d3.2.1=d115.2.1∧d3.2.2.1=d115.2.2.1∧((q4 (q4 d3)).2.1+(1:Int))=d115.2.2.2.1∧(q4 d3).1=(q4 d115).1∧(q4 d3).2.1=(q4 d115).2.1∧(q4 d3).2.2.1=(q4 d115).2.2.1∧(q4 d3).2.2.2.1=(q4 d115).2.2.2.1∧(q4 (q4 d3)).1=(q4 (q4 d115)).1∧(q4 (q4 d3)).2.1=(q4 (q4 d115)).2.1∧(q4 (q4 d3)).2.2.1=(q4 (q4 d115)).2.2.1∧(q4 (q4 d3)).2.2.2.1=(q4 (q4 d115)).2.2.2.1∧(([]:List SV)=[]))∧True))∧q3 d115)) ∧
     (y9=(4:Int) →
      (I64 ((q4 (q4 (q4 d3)))+(1:Int)))∧(∃ d116:QA,((sc=sc∧True∧True∧True∧True∧((q4 (q4 (q4 d3)))+(1:Int))=(q4 (q4 (q4 d116)))∧True)∧((Q0 h8)∧(Q5 h8 ws)∧(Q0 h8)∧(Q3 h8 rs)∧(Q4 h8 ws rs)∧(d3.1=d116.1∧d3.2.1=d116.2.1∧d3.2.2.1=d116.2.2.1∧d3.2.2.2.1=d116.2.2.2.1∧((q4 (q4 d3)).2.1+(1:Int))=(q4 d116).1∧(q4 d3).2.1=(q4 d116).2.1∧(q4 d3).2.2.1=(q4 d116).2.2.1∧(q4 d3).2.2.2.1=(q4 d116).2.2.2.1∧(q4 (q4 d3)).1=(q4 (q4 d116)).1∧(q4 (q4 d3)).2.1=(q4 (q4 d116)).2.1∧(q4 (q4 d3)).2.2.1=(q4 (q4 d116)).2.2.1∧(q4 (q4 d3)).2.2.2.1=(q4 (q4 d116)).2.2.2.1∧(([]:List SV)=[]))∧True))∧q3 d116)) ∧
     (y9=(5:Int) →
      (I64 ((q4 (q4 (q4 d3)))+(1:Int)))∧(∃ d117:QA,((sc=sc∧True∧True∧True∧True∧((q4 (q4 (q4 d3)))+(1:Int))=(q4 (q4 (q4 d117)))∧True)∧((Q0 h8)∧(Q5 h8 ws)∧(Q0 h8)∧(Q3 h8 rs)∧(Q4 h8 ws rs)∧(d3.1=d117.1∧d3.2.1=d117.2.1∧d3.2.2.1=d117.2.2.1∧d3.2.2.2.1=d117.2.2.2.1∧(q4 d3).1=(q4 d117).1∧((q4 (q4 d3)).2.1+(1:Int))=(q4 d117).2.1∧(q4 d3).2.2.1=(q4 d117).2.2.1∧(q4 d3).2.2.2.1=(q4 d117).2.2.2.1∧(q4 (q4 d3)).1=(q4 (q4 d117)).1∧(q4 (q4 d3)).2.1=(q4 (q4 d117)).2.1∧(q4 (q4 d3)).2.2.1=(q4 (q4 d117)).2.2.1∧(q4 (q4 d3)).2.2.2.1=(q4 (q4 d117)).2.2.2.1∧(([]:List SV)=[]))∧True))∧q3 d117)) ∧
     (y9=(6:Int) →
      (I64 ((q4 (q4 (q4 d3)))+(1:Int)))∧(∃ d118:QA,((sc=sc∧True∧True∧True∧True∧((q4 (q4 (q4 d3)))+(1:Int))=(q4 (q4 (q4 d118)))∧True)∧((Q0 h8)∧(Q5 h8 ws)∧(Q0 h8)∧(Q3 h8 rs)∧(Q4 h8 ws rs)∧(d3.1=d118.1∧d3.2.1=d118.2.1∧d3.2.2.1=d118.2.2.1∧d3.2.2.2.1=d118.2.2.2.1∧(q4 d3).1=(q4 d118).1∧(q4 d3).2.1=(q4 d118).2.1∧((q4 (q4 d3)).2.1+(1:Int))=(q4 d118).2.2.1∧(q4 d3).2.2.2.1=(q4 d118).2.2.2.1∧(q4 (q4 d3)).1=(q4 (q4 d118)).1∧(q4 (q4 d3)).2.1=(q4 (q4 d118)).2.1∧(q4 (q4 d3)).2.2.1=(q4 (q4 d118)).2.2.1∧(q4 (q4 d3)).2.2.2.1=(q4 (q4 d118)).2.2.2.1∧(([]:List SV)=[]))∧True))∧q3 d118)) ∧
     (y9=(7:Int) →
      (I64 ((q4 (q4 (q4 d3)))+(1:Int)))∧(∃ d119:QA,((sc=sc∧True∧True∧True∧True∧((q4 (q4 (q4 d3)))+(1:Int))=(q4 (q4 (q4 d119)))∧True)∧((Q0 h8)∧(Q5 h8 ws)∧(Q0 h8)∧(Q3 h8 rs)∧(Q4 h8 ws rs)∧(d3.1=d119.1∧d3.2.1=d119.2.1∧d3.2.2.1=d119.2.2.1∧d3.2.2.2.1=d119.2.2.2.1∧(q4 d3).1=(q4 d119).1∧(q4 d3).2.1=(q4 d119).2.1∧(q4 d3).2.2.1=(q4 d119).2.2.1∧((q4 (q4 d3)).2.1+(1:Int))=(q4 d119).2.2.2.1∧(q4 (q4 d3)).1=(q4 (q4 d119)).1∧(q4 (q4 d3)).2.1=(q4 (q4 d119)).2.1∧(q4 (q4 d3)).2.2.1=(q4 (q4 d119)).2.2.1∧(q4 (q4 d3)).2.2.2.1=(q4 (q4 d119)).2.2.2.1∧(([]:List SV)=[]))∧True))∧q3 d119)) ∧
     (y9=(8:Int) →
      (I64 ((q4 (q4 (q4 d3)))+(1:Int)))∧(∃ d120:QA,((sc=sc∧True∧True∧True∧True∧((q4 (q4 (q4 d3)))+(1:Int))=(q4 (q4 (q4 d120)))∧True)∧((Q0 h8)∧(Q5 h8 ws)∧(Q0 h8)∧(Q3 h8 rs)∧(Q4 h8 ws rs)∧(d3.1=d120.1∧d3.2.1=d120.2.1∧d3.2.2.1=d120.2.2.1∧d3.2.2.2.1=d120.2.2.2.1∧(q4 d3).1=(q4 d120).1∧(q4 d3).2.1=(q4 d120).2.1∧(q4 d3).2.2.1=(q4 d120).2.2.1∧(q4 d3).2.2.2.1=(q4 d120).2.2.2.1∧((q4 (q4 d3)).2.1+(1:Int))=(q4 (q4 d120)).1∧(q4 (q4 d3)).2.1=(q4 (q4 d120)).2.1∧(q4 (q4 d3)).2.2.1=(q4 (q4 d120)).2.2.1∧(q4 (q4 d3)).2.2.2.1=(q4 (q4 d120)).2.2.2.1∧(([]:List SV)=[]))∧True))∧q3 d120)) ∧
     (y9=(9:Int) →
      (I64 ((q4 (q4 (q4 d3)))+(1:Int)))∧(∃ d121:QA,((sc=sc∧True∧True∧True∧True∧((q4 (q4 (q4 d3)))+(1:Int))=(q4 (q4 (q4 d121)))∧True)∧((Q0 h8)∧(Q5 h8 ws)∧(Q0 h8)∧(Q3 h8 rs)∧(Q4 h8 ws rs)∧(d3.1=d121.1∧d3.2.1=d121.2.1∧d3.2.2.1=d121.2.2.1∧d3.2.2.2.1=d121.2.2.2.1∧(q4 d3).1=(q4 d121).1∧(q4 d3).2.1=(q4 d121).2.1∧(q4 d3).2.2.1=(q4 d121).2.2.1∧(q4 d3).2.2.2.1=(q4 d121).2.2.2.1∧(q4 (q4 d3)).1=(q4 (q4 d121)).1∧((q4 (q4 d3)).2.1+(1:Int))=(q4 (q4 d121)).2.1∧(q4 (q4 d3)).2.2.1=(q4 (q4 d121)).2.2.1∧(q4 (q4 d3)).2.2.2.1=(q4 (q4 d121)).2.2.2.1∧(([]:List SV)=[]))∧True))∧q3 d121)) ∧
     (y9=(10:Int) →
      (I64 ((q4 (q4 (q4 d3)))+(1:Int)))∧(∃ d122:QA,((sc=sc∧True∧True∧True∧True∧((q4 (q4 (q4 d3)))+(1:Int))=(q4 (q4 (q4 d122)))∧True)∧((Q0 h8)∧(Q5 h8 ws)∧(Q0 h8)∧(Q3 h8 rs)∧(Q4 h8 ws rs)∧(d3.1=d122.1∧d3.2.1=d122.2.1∧d3.2.2.1=d122.2.2.1∧d3.2.2.2.1=d122.2.2.2.1∧(q4 d3).1=(q4 d122).1∧(q4 d3).2.1=(q4 d122).2.1∧(q4 d3).2.2.1=(q4 d122).2.2.1∧(q4 d3).2.2.2.1=(q4 d122).2.2.2.1∧(q4 (q4 d3)).1=(q4 (q4 d122)).1∧(q4 (q4 d3)).2.1=(q4 (q4 d122)).2.1∧((q4 (q4 d3)).2.1+(1:Int))=(q4 (q4 d122)).2.2.1∧(q4 (q4 d3)).2.2.2.1=(q4 (q4 d122)).2.2.2.1∧(([]:List SV)=[]))∧True))∧q3 d122)) ∧
     (y9=(11:Int) →
      (I64 ((q4 (q4 (q4 d3)))+(1:Int)))∧(∃ d123:QA,((sc=sc∧True∧True∧True∧True∧((q4 (q4 (q4 d3)))+(1:Int))=(q4 (q4 (q4 d123)))∧True)∧((Q0 h8)∧(Q5 h8 ws)∧(Q0 h8)∧(Q3 h8 rs)∧(Q4 h8 ws rs)∧(d3.1=d123.1∧d3.2.1=d123.2.1∧d3.2.2.1=d123.2.2.1∧d3.2.2.2.1=d123.2.2.2.1∧(q4 d3).1=(q4 d123).1∧(q4 d3).2.1=(q4 d123).2.1∧(q4 d3).2.2.1=(q4 d123).2.2.1∧(q4 d3).2.2.2.1=(q4 d123).2.2.2.1∧(q4 (q4 d3)).1=(q4 (q4 d123)).1∧(q4 (q4 d3)).2.1=(q4 (q4 d123)).2.1∧(q4 (q4 d3)).2.2.1=(q4 (q4 d123)).2.2.1∧((q4 (q4 d3)).2.1+(1:Int))=(q4 (q4 d123)).2.2.2.1∧(([]:List SV)=[]))∧True))∧q3 d123)) ∧
     True) ∧
    (y9=(10:Int) →
     (I64 ((q4 (q4 d3)).2.2.1+(1:Int)))∧(0≤y9)∧(y9<(12:Int)) ∧
     (y9=(0:Int) →
      (I64 ((q4 (q4 (q4 d3)))+(1:Int)))∧(∃ d124:QA,((sc=sc∧True∧True∧True∧True∧((q4 (q4 (q4 d3)))+(1:Int))=(q4 (q4 (q4 d124)))∧True)∧((Q0 h8)∧(Q5 h8 ws)∧(Q0 h8)∧(Q3 h8 rs)∧(Q4 h8 ws rs)∧(((q4 (q4 d3)).2.2.1+(1:Int))=d124.1∧d3.2.1=d124.2.1∧d3.2.2.1=d124.2.2.1∧d3.2.2.2.1=d124.2.2.2.1∧(q4 d3).1=(q4 d124).1∧(q4 d3).2.1=(q4 d124).2.1∧(q4 d3).2.2.1=(q4 d124).2.2.1∧(q4 d3).2.2.2.1=(q4 d124).2.2.2.1∧(q4 (q4 d3)).1=(q4 (q4 d124)).1∧(q4 (q4 d3)).2.1=(q4 (q4 d124)).2.1∧(q4 (q4 d3)).2.2.1=(q4 (q4 d124)).2.2.1∧(q4 (q4 d3)).2.2.2.1=(q4 (q4 d124)).2.2.2.1∧(([]:List SV)=[]))∧True))∧q3 d124)) ∧
     (y9=(1:Int) →
      (I64 ((q4 (q4 (q4 d3)))+(1:Int)))∧(∃ d125:QA,((sc=sc∧True∧True∧True∧True∧((q4 (q4 (q4 d3)))+(1:Int))=(q4 (q4 (q4 d125)))∧True)∧((Q0 h8)∧(Q5 h8 ws)∧(Q0 h8)∧(Q3 h8 rs)∧(Q4 h8 ws rs)∧(d3.1=d125.1∧((q4 (q4 d3)).2.2.1+(1:Int))=d125.2.1∧d3.2.2.1=d125.2.2.1∧d3.2.2.2.1=d125.2.2.2.1∧(q4 d3).1=(q4 d125).1∧(q4 d3).2.1=(q4 d125).2.1∧(q4 d3).2.2.1=(q4 d125).2.2.1∧(q4 d3).2.2.2.1=(q4 d125).2.2.2.1∧(q4 (q4 d3)).1=(q4 (q4 d125)).1∧(q4 (q4 d3)).2.1=(q4 (q4 d125)).2.1∧(q4 (q4 d3)).2.2.1=(q4 (q4 d125)).2.2.1∧(q4 (q4 d3)).2.2.2.1=(q4 (q4 d125)).2.2.2.1∧(([]:List SV)=[]))∧True))∧q3 d125)) ∧
     (y9=(2:Int) →
      (I64 ((q4 (q4 (q4 d3)))+(1:Int)))∧(∃ d126:QA,((sc=sc∧True∧True∧True∧True∧((q4 (q4 (q4 d3)))+(1:Int))=(q4 (q4 (q4 d126)))∧True)∧((Q0 h8)∧(Q5 h8 ws)∧(Q0 h8)∧(Q3 h8 rs)∧(Q4 h8 ws rs)∧(d3.1=d126.1∧d3.2.1=d126.2.1∧((q4 (q4 d3)).2.2.1+(1:Int))=d126.2.2.1∧d3.2.2.2.1=d126.2.2.2.1∧(q4 d3).1=(q4 d126).1∧(q4 d3).2.1=(q4 d126).2.1∧(q4 d3).2.2.1=(q4 d126).2.2.1∧(q4 d3).2.2.2.1=(q4 d126).2.2.2.1∧(q4 (q4 d3)).1=(q4 (q4 d126)).1∧(q4 (q4 d3)).2.1=(q4 (q4 d126)).2.1∧(q4 (q4 d3)).2.2.1=(q4 (q4 d126)).2.2.1∧(q4 (q4 d3)).2.2.2.1=(q4 (q4 d126)).2.2.2.1∧(([]:List SV)=[]))∧True))∧q3 d126)) ∧
     (y9=(3:Int) →
      (I64 ((q4 (q4 (q4 d3)))+(1:Int)))∧(∃ d127:QA,((sc=sc∧True∧True∧True∧True∧((q4 (q4 (q4 d3)))+(1:Int))=(q4 (q4 (q4 d127)))∧True)∧((Q0 h8)∧(Q5 h8 ws)∧(Q0 h8)∧(Q3 h8 rs)∧(Q4 h8 ws rs)∧(d3.1=d127.1∧d3.2.1=d127.2.1∧d3.2.2.1=d127.2.2.1∧((q4 (q4 d3)).2.2.1+(1:Int))=d127.2.2.2.1∧(q4 d3).1=(q4 d127).1∧(q4 d3).2.1=(q4 d127).2.1∧(q4 d3).2.2.1=(q4 d127).2.2.1∧(q4 d3).2.2.2.1=(q4 d127).2.2.2.1∧(q4 (q4 d3)).1=(q4 (q4 d127)).1∧(q4 (q4 d3)).2.1=(q4 (q4 d127)).2.1∧(q4 (q4 d3)).2.2.1=(q4 (q4 d127)).2.2.1∧(q4 (q4 d3)).2.2.2.1=(q4 (q4 d127)).2.2.2.1∧(([]:List SV)=[]))∧True))∧q3 d127)) ∧
     (y9=(4:Int) →
      (I64 ((q4 (q4 (q4 d3)))+(1:Int)))∧(∃ d128:QA,((sc=sc∧True∧True∧True∧True∧((q4 (q4 (q4 d3)))+(1:Int))=(q4 (q4 (q4 d128)))∧True)∧((Q0 h8)∧(Q5 h8 ws)∧(Q0 h8)∧(Q3 h8 rs)∧(Q4 h8 ws rs)∧(d3.1=d128.1∧d3.2.1=d128.2.1∧d3.2.2.1=d128.2.2.1∧d3.2.2.2.1=d128.2.2.2.1∧((q4 (q4 d3)).2.2.1+(1:Int))=(q4 d128).1∧(q4 d3).2.1=(q4 d128).2.1∧(q4 d3).2.2.1=(q4 d128).2.2.1∧(q4 d3).2.2.2.1=(q4 d128).2.2.2.1∧(q4 (q4 d3)).1=(q4 (q4 d128)).1∧(q4 (q4 d3)).2.1=(q4 (q4 d128)).2.1∧(q4 (q4 d3)).2.2.1=(q4 (q4 d128)).2.2.1∧(q4 (q4 d3)).2.2.2.1=(q4 (q4 d128)).2.2.2.1∧(([]:List SV)=[]))∧True))∧q3 d128)) ∧
     (y9=(5:Int) →
      (I64 ((q4 (q4 (q4 d3)))+(1:Int)))∧(∃ d129:QA,((sc=sc∧True∧True∧True∧True∧((q4 (q4 (q4 d3)))+(1:Int))=(q4 (q4 (q4 d129)))∧True)∧((Q0 h8)∧(Q5 h8 ws)∧(Q0 h8)∧(Q3 h8 rs)∧(Q4 h8 ws rs)∧(d3.1=d129.1∧d3.2.1=d129.2.1∧d3.2.2.1=d129.2.2.1∧d3.2.2.2.1=d129.2.2.2.1∧(q4 d3).1=(q4 d129).1∧((q4 (q4 d3)).2.2.1+(1:Int))=(q4 d129).2.1∧(q4 d3).2.2.1=(q4 d129).2.2.1∧(q4 d3).2.2.2.1=(q4 d129).2.2.2.1∧(q4 (q4 d3)).1=(q4 (q4 d129)).1∧(q4 (q4 d3)).2.1=(q4 (q4 d129)).2.1∧(q4 (q4 d3)).2.2.1=(q4 (q4 d129)).2.2.1∧(q4 (q4 d3)).2.2.2.1=(q4 (q4 d129)).2.2.2.1∧(([]:List SV)=[]))∧True))∧q3 d129)) ∧
     (y9=(6:Int) →
      (I64 ((q4 (q4 (q4 d3)))+(1:Int)))∧(∃ d130:QA,((sc=sc∧True∧True∧True∧True∧((q4 (q4 (q4 d3)))+(1:Int))=(q4 (q4 (q4 d130)))∧True)∧((Q0 h8)∧(Q5 h8 ws)∧(Q0 h8)∧(Q3 h8 rs)∧(Q4 h8 ws rs)∧(d3.1=d130.1∧d3.2.1=d130.2.1∧d3.2.2.1=d130.2.2.1∧d3.2.2.2.1=d130.2.2.2.1∧(q4 d3).1=(q4 d130).1∧(q4 d3).2.1=(q4 d130).2.1∧((q4 (q4 d3)).2.2.1+(1:Int))=(q4 d130).2.2.1∧(q4 d3).2.2.2.1=(q4 d130).2.2.2.1∧(q4 (q4 d3)).1=(q4 (q4 d130)).1∧(q4 (q4 d3)).2.1=(q4 (q4 d130)).2.1∧(q4 (q4 d3)).2.2.1=(q4 (q4 d130)).2.2.1∧(q4 (q4 d3)).2.2.2.1=(q4 (q4 d130)).2.2.2.1∧(([]:List SV)=[]))∧True))∧q3 d130)) ∧
     (y9=(7:Int) →
      (I64 ((q4 (q4 (q4 d3)))+(1:Int)))∧(∃ d131:QA,((sc=sc∧True∧True∧True∧True∧((q4 (q4 (q4 d3)))+(1:Int))=(q4 (q4 (q4 d131)))∧True)∧((Q0 h8)∧(Q5 h8 ws)∧(Q0 h8)∧(Q3 h8 rs)∧(Q4 h8 ws rs)∧(d3.1=d131.1∧d3.2.1=d131.2.1∧d3.2.2.1=d131.2.2.1∧d3.2.2.2.1=d131.2.2.2.1∧(q4 d3).1=(q4 d131).1∧(q4 d3).2.1=(q4 d131).2.1∧(q4 d3).2.2.1=(q4 d131).2.2.1∧((q4 (q4 d3)).2.2.1+(1:Int))=(q4 d131).2.2.2.1∧(q4 (q4 d3)).1=(q4 (q4 d131)).1∧(q4 (q4 d3)).2.1=(q4 (q4 d131)).2.1∧(q4 (q4 d3)).2.2.1=(q4 (q4 d131)).2.2.1∧(q4 (q4 d3)).2.2.2.1=(q4 (q4 d131)).2.2.2.1∧(([]:List SV)=[]))∧True))∧q3 d131)) ∧
     (y9=(8:Int) →
      (I64 ((q4 (q4 (q4 d3)))+(1:Int)))∧(∃ d132:QA,((sc=sc∧True∧True∧True∧True∧((q4 (q4 (q4 d3)))+(1:Int))=(q4 (q4 (q4 d132)))∧True)∧((Q0 h8)∧(Q5 h8 ws)∧(Q0 h8)∧(Q3 h8 rs)∧(Q4 h8 ws rs)∧(d3.1=d132.1∧d3.2.1=d132.2.1∧d3.2.2.1=d132.2.2.1∧d3.2.2.2.1=d132.2.2.2.1∧(q4 d3).1=(q4 d132).1∧(q4 d3).2.1=(q4 d132).2.1∧(q4 d3).2.2.1=(q4 d132).2.2.1∧(q4 d3).2.2.2.1=(q4 d132).2.2.2.1∧((q4 (q4 d3)).2.2.1+(1:Int))=(q4 (q4 d132)).1∧(q4 (q4 d3)).2.1=(q4 (q4 d132)).2.1∧(q4 (q4 d3)).2.2.1=(q4 (q4 d132)).2.2.1∧(q4 (q4 d3)).2.2.2.1=(q4 (q4 d132)).2.2.2.1∧(([]:List SV)=[]))∧True))∧q3 d132)) ∧
     (y9=(9:Int) →
      (I64 ((q4 (q4 (q4 d3)))+(1:Int)))∧(∃ d133:QA,((sc=sc∧True∧True∧True∧True∧((q4 (q4 (q4 d3)))+(1:Int))=(q4 (q4 (q4 d133)))∧True)∧((Q0 h8)∧(Q5 h8 ws)∧(Q0 h8)∧(Q3 h8 rs)∧(Q4 h8 ws rs)∧(d3.1=d133.1∧d3.2.1=d133.2.1∧d3.2.2.1=d133.2.2.1∧d3.2.2.2.1=d133.2.2.2.1∧(q4 d3).1=(q4 d133).1∧(q4 d3).2.1=(q4 d133).2.1∧(q4 d3).2.2.1=(q4 d133).2.2.1∧(q4 d3).2.2.2.1=(q4 d133).2.2.2.1∧(q4 (q4 d3)).1=(q4 (q4 d133)).1∧((q4 (q4 d3)).2.2.1+(1:Int))=(q4 (q4 d133)).2.1∧(q4 (q4 d3)).2.2.1=(q4 (q4 d133)).2.2.1∧(q4 (q4 d3)).2.2.2.1=(q4 (q4 d133)).2.2.2.1∧(([]:List SV)=[]))∧True))∧q3 d133)) ∧
     (y9=(10:Int) →
      (I64 ((q4 (q4 (q4 d3)))+(1:Int)))∧(∃ d134:QA,((sc=sc∧True∧True∧True∧True∧((q4 (q4 (q4 d3)))+(1:Int))=(q4 (q4 (q4 d134)))∧True)∧((Q0 h8)∧(Q5 h8 ws)∧(Q0 h8)∧(Q3 h8 rs)∧(Q4 h8 ws rs)∧(d3.1=d134.1∧d3.2.1=d134.2.1∧d3.2.2.1=d134.2.2.1∧d3.2.2.2.1=d134.2.2.2.1∧(q4 d3).1=(q4 d134).1∧(q4 d3).2.1=(q4 d134).2.1∧(q4 d3).2.2.1=(q4 d134).2.2.1∧(q4 d3).2.2.2.1=(q4 d134).2.2.2.1∧(q4 (q4 d3)).1=(q4 (q4 d134)).1∧(q4 (q4 d3)).2.1=(q4 (q4 d134)).2.1∧((q4 (q4 d3)).2.2.1+(1:Int))=(q4 (q4 d134)).2.2.1∧(q4 (q4 d3)).2.2.2.1=(q4 (q4 d134)).2.2.2.1∧(([]:List SV)=[]))∧True))∧q3 d134)) ∧
     (y9=(11:Int) →
      (I64 ((q4 (q4 (q4 d3)))+(1:Int)))∧(∃ d135:QA,((sc=sc∧True∧True∧True∧True∧((q4 (q4 (q4 d3)))+(1:Int))=(q4 (q4 (q4 d135)))∧True)∧((Q0 h8)∧(Q5 h8 ws)∧(Q0 h8)∧(Q3 h8 rs)∧(Q4 h8 ws rs)∧(d3.1=d135.1∧d3.2.1=d135.2.1∧d3.2.2.1=d135.2.2.1∧d3.2.2.2.1=d135.2.2.2.1∧(q4 d3).1=(q4 d135).1∧(q4 d3).2.1=(q4 d135).2.1∧(q4 d3).2.2.1=(q4 d135).2.2.1∧(q4 d3).2.2.2.1=(q4 d135).2.2.2.1∧(q4 (q4 d3)).1=(q4 (q4 d135)).1∧(q4 (q4 d3)).2.1=(q4 (q4 d135)).2.1∧(q4 (q4 d3)).2.2.1=(q4 (q4 d135)).2.2.1∧((q4 (q4 d3)).2.2.1+(1:Int))=(q4 (q4 d135)).2.2.2.1∧(([]:List SV)=[]))∧True))∧q3 d135)) ∧
     True) ∧
    (y9=(11:Int) →
     (I64 ((q4 (q4 d3)).2.2.2.1+(1:Int)))∧(0≤y9)∧(y9<(12:Int)) ∧
     (y9=(0:Int) →
      (I64 ((q4 (q4 (q4 d3)))+(1:Int)))∧(∃ d136:QA,((sc=sc∧True∧True∧True∧True∧((q4 (q4 (q4 d3)))+(1:Int))=(q4 (q4 (q4 d136)))∧True)∧((Q0 h8)∧(Q5 h8 ws)∧(Q0 h8)∧(Q3 h8 rs)∧(Q4 h8 ws rs)∧(((q4 (q4 d3)).2.2.2.1+(1:Int))=d136.1∧d3.2.1=d136.2.1∧d3.2.2.1=d136.2.2.1∧d3.2.2.2.1=d136.2.2.2.1∧(q4 d3).1=(q4 d136).1∧(q4 d3).2.1=(q4 d136).2.1∧(q4 d3).2.2.1=(q4 d136).2.2.1∧(q4 d3).2.2.2.1=(q4 d136).2.2.2.1∧(q4 (q4 d3)).1=(q4 (q4 d136)).1∧(q4 (q4 d3)).2.1=(q4 (q4 d136)).2.1∧(q4 (q4 d3)).2.2.1=(q4 (q4 d136)).2.2.1∧(q4 (q4 d3)).2.2.2.1=(q4 (q4 d136)).2.2.2.1∧(([]:List SV)=[]))∧True))∧q3 d136)) ∧
     (y9=(1:Int) →
      (I64 ((q4 (q4 (q4 d3)))+(1:Int)))∧(∃ d137:QA,((sc=sc∧True∧True∧True∧True∧((q4 (q4 (q4 d3)))+(1:Int))=(q4 (q4 (q4 d137)))∧True)∧((Q0 h8)∧(Q5 h8 ws)∧(Q0 h8)∧(Q3 h8 rs)∧(Q4 h8 ws rs)∧(d3.1=d137.1∧((q4 (q4 d3)).2.2.2.1+(1:Int))=d137.2.1∧d3.2.2.1=d137.2.2.1∧d3.2.2.2.1=d137.2.2.2.1∧(q4 d3).1=(q4 d137).1∧(q4 d3).2.1=(q4 d137).2.1∧(q4 d3).2.2.1=(q4 d137).2.2.1∧(q4 d3).2.2.2.1=(q4 d137).2.2.2.1∧(q4 (q4 d3)).1=(q4 (q4 d137)).1∧(q4 (q4 d3)).2.1=(q4 (q4 d137)).2.1∧(q4 (q4 d3)).2.2.1=(q4 (q4 d137)).2.2.1∧(q4 (q4 d3)).2.2.2.1=(q4 (q4 d137)).2.2.2.1∧(([]:List SV)=[]))∧True))∧q3 d137)) ∧
     (y9=(2:Int) →
      (I64 ((q4 (q4 (q4 d3)))+(1:Int)))∧(∃ d138:QA,((sc=sc∧True∧True∧True∧True∧((q4 (q4 (q4 d3)))+(1:Int))=(q4 (q4 (q4 d138)))∧True)∧((Q0 h8)∧(Q5 h8 ws)∧(Q0 h8)∧(Q3 h8 rs)∧(Q4 h8 ws rs)∧(d3.1=d138.1∧d3.2.1=d138.2.1∧((q4 (q4 d3)).2.2.2.1+(1:Int))=d138.2.2.1∧d3.2.2.2.1=d138.2.2.2.1∧(q4 d3).1=(q4 d138).1∧(q4 d3).2.1=(q4 d138).2.1∧(q4 d3).2.2.1=(q4 d138).2.2.1∧(q4 d3).2.2.2.1=(q4 d138).2.2.2.1∧(q4 (q4 d3)).1=(q4 (q4 d138)).1∧(q4 (q4 d3)).2.1=(q4 (q4 d138)).2.1∧(q4 (q4 d3)).2.2.1=(q4 (q4 d138)).2.2.1∧(q4 (q4 d3)).2.2.2.1=(q4 (q4 d138)).2.2.2.1∧(([]:List SV)=[]))∧True))∧q3 d138)) ∧
     (y9=(3:Int) →
      (I64 ((q4 (q4 (q4 d3)))+(1:Int)))∧(∃ d139:QA,((sc=sc∧True∧True∧True∧True∧((q4 (q4 (q4 d3)))+(1:Int))=(q4 (q4 (q4 d139)))∧True)∧((Q0 h8)∧(Q5 h8 ws)∧(Q0 h8)∧(Q3 h8 rs)∧(Q4 h8 ws rs)∧(d3.1=d139.1∧d3.2.1=d139.2.1∧d3.2.2.1=d139.2.2.1∧((q4 (q4 d3)).2.2.2.1+(1:Int))=d139.2.2.2.1∧(q4 d3).1=(q4 d139).1∧(q4 d3).2.1=(q4 d139).2.1∧(q4 d3).2.2.1=(q4 d139).2.2.1∧(q4 d3).2.2.2.1=(q4 d139).2.2.2.1∧(q4 (q4 d3)).1=(q4 (q4 d139)).1∧(q4 (q4 d3)).2.1=(q4 (q4 d139)).2.1∧(q4 (q4 d3)).2.2.1=(q4 (q4 d139)).2.2.1∧(q4 (q4 d3)).2.2.2.1=(q4 (q4 d139)).2.2.2.1∧(([]:List SV)=[]))∧True))∧q3 d139)) ∧
     (y9=(4:Int) →
      (I64 ((q4 (q4 (q4 d3)))+(1:Int)))∧(∃ d140:QA,((sc=sc∧True∧True∧True∧True∧((q4 (q4 (q4 d3)))+(1:Int))=(q4 (q4 (q4 d140)))∧True)∧((Q0 h8)∧(Q5 h8 ws)∧(Q0 h8)∧(Q3 h8 rs)∧(Q4 h8 ws rs)∧(d3.1=d140.1∧d3.2.1=d140.2.1∧d3.2.2.1=d140.2.2.1∧d3.2.2.2.1=d140.2.2.2.1∧((q4 (q4 d3)).2.2.2.1+(1:Int))=(q4 d140).1∧(q4 d3).2.1=(q4 d140).2.1∧(q4 d3).2.2.1=(q4 d140).2.2.1∧(q4 d3).2.2.2.1=(q4 d140).2.2.2.1∧(q4 (q4 d3)).1=(q4 (q4 d140)).1∧(q4 (q4 d3)).2.1=(q4 (q4 d140)).2.1∧(q4 (q4 d3)).2.2.1=(q4 (q4 d140)).2.2.1∧(q4 (q4 d3)).2.2.2.1=(q4 (q4 d140)).2.2.2.1∧(([]:List SV)=[]))∧True))∧q3 d140)) ∧
     (y9=(5:Int) →
      (I64 ((q4 (q4 (q4 d3)))+(1:Int)))∧(∃ d141:QA,((sc=sc∧True∧True∧True∧True∧((q4 (q4 (q4 d3)))+(1:Int))=(q4 (q4 (q4 d141)))∧True)∧((Q0 h8)∧(Q5 h8 ws)∧(Q0 h8)∧(Q3 h8 rs)∧(Q4 h8 ws rs)∧(d3.1=d141.1∧d3.2.1=d141.2.1∧d3.2.2.1=d141.2.2.1∧d3.2.2.2.1=d141.2.2.2.1∧(q4 d3).1=(q4 d141).1∧((q4 (q4 d3)).2.2.2.1+(1:Int))=(q4 d141).2.1∧(q4 d3).2.2.1=(q4 d141).2.2.1∧(q4 d3).2.2.2.1=(q4 d141).2.2.2.1∧(q4 (q4 d3)).1=(q4 (q4 d141)).1∧(q4 (q4 d3)).2.1=(q4 (q4 d141)).2.1∧(q4 (q4 d3)).2.2.1=(q4 (q4 d141)).2.2.1∧(q4 (q4 d3)).2.2.2.1=(q4 (q4 d141)).2.2.2.1∧(([]:List SV)=[]))∧True))∧q3 d141)) ∧
     (y9=(6:Int) →
      (I64 ((q4 (q4 (q4 d3)))+(1:Int)))∧(∃ d142:QA,((sc=sc∧True∧True∧True∧True∧((q4 (q4 (q4 d3)))+(1:Int))=(q4 (q4 (q4 d142)))∧True)∧((Q0 h8)∧(Q5 h8 ws)∧(Q0 h8)∧(Q3 h8 rs)∧(Q4 h8 ws rs)∧(d3.1=d142.1∧d3.2.1=d142.2.1∧d3.2.2.1=d142.2.2.1∧d3.2.2.2.1=d142.2.2.2.1∧(q4 d3).1=(q4 d142).1∧(q4 d3).2.1=(q4 d142).2.1∧((q4 (q4 d3)).2.2.2.1+(1:Int))=(q4 d142).2.2.1∧(q4 d3).2.2.2.1=(q4 d142).2.2.2.1∧(q4 (q4 d3)).1=(q4 (q4 d142)).1∧(q4 (q4 d3)).2.1=(q4 (q4 d142)).2.1∧(q4 (q4 d3)).2.2.1=(q4 (q4 d142)).2.2.1∧(q4 (q4 d3)).2.2.2.1=(q4 (q4 d142)).2.2.2.1∧(([]:List SV)=[]))∧True))∧q3 d142)) ∧
     (y9=(7:Int) →
      (I64 ((q4 (q4 (q4 d3)))+(1:Int)))∧(∃ d143:QA,((sc=sc∧True∧True∧True∧True∧((q4 (q4 (q4 d3)))+(1:Int))=(q4 (q4 (q4 d143)))∧True)∧((Q0 h8)∧(Q5 h8 ws)∧(Q0 h8)∧(Q3 h8 rs)∧(Q4 h8 ws rs)∧(d3.1=d143.1∧d3.2.1=d143.2.1∧d3.2.2.1=d143.2.2.1∧d3.2.2.2.1=d143.2.2.2.1∧(q4 d3).1=(q4 d143).1∧(q4 d3).2.1=(q4 d143).2.1∧(q4 d3).2.2.1=(q4 d143).2.2.1∧((q4 (q4 d3)).2.2.2.1+(1:Int))=(q4 d143).2.2.2.1∧(q4 (q4 d3)).1=(q4 (q4 d143)).1∧(q4 (q4 d3)).2.1=(q4 (q4 d143)).2.1∧(q4 (q4 d3)).2.2.1=(q4 (q4 d143)).2.2.1∧(q4 (q4 d3)).2.2.2.1=(q4 (q4 d143)).2.2.2.1∧(([]:List SV)=[]))∧True))∧q3 d143)) ∧
     (y9=(8:Int) →
      (I64 ((q4 (q4 (q4 d3)))+(1:Int)))∧(∃ d144:QA,((sc=sc∧True∧True∧True∧True∧((q4 (q4 (q4 d3)))+(1:Int))=(q4 (q4 (q4 d144)))∧True)∧((Q0 h8)∧(Q5 h8 ws)∧(Q0 h8)∧(Q3 h8 rs)∧(Q4 h8 ws rs)∧(d3.1=d144.1∧d3.2.1=d144.2.1∧d3.2.2.1=d144.2.2.1∧d3.2.2.2.1=d144.2.2.2.1∧(q4 d3).1=(q4 d144).1∧(q4 d3).2.1=(q4 d144).2.1∧(q4 d3).2.2.1=(q4 d144).2.2.1∧(q4 d3).2.2.2.1=(q4 d144).2.2.2.1∧((q4 (q4 d3)).2.2.2.1+(1:Int))=(q4 (q4 d144)).1∧(q4 (q4 d3)).2.1=(q4 (q4 d144)).2.1∧(q4 (q4 d3)).2.2.1=(q4 (q4 d144)).2.2.1∧(q4 (q4 d3)).2.2.2.1=(q4 (q4 d144)).2.2.2.1∧(([]:List SV)=[]))∧True))∧q3 d144)) ∧
     (y9=(9:Int) →
      (I64 ((q4 (q4 (q4 d3)))+(1:Int)))∧(∃ d145:QA,((sc=sc∧True∧True∧True∧True∧((q4 (q4 (q4 d3)))+(1:Int))=(q4 (q4 (q4 d145)))∧True)∧((Q0 h8)∧(Q5 h8 ws)∧(Q0 h8)∧(Q3 h8 rs)∧(Q4 h8 ws rs)∧(d3.1=d145.1∧d3.2.1=d145.2.1∧d3.2.2.1=d145.2.2.1∧d3.2.2.2.1=d145.2.2.2.1∧(q4 d3).1=(q4 d145).1∧(q4 d3).2.1=(q4 d145).2.1∧(q4 d3).2.2.1=(q4 d145).2.2.1∧(q4 d3).2.2.2.1=(q4 d145).2.2.2.1∧(q4 (q4 d3)).1=(q4 (q4 d145)).1∧((q4 (q4 d3)).2.2.2.1+(1:Int))=(q4 (q4 d145)).2.1∧(q4 (q4 d3)).2.2.1=(q4 (q4 d145)).2.2.1∧(q4 (q4 d3)).2.2.2.1=(q4 (q4 d145)).2.2.2.1∧(([]:List SV)=[]))∧True))∧q3 d145)) ∧
     (y9=(10:Int) →
      (I64 ((q4 (q4 (q4 d3)))+(1:Int)))∧(∃ d146:QA,((sc=sc∧True∧True∧True∧True∧((q4 (q4 (q4 d3)))+(1:Int))=(q4 (q4 (q4 d146)))∧True)∧((Q0 h8)∧(Q5 h8 ws)∧(Q0 h8)∧(Q3 h8 rs)∧(Q4 h8 ws rs)∧(d3.1=d146.1∧d3.2.1=d146.2.1∧d3.2.2.1=d146.2.2.1∧d3.2.2.2.1=d146.2.2.2.1∧(q4 d3).1=(q4 d146).1∧(q4 d3).2.1=(q4 d146).2.1∧(q4 d3).2.2.1=(q4 d146).2.2.1∧(q4 d3).2.2.2.1=(q4 d146).2.2.2.1∧(q4 (q4 d3)).1=(q4 (q4 d146)).1∧(q4 (q4 d3)).2.1=(q4 (q4 d146)).2.1∧((q4 (q4 d3)).2.2.2.1+(1:Int))=(q4 (q4 d146)).2.2.1∧(q4 (q4 d3)).2.2.2.1=(q4 (q4 d146)).2.2.2.1∧(([]:List SV)=[]))∧True))∧q3 d146)) ∧
     (y9=(11:Int) →
      (I64 ((q4 (q4 (q4 d3)))+(1:Int)))∧(∃ d147:QA,((sc=sc∧True∧True∧True∧True∧((q4 (q4 (q4 d3)))+(1:Int))=(q4 (q4 (q4 d147)))∧True)∧((Q0 h8)∧(Q5 h8 ws)∧(Q0 h8)∧(Q3 h8 rs)∧(Q4 h8 ws rs)∧(d3.1=d147.1∧d3.2.1=d147.2.1∧d3.2.2.1=d147.2.2.1∧d3.2.2.2.1=d147.2.2.2.1∧(q4 d3).1=(q4 d147).1∧(q4 d3).2.1=(q4 d147).2.1∧(q4 d3).2.2.1=(q4 d147).2.2.1∧(q4 d3).2.2.2.1=(q4 d147).2.2.2.1∧(q4 (q4 d3)).1=(q4 (q4 d147)).1∧(q4 (q4 d3)).2.1=(q4 (q4 d147)).2.1∧(q4 (q4 d3)).2.2.1=(q4 (q4 d147)).2.2.1∧((q4 (q4 d3)).2.2.2.1+(1:Int))=(q4 (q4 d147)).2.2.2.1∧(([]:List SV)=[]))∧True))∧q3 d147)) ∧
     True) ∧
    True) ∧
   (y8=false →
    ∃ (aO:Int×Int×Int×Int×Int×Int×Int×Int×Int×Int×Int×Int) (fT:(List (Int×Int))×Int×Int),((sc=sc∧True∧True∧True∧(1000:Int)=(1000:Int)∧True∧(0:Int)=fT.2.1∧(0:Int)=fT.2.2∧True)∧((Q0 h8)∧(Q3 h8 rs)∧(Q4 h8 ws rs)∧(d3.1=aO.1∧d3.2.1=aO.2.1∧d3.2.2.1=aO.2.2.1∧d3.2.2.2.1=aO.2.2.2.1∧(q4 d3).1=(q4 aO).1∧(q4 d3).2.1=(q4 aO).2.1∧(q4 d3).2.2.1=(q4 aO).2.2.1∧(q4 d3).2.2.2.1=(q4 aO).2.2.2.1∧(q4 (q4 d3)).1=(q4 (q4 aO)).1∧(q4 (q4 d3)).2.1=(q4 (q4 aO)).2.1∧(q4 (q4 d3)).2.2.1=(q4 (q4 aO)).2.2.1∧(q4 (q4 d3)).2.2.2.1=(q4 (q4 aO)).2.2.2∧(([]:List SV)=[]))∧(([]:List (Int×Int))=fT.1∧false=false)∧True)) ∧
    LoopP (fun (d150:(List (Int×Int))×Int×Int) (qh:((List (Int×Int))×Int×Int)→Prop) =>
     ∀ (oz:Bool),oz=(decide (d150.2.2<(lI (WO h8 ws rs))))→(oz=true →
      ∃ (al:Int×Int×Int×Int×Int×Int×Int×Int×Int×Int×Int×Int×(List (Int×Int))×Int×Int) (gZ:Int×Int),((sc=sc∧True∧True∧True∧(1000:Int)=(1000:Int)∧True∧d150.2.1=(q4 (q4 (q4 al))).2.1∧d150.2.2=(q4 (q4 (q4 al))).2.2∧(0:Int)=gZ.1∧(0:Int)=gZ.2∧True)∧((Q0 h8)∧(Q3 h8 rs)∧(Q4 h8 ws rs)∧(aO.1=al.1∧aO.2.1=al.2.1∧aO.2.2.1=al.2.2.1∧aO.2.2.2.1=al.2.2.2.1∧(q4 aO).1=(q4 al).1∧(q4 aO).2.1=(q4 al).2.1∧(q4 aO).2.2.1=(q4 al).2.2.1∧(q4 aO).2.2.2.1=(q4 al).2.2.2.1∧(q4 (q4 aO)).1=(q4 (q4 al)).1∧(q4 (q4 aO)).2.1=(q4 (q4 al)).2.1∧(q4 (q4 aO)).2.2.1=(q4 (q4 al)).2.2.1∧(q4 (q4 aO)).2.2.2=(q4 (q4 al)).2.2.2.1∧(([]:List SV)=[]))∧(d150.1=(q4 (q4 (q4 al))).1∧false=false)∧True)) ∧
      LoopP (fun (d153:Int×Int) (nM:(Int×Int)→Prop) =>
       (0≤(q4 (q4 (q4 al))).2.2)∧((q4 (q4 (q4 al))).2.2<(List.length (WO h8 ws rs)))∧∀ (oA:List UInt8),oA=(gD (WO h8 ws rs) (q4 (q4 (q4 al))).2.2 [])→∀ (oB:Bool),oB=(decide (d153.2<(lI oA)))→(oB=true →
        (0≤(q4 (q4 (q4 al))).2.2)∧((q4 (q4 (q4 al))).2.2<(List.length (WO h8 ws rs)))∧∀ (nN:List UInt8),nN=(gD (WO h8 ws rs) (q4 (q4 (q4 al))).2.2 [])→(0≤d153.2)∧(d153.2<(List.length nN))∧∀ (oC:Int),oC=((UInt8.toNat (gD nN d153.2 0):Nat):Int)→∀ (nO:Bool),nO=(oC==(120:Int))→(nO=true →
         (I64 (d153.1+(1:Int)))∧(I64 (d153.2+(1:Int)))∧(∃ d154:Int×Int,((sc=sc∧True∧True∧True∧(1000:Int)=(1000:Int)∧True∧(q4 (q4 (q4 al))).2.1=(q4 (q4 (q4 al))).2.1∧(q4 (q4 (q4 al))).2.2=(q4 (q4 (q4 al))).2.2∧(d153.1+(1:Int))=d154.1∧(d153.2+(1:Int))=d154.2∧True)∧((Q0 h8)∧(Q3 h8 rs)∧(Q4 h8 ws rs)∧(al.1=al.1∧al.2.1=al.2.1∧al.2.2.1=al.2.2.1∧al.2.2.2.1=al.2.2.2.1∧(q4 al).1=(q4 al).1∧(q4 al).2.1=(q4 al).2.1∧(q4 al).2.2.1=(q4 al).2.2.1∧(q4 al).2.2.2.1=(q4 al).2.2.2.1∧(q4 (q4 al)).1=(q4 (q4 al)).1∧(q4 (q4 al)).2.1=(q4 (q4 al)).2.1∧(q4 (q4 al)).2.2.1=(q4 (q4 al)).2.2.1∧(q4 (q4 al)).2.2.2.1=(q4 (q4 al)).2.2.2.1∧(([]:List SV)=[]))∧((q4 (q4 (q4 al))).1=(q4 (q4 (q4 al))).1∧false=false)∧True))∧nM d154)) ∧
        (nO=false →
         (I64 (d153.2+(1:Int)))∧(∃ d155:Int×Int,((sc=sc∧True∧True∧True∧(1000:Int)=(1000:Int)∧True∧(q4 (q4 (q4 al))).2.1=(q4 (q4 (q4 al))).2.1∧(q4 (q4 (q4 al))).2.2=(q4 (q4 (q4 al))).2.2∧d153.1=d155.1∧(d153.2+(1:Int))=d155.2∧True)∧((Q0 h8)∧(Q3 h8 rs)∧(Q4 h8 ws rs)∧(al.1=al.1∧al.2.1=al.2.1∧al.2.2.1=al.2.2.1∧al.2.2.2.1=al.2.2.2.1∧(q4 al).1=(q4 al).1∧(q4 al).2.1=(q4 al).2.1∧(q4 al).2.2.1=(q4 al).2.2.1∧(q4 al).2.2.2.1=(q4 al).2.2.2.1∧(q4 (q4 al)).1=(q4 (q4 al)).1∧(q4 (q4 al)).2.1=(q4 (q4 al)).2.1∧(q4 (q4 al)).2.2.1=(q4 (q4 al)).2.2.1∧(q4 (q4 al)).2.2.2.1=(q4 (q4 al)).2.2.2.1∧(([]:List SV)=[]))∧((q4 (q4 (q4 al))).1=(q4 (q4 (q4 al))).1∧false=false)∧True))∧nM d155))) ∧
       (oB=false →
        (((List.length (q4 (q4 (q4 al))).1)+(List.length [((1:Int),d153.1)]))*16≤70368744177664)∧∃ (ae:Int×Int×Int×Int×Int×Int×Int×Int×Int×Int×Int×Int×(List (Int×Int))×Int) (g7:Int×Int),((sc=sc∧True∧True∧True∧(1000:Int)=(1000:Int)∧True∧(q4 (q4 (q4 al))).2.1=g7.1∧(q4 (q4 (q4 al))).2.2=(q4 (q4 (q4 ae))).2∧(0:Int)=g7.2∧True)∧((Q0 h8)∧(Q3 h8 rs)∧(Q4 h8 ws rs)∧(al.1=ae.1∧al.2.1=ae.2.1∧al.2.2.1=ae.2.2.1∧al.2.2.2.1=ae.2.2.2.1∧(q4 al).1=(q4 ae).1∧(q4 al).2.1=(q4 ae).2.1∧(q4 al).2.2.1=(q4 ae).2.2.1∧(q4 al).2.2.2.1=(q4 ae).2.2.2.1∧(q4 (q4 al)).1=(q4 (q4 ae)).1∧(q4 (q4 al)).2.1=(q4 (q4 ae)).2.1∧(q4 (q4 al)).2.2.1=(q4 (q4 ae)).2.2.1∧(q4 (q4 al)).2.2.2.1=(q4 (q4 ae)).2.2.2.1∧(([]:List SV)=[]))∧(((q4 (q4 (q4 al))).1++[((1:Int),d153.1)])=(q4 (q4 (q4 ae))).1∧false=false)∧True)) ∧
        LoopP (fun (d158:Int×Int) (dh:(Int×Int)→Prop) =>
         ∀ (oD:Bool),oD=(decide (d158.2<(hkN 12 h8)))→(oD=true →
          (0≤(q4 (q4 (q4 ae))).2)∧((q4 (q4 (q4 ae))).2<(List.length (Zg (hkN 12 h8) 10 rs)))∧∀ (oE:Int),oE=(gD (Zg (hkN 12 h8) 10 rs) (q4 (q4 (q4 ae))).2 0)→(InK .u64 d158.2)∧(0≤d158.2)∧∀ (qi:Int),qi=(At .i64 oE d158.2)→∀ (bC:Int),bC=(YQ .and .i64 qi (1:Int))→(0≤d158.2)∧(d158.2<(12:Int)) ∧
          (d158.2=(0:Int) →
           (I64 (bC*ae.1))∧(I64 (d158.1+(bC*ae.1)))∧(I64 (d158.2+(1:Int)))∧(∃ d159:Int×Int,((sc=sc∧True∧True∧True∧(1000:Int)=(1000:Int)∧True∧(d158.1+(bC*ae.1))=d159.1∧(q4 (q4 (q4 ae))).2=(q4 (q4 (q4 ae))).2∧(d158.2+(1:Int))=d159.2∧True)∧((Q0 h8)∧(Q3 h8 rs)∧(Q4 h8 ws rs)∧(ae.1=ae.1∧ae.2.1=ae.2.1∧ae.2.2.1=ae.2.2.1∧ae.2.2.2.1=ae.2.2.2.1∧(q4 ae).1=(q4 ae).1∧(q4 ae).2.1=(q4 ae).2.1∧(q4 ae).2.2.1=(q4 ae).2.2.1∧(q4 ae).2.2.2.1=(q4 ae).2.2.2.1∧(q4 (q4 ae)).1=(q4 (q4 ae)).1∧(q4 (q4 ae)).2.1=(q4 (q4 ae)).2.1∧(q4 (q4 ae)).2.2.1=(q4 (q4 ae)).2.2.1∧(q4 (q4 ae)).2.2.2.1=(q4 (q4 ae)).2.2.2.1∧(([]:List SV)=[]))∧((q4 (q4 (q4 ae))).1=(q4 (q4 (q4 ae))).1∧false=false)∧True))∧dh d159)) ∧
          (d158.2=(1:Int) →
           (I64 (bC*ae.2.1))∧(I64 (d158.1+(bC*ae.2.1)))∧(I64 (d158.2+(1:Int)))∧(∃ d160:Int×Int,((sc=sc∧True∧True∧True∧(1000:Int)=(1000:Int)∧True∧(d158.1+(bC*ae.2.1))=d160.1∧(q4 (q4 (q4 ae))).2=(q4 (q4 (q4 ae))).2∧(d158.2+(1:Int))=d160.2∧True)∧((Q0 h8)∧(Q3 h8 rs)∧(Q4 h8 ws rs)∧(ae.1=ae.1∧ae.2.1=ae.2.1∧ae.2.2.1=ae.2.2.1∧ae.2.2.2.1=ae.2.2.2.1∧(q4 ae).1=(q4 ae).1∧(q4 ae).2.1=(q4 ae).2.1∧(q4 ae).2.2.1=(q4 ae).2.2.1∧(q4 ae).2.2.2.1=(q4 ae).2.2.2.1∧(q4 (q4 ae)).1=(q4 (q4 ae)).1∧(q4 (q4 ae)).2.1=(q4 (q4 ae)).2.1∧(q4 (q4 ae)).2.2.1=(q4 (q4 ae)).2.2.1∧(q4 (q4 ae)).2.2.2.1=(q4 (q4 ae)).2.2.2.1∧(([]:List SV)=[]))∧((q4 (q4 (q4 ae))).1=(q4 (q4 (q4 ae))).1∧false=false)∧True))∧dh d160)) ∧
          (d158.2=(2:Int) →
           (I64 (bC*ae.2.2.1))∧(I64 (d158.1+(bC*ae.2.2.1)))∧(I64 (d158.2+(1:Int)))∧(∃ d161:Int×Int,((sc=sc∧True∧True∧True∧(1000:Int)=(1000:Int)∧True∧(d158.1+(bC*ae.2.2.1))=d161.1∧(q4 (q4 (q4 ae))).2=(q4 (q4 (q4 ae))).2∧(d158.2+(1:Int))=d161.2∧True)∧((Q0 h8)∧(Q3 h8 rs)∧(Q4 h8 ws rs)∧(ae.1=ae.1∧ae.2.1=ae.2.1∧ae.2.2.1=ae.2.2.1∧ae.2.2.2.1=ae.2.2.2.1∧(q4 ae).1=(q4 ae).1∧(q4 ae).2.1=(q4 ae).2.1∧(q4 ae).2.2.1=(q4 ae).2.2.1∧(q4 ae).2.2.2.1=(q4 ae).2.2.2.1∧(q4 (q4 ae)).1=(q4 (q4 ae)).1∧(q4 (q4 ae)).2.1=(q4 (q4 ae)).2.1∧(q4 (q4 ae)).2.2.1=(q4 (q4 ae)).2.2.1∧(q4 (q4 ae)).2.2.2.1=(q4 (q4 ae)).2.2.2.1∧(([]:List SV)=[]))∧((q4 (q4 (q4 ae))).1=(q4 (q4 (q4 ae))).1∧false=false)∧True))∧dh d161)) ∧
          (d158.2=(3:Int) →
           (I64 (bC*ae.2.2.2.1))∧(I64 (d158.1+(bC*ae.2.2.2.1)))∧(I64 (d158.2+(1:Int)))∧(∃ d162:Int×Int,((sc=sc∧True∧True∧True∧(1000:Int)=(1000:Int)∧True∧(d158.1+(bC*ae.2.2.2.1))=d162.1∧(q4 (q4 (q4 ae))).2=(q4 (q4 (q4 ae))).2∧(d158.2+(1:Int))=d162.2∧True)∧((Q0 h8)∧(Q3 h8 rs)∧(Q4 h8 ws rs)∧(ae.1=ae.1∧ae.2.1=ae.2.1∧ae.2.2.1=ae.2.2.1∧ae.2.2.2.1=ae.2.2.2.1∧(q4 ae).1=(q4 ae).1∧(q4 ae).2.1=(q4 ae).2.1∧(q4 ae).2.2.1=(q4 ae).2.2.1∧(q4 ae).2.2.2.1=(q4 ae).2.2.2.1∧(q4 (q4 ae)).1=(q4 (q4 ae)).1∧(q4 (q4 ae)).2.1=(q4 (q4 ae)).2.1∧(q4 (q4 ae)).2.2.1=(q4 (q4 ae)).2.2.1∧(q4 (q4 ae)).2.2.2.1=(q4 (q4 ae)).2.2.2.1∧(([]:List SV)=[]))∧((q4 (q4 (q4 ae))).1=(q4 (q4 (q4 ae))).1∧false=false)∧True))∧dh d162)) ∧
          (d158.2=(4:Int) →
           (I64 (bC*(q4 ae).1))∧(I64 (d158.1+(bC*(q4 ae).1)))∧(I64 (d158.2+(1:Int)))∧(∃ d163:Int×Int,((sc=sc∧True∧True∧True∧(1000:Int)=(1000:Int)∧True∧(d158.1+(bC*(q4 ae).1))=d163.1∧(q4 (q4 (q4 ae))).2=(q4 (q4 (q4 ae))).2∧(d158.2+(1:Int))=d163.2∧True)∧((Q0 h8)∧(Q3 h8 rs)∧(Q4 h8 ws rs)∧(ae.1=ae.1∧ae.2.1=ae.2.1∧ae.2.2.1=ae.2.2.1∧ae.2.2.2.1=ae.2.2.2.1∧(q4 ae).1=(q4 ae).1∧(q4 ae).2.1=(q4 ae).2.1∧(q4 ae).2.2.1=(q4 ae).2.2.1∧(q4 ae).2.2.2.1=(q4 ae).2.2.2.1∧(q4 (q4 ae)).1=(q4 (q4 ae)).1∧(q4 (q4 ae)).2.1=(q4 (q4 ae)).2.1∧(q4 (q4 ae)).2.2.1=(q4 (q4 ae)).2.2.1∧(q4 (q4 ae)).2.2.2.1=(q4 (q4 ae)).2.2.2.1∧(([]:List SV)=[]))∧((q4 (q4 (q4 ae))).1=(q4 (q4 (q4 ae))).1∧false=false)∧True))∧dh d163)) ∧
          (d158.2=(5:Int) →
           (I64 (bC*(q4 ae).2.1))∧(I64 (d158.1+(bC*(q4 ae).2.1)))∧(I64 (d158.2+(1:Int)))∧(∃ d164:Int×Int,((sc=sc∧True∧True∧True∧(1000:Int)=(1000:Int)∧True∧(d158.1+(bC*(q4 ae).2.1))=d164.1∧(q4 (q4 (q4 ae))).2=(q4 (q4 (q4 ae))).2∧(d158.2+(1:Int))=d164.2∧True)∧((Q0 h8)∧(Q3 h8 rs)∧(Q4 h8 ws rs)∧(ae.1=ae.1∧ae.2.1=ae.2.1∧ae.2.2.1=ae.2.2.1∧ae.2.2.2.1=ae.2.2.2.1∧(q4 ae).1=(q4 ae).1∧(q4 ae).2.1=(q4 ae).2.1∧(q4 ae).2.2.1=(q4 ae).2.2.1∧(q4 ae).2.2.2.1=(q4 ae).2.2.2.1∧(q4 (q4 ae)).1=(q4 (q4 ae)).1∧(q4 (q4 ae)).2.1=(q4 (q4 ae)).2.1∧(q4 (q4 ae)).2.2.1=(q4 (q4 ae)).2.2.1∧(q4 (q4 ae)).2.2.2.1=(q4 (q4 ae)).2.2.2.1∧(([]:List SV)=[]))∧((q4 (q4 (q4 ae))).1=(q4 (q4 (q4 ae))).1∧false=false)∧True))∧dh d164)) ∧
          (d158.2=(6:Int) →
           (I64 (bC*(q4 ae).2.2.1))∧(I64 (d158.1+(bC*(q4 ae).2.2.1)))∧(I64 (d158.2+(1:Int)))∧(∃ d165:Int×Int,((sc=sc∧True∧True∧True∧(1000:Int)=(1000:Int)∧True∧(d158.1+(bC*(q4 ae).2.2.1))=d165.1∧(q4 (q4 (q4 ae))).2=(q4 (q4 (q4 ae))).2∧(d158.2+(1:Int))=d165.2∧True)∧((Q0 h8)∧(Q3 h8 rs)∧(Q4 h8 ws rs)∧(ae.1=ae.1∧ae.2.1=ae.2.1∧ae.2.2.1=ae.2.2.1∧ae.2.2.2.1=ae.2.2.2.1∧(q4 ae).1=(q4 ae).1∧(q4 ae).2.1=(q4 ae).2.1∧(q4 ae).2.2.1=(q4 ae).2.2.1∧(q4 ae).2.2.2.1=(q4 ae).2.2.2.1∧(q4 (q4 ae)).1=(q4 (q4 ae)).1∧(q4 (q4 ae)).2.1=(q4 (q4 ae)).2.1∧(q4 (q4 ae)).2.2.1=(q4 (q4 ae)).2.2.1∧(q4 (q4 ae)).2.2.2.1=(q4 (q4 ae)).2.2.2.1∧(([]:List SV)=[]))∧((q4 (q4 (q4 ae))).1=(q4 (q4 (q4 ae))).1∧false=false)∧True))∧dh d165)) ∧
          (d158.2=(7:Int) →
           (I64 (bC*(q4 ae).2.2.2.1))∧(I64 (d158.1+(bC*(q4 ae).2.2.2.1)))∧(I64 (d158.2+(1:Int)))∧(∃ d166:Int×Int,((sc=sc∧True∧True∧True∧(1000:Int)=(1000:Int)∧True∧(d158.1+(bC*(q4 ae).2.2.2.1))=d166.1∧(q4 (q4 (q4 ae))).2=(q4 (q4 (q4 ae))).2∧(d158.2+(1:Int))=d166.2∧True)∧((Q0 h8)∧(Q3 h8 rs)∧(Q4 h8 ws rs)∧(ae.1=ae.1∧ae.2.1=ae.2.1∧ae.2.2.1=ae.2.2.1∧ae.2.2.2.1=ae.2.2.2.1∧(q4 ae).1=(q4 ae).1∧(q4 ae).2.1=(q4 ae).2.1∧(q4 ae).2.2.1=(q4 ae).2.2.1∧(q4 ae).2.2.2.1=(q4 ae).2.2.2.1∧(q4 (q4 ae)).1=(q4 (q4 ae)).1∧(q4 (q4 ae)).2.1=(q4 (q4 ae)).2.1∧(q4 (q4 ae)).2.2.1=(q4 (q4 ae)).2.2.1∧(q4 (q4 ae)).2.2.2.1=(q4 (q4 ae)).2.2.2.1∧(([]:List SV)=[]))∧((q4 (q4 (q4 ae))).1=(q4 (q4 (q4 ae))).1∧false=false)∧True))∧dh d166)) ∧
          (d158.2=(8:Int) →
           (I64 (bC*(q4 (q4 ae)).1))∧(I64 (d158.1+(bC*(q4 (q4 ae)).1)))∧(I64 (d158.2+(1:Int)))∧(∃ d167:Int×Int,((sc=sc∧True∧True∧True∧(1000:Int)=(1000:Int)∧True∧(d158.1+(bC*(q4 (q4 ae)).1))=d167.1∧(q4 (q4 (q4 ae))).2=(q4 (q4 (q4 ae))).2∧(d158.2+(1:Int))=d167.2∧True)∧((Q0 h8)∧(Q3 h8 rs)∧(Q4 h8 ws rs)∧(ae.1=ae.1∧ae.2.1=ae.2.1∧ae.2.2.1=ae.2.2.1∧ae.2.2.2.1=ae.2.2.2.1∧(q4 ae).1=(q4 ae).1∧(q4 ae).2.1=(q4 ae).2.1∧(q4 ae).2.2.1=(q4 ae).2.2.1∧(q4 ae).2.2.2.1=(q4 ae).2.2.2.1∧(q4 (q4 ae)).1=(q4 (q4 ae)).1∧(q4 (q4 ae)).2.1=(q4 (q4 ae)).2.1∧(q4 (q4 ae)).2.2.1=(q4 (q4 ae)).2.2.1∧(q4 (q4 ae)).2.2.2.1=(q4 (q4 ae)).2.2.2.1∧(([]:List SV)=[]))∧((q4 (q4 (q4 ae))).1=(q4 (q4 (q4 ae))).1∧false=false)∧True))∧dh d167)) ∧
          (d158.2=(9:Int) →
           (I64 (bC*(q4 (q4 ae)).2.1))∧(I64 (d158.1+(bC*(q4 (q4 ae)).2.1)))∧(I64 (d158.2+(1:Int)))∧(∃ d168:Int×Int,((sc=sc∧True∧True∧True∧(1000:Int)=(1000:Int)∧True∧(d158.1+(bC*(q4 (q4 ae)).2.1))=d168.1∧(q4 (q4 (q4 ae))).2=(q4 (q4 (q4 ae))).2∧(d158.2+(1:Int))=d168.2∧True)∧((Q0 h8)∧(Q3 h8 rs)∧(Q4 h8 ws rs)∧(ae.1=ae.1∧ae.2.1=ae.2.1∧ae.2.2.1=ae.2.2.1∧ae.2.2.2.1=ae.2.2.2.1∧(q4 ae).1=(q4 ae).1∧(q4 ae).2.1=(q4 ae).2.1∧(q4 ae).2.2.1=(q4 ae).2.2.1∧(q4 ae).2.2.2.1=(q4 ae).2.2.2.1∧(q4 (q4 ae)).1=(q4 (q4 ae)).1∧(q4 (q4 ae)).2.1=(q4 (q4 ae)).2.1∧(q4 (q4 ae)).2.2.1=(q4 (q4 ae)).2.2.1∧(q4 (q4 ae)).2.2.2.1=(q4 (q4 ae)).2.2.2.1∧(([]:List SV)=[]))∧((q4 (q4 (q4 ae))).1=(q4 (q4 (q4 ae))).1∧false=false)∧True))∧dh d168)) ∧
          (d158.2=(10:Int) →
           (I64 (bC*(q4 (q4 ae)).2.2.1))∧(I64 (d158.1+(bC*(q4 (q4 ae)).2.2.1)))∧(I64 (d158.2+(1:Int)))∧(∃ d169:Int×Int,((sc=sc∧True∧True∧True∧(1000:Int)=(1000:Int)∧True∧(d158.1+(bC*(q4 (q4 ae)).2.2.1))=d169.1∧(q4 (q4 (q4 ae))).2=(q4 (q4 (q4 ae))).2∧(d158.2+(1:Int))=d169.2∧True)∧((Q0 h8)∧(Q3 h8 rs)∧(Q4 h8 ws rs)∧(ae.1=ae.1∧ae.2.1=ae.2.1∧ae.2.2.1=ae.2.2.1∧ae.2.2.2.1=ae.2.2.2.1∧(q4 ae).1=(q4 ae).1∧(q4 ae).2.1=(q4 ae).2.1∧(q4 ae).2.2.1=(q4 ae).2.2.1∧(q4 ae).2.2.2.1=(q4 ae).2.2.2.1∧(q4 (q4 ae)).1=(q4 (q4 ae)).1∧(q4 (q4 ae)).2.1=(q4 (q4 ae)).2.1∧(q4 (q4 ae)).2.2.1=(q4 (q4 ae)).2.2.1∧(q4 (q4 ae)).2.2.2.1=(q4 (q4 ae)).2.2.2.1∧(([]:List SV)=[]))∧((q4 (q4 (q4 ae))).1=(q4 (q4 (q4 ae))).1∧false=false)∧True))∧dh d169)) ∧
          (d158.2=(11:Int) →
           (I64 (bC*(q4 (q4 ae)).2.2.2.1))∧(I64 (d158.1+(bC*(q4 (q4 ae)).2.2.2.1)))∧(I64 (d158.2+(1:Int)))∧(∃ d170:Int×Int,((sc=sc∧True∧True∧True∧(1000:Int)=(1000:Int)∧True∧(d158.1+(bC*(q4 (q4 ae)).2.2.2.1))=d170.1∧(q4 (q4 (q4 ae))).2=(q4 (q4 (q4 ae))).2∧(d158.2+(1:Int))=d170.2∧True)∧((Q0 h8)∧(Q3 h8 rs)∧(Q4 h8 ws rs)∧(ae.1=ae.1∧ae.2.1=ae.2.1∧ae.2.2.1=ae.2.2.1∧ae.2.2.2.1=ae.2.2.2.1∧(q4 ae).1=(q4 ae).1∧(q4 ae).2.1=(q4 ae).2.1∧(q4 ae).2.2.1=(q4 ae).2.2.1∧(q4 ae).2.2.2.1=(q4 ae).2.2.2.1∧(q4 (q4 ae)).1=(q4 (q4 ae)).1∧(q4 (q4 ae)).2.1=(q4 (q4 ae)).2.1∧(q4 (q4 ae)).2.2.1=(q4 (q4 ae)).2.2.1∧(q4 (q4 ae)).2.2.2.1=(q4 (q4 ae)).2.2.2.1∧(([]:List SV)=[]))∧((q4 (q4 (q4 ae))).1=(q4 (q4 (q4 ae))).1∧false=false)∧True))∧dh d170)) ∧
          True) ∧
         (oD=false →
          (I64 ((q4 (q4 (q4 ae))).2+(1:Int)))∧(∃ d171:(List (Int×Int))×Int×Int,((sc=sc∧True∧True∧True∧(1000:Int)=(1000:Int)∧True∧d158.1=d171.2.1∧((q4 (q4 (q4 ae))).2+(1:Int))=d171.2.2∧True)∧((Q0 h8)∧(Q3 h8 rs)∧(Q4 h8 ws rs)∧(ae.1=aO.1∧ae.2.1=aO.2.1∧ae.2.2.1=aO.2.2.1∧ae.2.2.2.1=aO.2.2.2.1∧(q4 ae).1=(q4 aO).1∧(q4 ae).2.1=(q4 aO).2.1∧(q4 ae).2.2.1=(q4 aO).2.2.1∧(q4 ae).2.2.2.1=(q4 aO).2.2.2.1∧(q4 (q4 ae)).1=(q4 (q4 aO)).1∧(q4 (q4 ae)).2.1=(q4 (q4 aO)).2.1∧(q4 (q4 ae)).2.2.1=(q4 (q4 aO)).2.2.1∧(q4 (q4 ae)).2.2.2.1=(q4 (q4 aO)).2.2.2∧(([]:List SV)=[]))∧((q4 (q4 (q4 ae))).1=d171.1∧false=false)∧True))∧qh d171))) g7)) gZ) ∧
     (oz=false →
      (((List.length ([]:List (Int×Int)))+(List.length d150.1))*16≤70368744177664)∧((([]:List (Int×Int))++d150.1).length≤1000)∧(I64 sc)∧((20:Int)≠0)∧∀ (nP:Int),nP=(Int.tmod sc (20:Int))→(((List.length ([]:List (Int×Int)))+(List.length d150.1))*16≤70368744177664)∧((([]:List (Int×Int))++d150.1).length≤1000)∧∀ (qj:Bool),qj=((Qn (1000:Int) (0:Int) (([]:List (Int×Int))++d150.1)) != (0:Int))→∀ (qk:Bool),qk=((Qn (1000:Int) nP (([]:List (Int×Int))++d150.1)) != (0:Int))→∀ (kY:Bool),kY=(qj||qk)→(kY=false→InK .i64 ((1000:Int)-d150.2.1))∧(kY=false→InK .i64 ((1000:Int)-d150.2.1))∧(kY=false→True)∧∀ (ql:Bool),ql=(!((((Qf (1000:Int) (0:Int) (([]:List (Int×Int))++d150.1)).1)==((1000:Int)-d150.2.1))&&(((Qf (1000:Int) (0:Int) (([]:List (Int×Int))++d150.1)).2)==((1000:Int)-d150.2.1))))→∀ (qm:Bool),qm=(kY||ql)→∀ (kZ:Bool),kZ=(decide (((Qf (1000:Int) nP (([]:List (Int×Int))++d150.1)).1) > ((Qf (1000:Int) (0:Int) (([]:List (Int×Int))++d150.1)).1)))→∀ (k_:Bool),k_=(qm||kZ)→∀ (la:Bool),la=(decide (((Qf (1000:Int) nP (([]:List (Int×Int))++d150.1)).2)<((Qf (1000:Int) (0:Int) (([]:List (Int×Int))++d150.1)).2)))→∀ (g8:Bool),g8=(k_||la)→(g8=true →
       (false=true∧(True))) ∧
      (g8=false →
       ∃ (di:(List (Int×Int))) (jN:Int),(((1000:Int)=(1000:Int)∧True∧(0:Int)=jN∧True)∧((d150.1=di∧false=false)∧True)) ∧
       LoopP (fun (d174:Int) (qn:(Int)→Prop) =>
        ∀ (iX:Bool),iX=(decide (d174<(lI di)))→(iX=true →
         (di.length≤1000)∧∀ (eX:Bool),eX=((Qk (1000:Int) (0:Int) di d174) != (0:Int))→(eX=false→0≤d174)∧(eX=false→d174<(List.length di))∧∀ (lb:Int),lb=(gD di d174 (0,0)).2→(eX=false→0≤d174)∧(eX=false→d174<(List.length di))∧∀ (ld:Int),ld=(gD di d174 (0,0)).2→(eX=false→True)∧∀ (lf:Bool),lf=(!((((Qc (1000:Int) (0:Int) di d174).1)==lb)&&(((Qc (1000:Int) (0:Int) di d174).2)==ld)))→∀ (g9:Bool),g9=(eX||lf)→(g9=true →
          (false=true∧(True))) ∧
         (g9=false →
          (I64 (d174+(1:Int)))∧(∃ d175:Int,(((1000:Int)=(1000:Int)∧True∧(d174+(1:Int))=d175∧True)∧((di=di∧false=false)∧True))∧qn d175))) ∧
        (iX=false →
         (True)∧(true=true→True)∧∀ (lg:Bool),lg=(true&&true)→(lg=true∧(True)))) jN))) fT)) d30)
def WV:Cx:=⟨[(79,(.pair (.i .i64) (.i .i64)))],[(24,Jf),(16,Jt),(26,YX),(18,V6),(25,Uu),(27,Kv),(28,YO),(29,Um),(30,M4),(14,U2)],203,[],0,[],[],[],[1,5,6,28,30],true,[],[],[],[]⟩
def UN (h8:Int) (ws:List Int) (rs:List Int) (ds:List Int) (sc:Int):List (Nat×LoopAnn):=[(0,⟨Unit,Int×Int×Int×Int×Int×Int×Int×Int×Int×Int×Int×Int×Int,[1,5,6,7,9,10],fun e x=>[.val (.i .u8) sc,.box 5 0,.box 6 0,.lst 36,.box 9 0,.val (.i .i64) x.2.2.2.2.2.2.2.2.2.2.2.2],fun e x=>[(5,.slot 5,.cells [.val (.i .i64) (hkN 12 h8),.lst 28] (some 69)),(28,.cell 5 1,.lst 3 (.i .i64) (QH (hkN 12 h8) 30 ws) false),(6,.slot 6,.cells [.val (.i .i64) (hkN 12 h8),.lst 30] (some 47)),(30,.cell 6 1,.lst 3 (.i .i64) (Zg (hkN 12 h8) 10 rs) false),(36,.slot 7,.lst 9 .st (Z2 (hkN 12 h8) (QH (hkN 12 h8) 30 ws) (hkN 12 h8) (Zg (hkN 12 h8) 10 rs)) (List.isEmpty (Z2 (hkN 12 h8) (QH (hkN 12 h8) 30 ws) (hkN 12 h8) (Zg (hkN 12 h8) 10 rs)))),(9,.slot 9,.cells [.val (.i .i64) x.1,.val (.i .i64) x.2.1,.val (.i .i64) x.2.2.1,.val (.i .i64) x.2.2.2.1,.val (.i .i64) x.2.2.2.2.1,.val (.i .i64) x.2.2.2.2.2.1,.val (.i .i64) x.2.2.2.2.2.2.1,.val (.i .i64) x.2.2.2.2.2.2.2.1,.val (.i .i64) x.2.2.2.2.2.2.2.2.1,.val (.i .i64) x.2.2.2.2.2.2.2.2.2.1,.val (.i .i64) x.2.2.2.2.2.2.2.2.2.2.1,.val (.i .i64) x.2.2.2.2.2.2.2.2.2.2.2.1] (some 75))]⟩),
 (2,⟨Int×Int×Int×Int×Int×Int×Int×Int×Int×Int×Int×Int,(List (Int×Int))×Int×Int,[1,6,7,9,11,12,13,14],fun e x=>[.val (.i .u8) sc,.box 6 0,.lst 36,.box 9 0,.val (.i .i64) (1000:Int),.lst 66,.val (.i .i64) x.2.1,.val (.i .i64) x.2.2],fun e x=>[(6,.slot 6,.cells [.val (.i .i64) (hkN 12 h8),.lst 30] (some 47)),(30,.cell 6 1,.lst 3 (.i .i64) (Zg (hkN 12 h8) 10 rs) false),(36,.slot 7,.lst 9 .st (Z2 (hkN 12 h8) (QH (hkN 12 h8) 30 ws) (hkN 12 h8) (Zg (hkN 12 h8) 10 rs)) (List.isEmpty (Z2 (hkN 12 h8) (QH (hkN 12 h8) 30 ws) (hkN 12 h8) (Zg (hkN 12 h8) 10 rs)))),(9,.slot 9,.cells [.val (.i .i64) e.1,.val (.i .i64) e.2.1,.val (.i .i64) e.2.2.1,.val (.i .i64) e.2.2.2.1,.val (.i .i64) e.2.2.2.2.1,.val (.i .i64) e.2.2.2.2.2.1,.val (.i .i64) e.2.2.2.2.2.2.1,.val (.i .i64) e.2.2.2.2.2.2.2.1,.val (.i .i64) e.2.2.2.2.2.2.2.2.1,.val (.i .i64) e.2.2.2.2.2.2.2.2.2.1,.val (.i .i64) e.2.2.2.2.2.2.2.2.2.2.1,.val (.i .i64) e.2.2.2.2.2.2.2.2.2.2.2] (some 75)),(66,.slot 12,.lst 79 (.pair (.i .i64) (.i .i64)) x.1 false)]⟩),
 (4,⟨Int×Int×Int×Int×Int×Int×Int×Int×Int×Int×Int×Int×(List (Int×Int))×Int×Int,Int×Int,[1,6,7,9,11,12,13,14,15,16],fun e x=>[.val (.i .u8) sc,.box 6 0,.lst 36,.box 9 0,.val (.i .i64) (1000:Int),.lst 66,.val (.i .i64) e.2.2.2.2.2.2.2.2.2.2.2.2.2.1,.val (.i .i64) e.2.2.2.2.2.2.2.2.2.2.2.2.2.2,.val (.i .i64) x.1,.val (.i .i64) x.2],fun e x=>[(6,.slot 6,.cells [.val (.i .i64) (hkN 12 h8),.lst 30] (some 47)),(30,.cell 6 1,.lst 3 (.i .i64) (Zg (hkN 12 h8) 10 rs) false),(36,.slot 7,.lst 9 .st (Z2 (hkN 12 h8) (QH (hkN 12 h8) 30 ws) (hkN 12 h8) (Zg (hkN 12 h8) 10 rs)) (List.isEmpty (Z2 (hkN 12 h8) (QH (hkN 12 h8) 30 ws) (hkN 12 h8) (Zg (hkN 12 h8) 10 rs)))),(9,.slot 9,.cells [.val (.i .i64) e.1,.val (.i .i64) e.2.1,.val (.i .i64) e.2.2.1,.val (.i .i64) e.2.2.2.1,.val (.i .i64) e.2.2.2.2.1,.val (.i .i64) e.2.2.2.2.2.1,.val (.i .i64) e.2.2.2.2.2.2.1,.val (.i .i64) e.2.2.2.2.2.2.2.1,.val (.i .i64) e.2.2.2.2.2.2.2.2.1,.val (.i .i64) e.2.2.2.2.2.2.2.2.2.1,.val (.i .i64) e.2.2.2.2.2.2.2.2.2.2.1,.val (.i .i64) e.2.2.2.2.2.2.2.2.2.2.2.1] (some 75)),(66,.slot 12,.lst 79 (.pair (.i .i64) (.i .i64)) e.2.2.2.2.2.2.2.2.2.2.2.2.1 false)]⟩),
 (6,⟨Int×Int×Int×Int×Int×Int×Int×Int×Int×Int×Int×Int×(List (Int×Int))×Int,Int×Int,[1,6,7,9,11,12,13,14,17],fun e x=>[.val (.i .u8) sc,.box 6 0,.lst 36,.box 9 0,.val (.i .i64) (1000:Int),.lst 66,.val (.i .i64) x.1,.val (.i .i64) e.2.2.2.2.2.2.2.2.2.2.2.2.2,.val (.i .i64) x.2],fun e x=>[(6,.slot 6,.cells [.val (.i .i64) (hkN 12 h8),.lst 30] (some 47)),(30,.cell 6 1,.lst 3 (.i .i64) (Zg (hkN 12 h8) 10 rs) false),(36,.slot 7,.lst 9 .st (Z2 (hkN 12 h8) (QH (hkN 12 h8) 30 ws) (hkN 12 h8) (Zg (hkN 12 h8) 10 rs)) (List.isEmpty (Z2 (hkN 12 h8) (QH (hkN 12 h8) 30 ws) (hkN 12 h8) (Zg (hkN 12 h8) 10 rs)))),(9,.slot 9,.cells [.val (.i .i64) e.1,.val (.i .i64) e.2.1,.val (.i .i64) e.2.2.1,.val (.i .i64) e.2.2.2.1,.val (.i .i64) e.2.2.2.2.1,.val (.i .i64) e.2.2.2.2.2.1,.val (.i .i64) e.2.2.2.2.2.2.1,.val (.i .i64) e.2.2.2.2.2.2.2.1,.val (.i .i64) e.2.2.2.2.2.2.2.2.1,.val (.i .i64) e.2.2.2.2.2.2.2.2.2.1,.val (.i .i64) e.2.2.2.2.2.2.2.2.2.2.1,.val (.i .i64) e.2.2.2.2.2.2.2.2.2.2.2.1] (some 75)),(66,.slot 12,.lst 79 (.pair (.i .i64) (.i .i64)) e.2.2.2.2.2.2.2.2.2.2.2.2.1 false)]⟩),
 (8,⟨(List (Int×Int)),Int,[11,12,24],fun e x=>[.val (.i .i64) (1000:Int),.lst 66,.val (.i .i64) x],fun e x=>[(66,.slot 12,.lst 79 (.pair (.i .i64) (.i .i64)) e false)]⟩)]
set_option maxRecDepth 100000 in
theorem Nr (d:(Int×List Int×List Int×List Int)×Int):gwp (WV) (UN d.1.1 d.1.2.1 d.1.2.2.1 d.1.2.2.2 d.2) c5 0 (Ko [.tmp 4] (Wm d) (WH d)) (QS 203 (AL.can W_ d))=J7 d.1.1 d.1.2.1 d.1.2.2.1 d.1.2.2.2 d.2:=by kernel_rfl
abbrev Nc:Prop:=OkC Tryz.prog 5 Yy
theorem Nn (h:∀ (h8:Int) (ws:List Int) (rs:List Int) (ds:List Int) (sc:Int),(bOk h8 ws rs ds∧0≤sc∧sc≤255)→J7 h8 ws rs ds sc):OkC Tryz.prog 5 Yy :=
 Z8 fun5 mixed (C:=WV) (V:=fun (d:(Int×List Int×List Int×List Int)×Int)=>J7 d.1.1 d.1.2.1 d.1.2.2.1 d.1.2.2.2 d.2) ⟨(.cons Km (.cons KE (.cons Dz (.cons BX (.cons PU (.cons Hr (.cons DV (.cons Tg (.cons Hc (.cons GZ .nil)))))))))),XsOk.nil,ItsOk.nil,YlOk.nil,IysOk.nil,XfOk.nil⟩ (Nr) fun d hp=>h d.1.1 d.1.2.1 d.1.2.2.1 d.1.2.2.2 d.2 hp
end Go.Proofs.Tryz
set_option linter.unusedVariables false
namespace Go.Proofs.Tryz
open Go Go.V Go.Proofs
theorem AW {h8:Int}{ws rs ds:List Int}(h:bOk h8 ws rs ds):(1≤hkN 12 h8∧hkN 12 h8≤12)∧(QH (hkN 12 h8) 30 ws≠[]∧(QH (hkN 12 h8) 30 ws).length≤30∧∀ x∈QH (hkN 12 h8) 30 ws,0≤x∧x<hkN 12 h8) ∧
  (Zg (hkN 12 h8) 10 rs≠[]∧(Zg (hkN 12 h8) 10 rs).length≤10∧∀ x∈Zg (hkN 12 h8) 10 rs,0≤x∧x<2 ^ (hkN 12 h8).toNat):=by
 obtain⟨h1,h2,h3,h4,h5⟩:=h;have hk:=G2 (m:=12) (by omega) h1;refine⟨hk,⟨?_,?_,?_⟩,⟨?_,?_,?_⟩⟩
 ·unfold QH;split
  ·simp
  ·rename_i aC;simpa using aC
 ·rw[B7];split<;>omega
 ·intro x hx;unfold QH at hx;split at hx
  ·rw[List.mem_singleton.1 hx];omega
  ·simp only[List.mem_map] at hx;obtain⟨y,hy,rfl⟩:=hx;have:=h3 y (List.mem_of_mem_take hy);exact⟨Int.tmod_nonneg _ this.1,Int.tmod_lt_of_pos _ (by omega)⟩
 ·unfold Zg;split
  ·simp
  ·rename_i aC;simpa using aC
 ·rw[Pq];split<;>omega
 ·intro x hx;have hp:=YG hk.1 (show hkN 12 h8≤24 by omega);unfold Zg at hx;split at hx
  ·rw[List.mem_singleton.1 hx];exact⟨Int.emod_nonneg _ (by omega),Int.emod_lt_of_pos _ (by omega)⟩
  ·simp only[List.mem_map] at hx;obtain⟨y,_,rfl⟩:=hx;exact⟨Int.emod_nonneg _ (by omega),Int.emod_lt_of_pos _ (by omega)⟩
theorem Lu {n:Int}{W R:List Int}(h1:1≤n∧n≤12) (w:W≠[]∧W.length≤30∧∀ x∈W,0≤x∧x<n) (r:R≠[]∧R.length≤10∧∀ x∈R,0≤x∧x<2 ^ n.toNat):Zl n W n R=0∧Z2 n W n R=R.map (ZM W):=by
 obtain⟨w1,w2,w3⟩:=w;obtain⟨r1,r2,r3⟩:=r;have hw:1≤W.length:=List.length_pos_iff.2 w1;have hr:1≤R.length:=List.length_pos_iff.2 r1;have i1:inI n 1 24=true:=by unfold inI;rw[decide_eq_true (by omega),decide_eq_true (by omega)];rfl
 have te:Jx n W=0:=by unfold Jx;rw[if_neg (by rw[i1];decide),if_neg (by omega),if_neg (by omega),if_neg];rw[List.any_eq_true];rintro⟨x,hx,hb⟩;have:=w3 x hx;rw[show inI x 0 (n-1)=true by unfold inI;rw[decide_eq_true (by omega),decide_eq_true (by omega)];rfl] at hb;cases hb
 have pe:QU n R=0:=by unfold QU;rw[if_neg (by rw[i1];decide),if_neg (by omega),if_neg (by omega),if_neg];rw[List.any_eq_true];rintro⟨x,hx,hb⟩;have:=r3 x hx;rw[show inI x 0 (2 ^ n.toNat-1)=true by unfold inI;rw[decide_eq_true (by omega),decide_eq_true (by omega)];rfl] at hb;cases hb
 have we:Zl n W n R=0:=by unfold Zl;rw[if_neg (by omega),if_neg (by omega),if_neg (by omega)]
 exact⟨we,by unfold Z2;rw[if_pos we]⟩
theorem FI {r:Int}{k:Nat}(h0:0≤r) (h1:r<9223372036854775808) (hk:k≤64):YQ .and .i64 (At .i64 r (k:Int)) 1=LP r k:=by
 obtain⟨n,rfl⟩:=Int.eq_ofNat_of_zero_le h0;have hle:n >>> k≤n:=by rw[Nat.shiftRight_eq_div_pow];exact Nat.div_le_self _ _
 rw[C3 hk];have:=HG (x:=n >>> k) (y:=1) (by omega) (by omega);exact this
def wyT (W:List Int) (k:Nat):Int×Int×Int×Int×Int×Int×Int×Int×Int×Int×Int×Int×Int:=(Je (W.take k) 0,Je (W.take k) 1,Je (W.take k) 2,Je (W.take k) 3,Je (W.take k) 4,Je (W.take k) 5,Je (W.take k) 6,Je (W.take k) 7,Je (W.take k) 8,Je (W.take k) 9,Je (W.take k) 10,Je (W.take k) 11,k)
theorem Tv (W:List Int) (i:Nat):(Je W i:Int)≤W.length:=by have:Je W i≤W.length:=List.countP_le_length;omega
theorem Cs {W:List Int}{k:Nat}(h:k<W.length) (i:Nat):(Je (W.take (k+1)) i:Int)=Je (W.take k) i+if W.getD k 0=(i:Int) then 1 else 0:=by
 unfold Je;rw[QX h,List.countP_append,QM h];by_cases e:W[k]=(i:Int)
 ·simp[e]
 ·simp[e]
theorem Ct {s:List UInt8}{k:Nat}(h:k<s.length):(TA (s.take (k+1)):Int)=TA (s.take k)+if s.getD k 0=120 then 1 else 0:=by
 unfold TA;rw[QX h,List.countP_append,QM h];by_cases e:s[k]=120
 ·simp[e]
 ·simp[e]
theorem LR (W:List Int) (r:Int):∀ n:Nat,0≤P8 W r n∧P8 W r n≤W.length*n
 |0=>by unfold P8;omega
 |n+1=>by
  have ih:=LR W r n;have h1:=Tv W n;have h2:LP r n=0∨LP r n=1:=by rw[Rh];split<;>simp
  have h3:(W.length:Int)*((n+1:Nat):Int)=W.length*n+W.length:=by rw[Int.natCast_succ,Int.mul_add,Int.mul_one]
  unfold P8;rw[h3];rcases h2 with h2|h2<;>rw[h2]<;>omega
theorem K5 {x:Int}(h:-1000000≤x∧x≤1000000):InK .i64 x:=by rw[Zs];omega
set_option maxRecDepth 100000 in
set_option maxHeartbeats 4000000 in
theorem ok_top_TopWarpYarn:Nc:=Nn fun h8 ws rs ds sc h=>by
 obtain⟨hb,uG,vt⟩:=h;unfold J7;delta Q4 Q0 Q3 Q5 XN WO QA q4
 (try delta lI gD sT I64)
 obtain⟨hk,hw,hr⟩:=AW hb;generalize bOk h8 ws rs ds=B at hb ⊢;generalize hH:hkN 12 h8=H at *
 generalize hW:QH H 30 ws=W at *
 generalize hR:Zg H 10 rs=R at *
 obtain⟨we,wc⟩:=Lu hk hw hr;obtain⟨w1,w2,w3⟩:=hw;obtain⟨r1,r2,r3⟩:=hr;rw[we,wc];have hp:=YG hk.1 (show H≤24 by omega);repeat (first|(refine And.intro (by first|exact hb|omega|(intro h;cases h;done)|(and_intros<;>first|rfl|trivial|exact hb|(intro h;cases h;done))) ?_))
 intro y1 e1 y2 e2 y3 e3;have z3:y3=false:=by rw[e3,e1,e2];simp
 refine⟨(fun h=>by rw[z3] at h;cases h),fun _=>⟨(),wyT W 0,by and_intros<;>first|rfl|trivial,?_⟩⟩;refine⟨fun d=>∃ k:Nat,k≤W.length∧d=wyT W k,fun d=>W.length-d.2.2.2.2.2.2.2.2.2.2.2.2.toNat,⟨0,by omega,rfl⟩,?_⟩;rintro _ ⟨k,uH,rfl⟩;intro y8 e8;refine⟨fun c8=>?_,fun c8=>?_⟩
 ·have ah:k<W.length:=by rw[e8] at c8;have:=of_decide_eq_true c8;simpa [wyT] using this
  refine⟨by simp only[wyT];omega,by simp only[wyT];omega,?_⟩;intro y9 e9;have e9:y9=W.getD k 0:=e9;have hx:=w3 (W.getD k 0) (by rw[QM ah];exact List.getElem_mem ah);have hs:=Cs ah;have hc:=fun i=>Tv (W.take k) i;have hl:(W.take k).length≤30:=by rw[List.length_take];omega
  rw[←e9] at hx hs;clear e9;have fin:∃ k':Nat,k'≤W.length∧wyT W (k+1)=wyT W k':=⟨k+1,ah,rfl⟩;have qo:W.length-(wyT W (k+1)).2.2.2.2.2.2.2.2.2.2.2.2.toNat<W.length-(wyT W k).2.2.2.2.2.2.2.2.2.2.2.2.toNat:=by simp only[wyT];omega
  refine⟨hx.1,by omega,?_⟩;have e9:y9=0∨y9=1∨y9=2∨y9=3∨y9=4∨y9=5∨y9=6∨y9=7∨y9=8∨y9=9∨y9=10∨y9=11:=by omega
  rcases e9 with rfl|rfl|rfl|rfl|rfl|rfl|rfl|rfl|rfl|rfl|rfl|rfl
  all_goals
   have c0:=hc 0;have c1:=hc 1;have c2:=hc 2;have c3:=hc 3;have c4:=hc 4;have c5:=hc 5;have c6:=hc 6;have c7:=hc 7;have c8:=hc 8;have c9:=hc 9;have c10:=hc 10;have c11:=hc 11
   repeat' (first
    |with_reducible refine And.intro ?_ ?_
    |(refine⟨wyT W (k+1),?_,fin,qo⟩;simp[wyT,hs];done)
    |(intro c;exact absurd c (by decide))
    |with_reducible intro _c
    |(refine K5 ?_;simp only[wyT];omega)
    |omega
    |trivial)
 ·have iY:k=W.length:=by rw[e8] at c8;have:=of_decide_eq_false c8;simp only[wyT] at this;omega
  subst iY;clear uH;have eT:wyT W W.length=((Je W 0:Int),(Je W 1:Int),(Je W 2:Int),(Je W 3:Int),(Je W 4:Int),(Je W 5:Int),(Je W 6:Int),(Je W 7:Int),(Je W 8:Int),(Je W 9:Int),(Je W 10:Int),(Je W 11:Int),(W.length:Int)):=by simp[wyT]
  rw[eT];clear eT;have vu:1≤W.length:=List.length_pos_iff.2 w1;refine⟨((Je W 0:Int),(Je W 1:Int),(Je W 2:Int),(Je W 3:Int),(Je W 4:Int),(Je W 5:Int),(Je W 6:Int),(Je W 7:Int),(Je W 8:Int),(Je W 9:Int),(Je W 10:Int),(Je W 11:Int)),([],0,0),by and_intros<;>first|rfl|trivial,?_⟩;refine⟨fun d=>∃ p:Nat,p≤R.length∧d=(wyB W R p,wyS W R p,(p:Int)),fun d=>R.length-d.2.2.toNat,⟨0,by omega,rfl⟩,?_⟩;rintro _ ⟨p,vw,rfl⟩;have sb:=Rk (rows:=R) w2 p;have nb:=Bd (rows:=R) w2 p;intro oz rM;refine⟨fun c66=>?_,fun c66=>?_⟩
  ·have ah:p<R.length:=by rw[rM] at c66;have:=of_decide_eq_true c66;simpa using this
   have aS:(p:Int)<((R.map (ZM W)).length:Int):=by simp;omega
   have a7:(R.map (ZM W)).getD p []=ZM W (R.getD p 0):=by rw[QM (by simpa using ah),QM ah];simp
   have eE:(ZM W (R.getD p 0)).length=W.length:=by simp[ZM]
   have ob:=r3 (R.getD p 0) (by rw[QM ah];exact List.getElem_mem ah);have ot:wyN W R p=(TA (ZM W (R.getD p 0)):Int):=rfl;have rN:=fun w hw=>Ct (s:=ZM W (R.getD p 0)) (k:=w) hw;refine⟨((Je W 0:Int),(Je W 1:Int),(Je W 2:Int),(Je W 3:Int),(Je W 4:Int),(Je W 5:Int),(Je W 6:Int),(Je W 7:Int),(Je W 8:Int),(Je W 9:Int),(Je W 10:Int),(Je W 11:Int),wyB W R p,wyS W R p,(p:Int)),(0,0),by and_intros<;>first|rfl|trivial,?_⟩;refine⟨fun d=>∃ w:Nat,w≤W.length∧d=((TA ((ZM W (R.getD p 0)).take w):Int),(w:Int)),fun d=>W.length-d.2.toNat,⟨0,by omega,rfl⟩,?_⟩;rintro _ ⟨w,vz,rfl⟩;have rO:TA ((ZM W (R.getD p 0)).take w)≤((ZM W (R.getD p 0)).take w).length:=List.countP_le_length;rw[List.length_take] at rO;refine⟨by show (0:Int)≤p;omega,aS,?_⟩;intro oA qp oB rP;have qp:oA=ZM W (R.getD p 0):=Eq.trans (b:=(R.map (ZM W)).getD p []) qp a7;subst qp;refine⟨fun c78=>?_,fun c78=>?_⟩
   ·have hw:w<W.length:=by rw[rP] at c78;have:=of_decide_eq_true c78;rw[eE] at this;simpa using this
    refine⟨by show (0:Int)≤p;omega,aS,?_⟩;intro nN qq;have qq:nN=ZM W (R.getD p 0):=Eq.trans (b:=(R.map (ZM W)).getD p []) qq a7;subst qq;refine⟨by show (0:Int)≤w;omega,by rw[eE];show (w:Int)<_;omega,?_⟩;intro oC qs nO uI;have ig:=rN w (by rw[eE];exact hw);have qs:oC=(((ZM W (R.getD p 0)).getD w 0).toNat:Int):=qs;have nQ:nO=true↔(ZM W (R.getD p 0)).getD w 0=120:=by
     rw[uI,qs,beq_iff_eq];generalize (ZM W (R.getD p 0)).getD w 0=b;constructor
     ·intro h;apply UInt8.toNat_inj.1;show b.toNat=120;omega
     ·rintro rfl;rfl
    refine⟨fun c81=>⟨K5 (by show -1000000≤((TA ((ZM W (R.getD p 0)).take w):Nat):Int)+1∧_≤_;dsimp only;omega),K5 (by show -1000000≤(w:Int)+1∧(w:Int)+1≤1000000;omega),((TA ((ZM W (R.getD p 0)).take w):Int)+1,(w:Int)+1),by and_intros<;>first|rfl|trivial,⟨w+1,hw,?_⟩,?_⟩,fun c81=>⟨K5 (by show -1000000≤(w:Int)+1∧(w:Int)+1≤1000000;omega),((TA ((ZM W (R.getD p 0)).take w):Int),(w:Int)+1),by and_intros<;>first|rfl|trivial,⟨w+1,hw,?_⟩,?_⟩⟩
    ·rw[ig,if_pos (nQ.1 c81)];rfl
    ·show W.length-((w:Int)+1).toNat<W.length-(w:Int).toNat;omega
    ·rw[ig,if_neg (fun h=>by rw[nQ.2 h] at c81;cases c81),Int.add_zero];rfl
    ·show W.length-((w:Int)+1).toNat<W.length-(w:Int).toNat;omega
   ·have hw:w=W.length:=by rw[rP] at c78;have:=of_decide_eq_false c78;rw[eE] at this;simp at this;omega
    subst hw;have rQ:(TA ((ZM W (R.getD p 0)).take W.length):Int)=wyN W R p:=by rw[ot,List.take_of_length_le (by rw[eE];exact Nat.le_refl _)]
    rw[rQ];have gd:(wyB W R p).length=p:=X3 W R p;refine⟨?_,((Je W 0:Int),(Je W 1:Int),(Je W 2:Int),(Je W 3:Int),(Je W 4:Int),(Je W 5:Int),(Je W 6:Int),(Je W 7:Int),(Je W 8:Int),(Je W 9:Int),(Je W 10:Int),(Je W 11:Int),wyB W R (p+1),(p:Int)),(wyS W R p,0),?_,?_⟩
    ·show ((wyB W R p).length+1)*16≤70368744177664;omega
    ·rw[AU];and_intros<;>first|rfl|trivial
    obtain⟨Hn,rfl⟩:=Int.eq_ofNat_of_zero_le (show 0≤H by omega);obtain⟨T,hT⟩:∃ T:Nat→Int,∀ i,(Je W i:Int)=T i:=⟨fun i=>(Je W i:Int),fun _=>rfl⟩;obtain⟨S,hS⟩:∃ S:Nat→Int,∀ k,wyS W R p+P8 W (R.getD p 0) k=S k:=⟨fun k=>wyS W R p+P8 W (R.getD p 0) k,fun _=>rfl⟩;have rR:wyS W R p=S 0:=by rw[←hS 0];unfold P8;rw[Int.add_zero]
    rw[rR];simp only[hT];refine⟨fun d=>∃ k:Nat,k≤Hn∧d=(S k,(k:Int)),fun d=>Hn-d.2.toNat,⟨0,by omega,rfl⟩,?_⟩;rintro _ ⟨k,vA,rfl⟩;have bQ:=LR W (R.getD p 0) k;have hmul:(W.length:Int)*(k:Int)≤30*12:=Int.mul_le_mul (by omega) (by omega) (by omega) (by omega);have rS:=hS k;intro oD qt;refine⟨fun c90=>?_,fun c90=>?_⟩
    ·have bb:k<Hn:=by rw[qt] at c90;have:=of_decide_eq_true c90;simpa using this
     refine⟨by show (0:Int)≤p;omega,by show (p:Int)<_;omega,?_⟩;intro oE oF;have oF:oE=R.getD p 0:=oF;refine⟨⟨by show (0:Int)≤(k:Int);omega,by show (k:Int)≤(18446744073709551615:Int);omega⟩,by show (0:Int)≤(k:Int);omega,?_⟩;intro qi rT bC nR;have nR:bC=LP (R.getD p 0) k:=by rw[nR,rT,oF];exact FI ob.1 (by omega) (by omega)
     refine⟨by show (0:Int)≤(k:Int);omega,by show (k:Int)<12;omega,?_⟩;have lR:P8 W (R.getD p 0) (k+1)=P8 W (R.getD p 0) k+LP (R.getD p 0) k*(Je W k:Int):=rfl;have qu:S k+bC*T k=S (k+1):=by rw[←hS,←hS,←hT,nR,lR,Int.add_assoc]
     have bh:0≤bC*T k∧bC*T k≤30:=by
      have h2:LP (R.getD p 0) k=0∨LP (R.getD p 0) k=1:=by rw[Rh];split<;>simp
      have h1:=Tv W k;rw[←hT,nR];rcases h2 with h2|h2<;>rw[h2]<;>omega
     have uJ:-1000000≤S k+bC*T k∧S k+bC*T k≤1000000:=by omega
     have uK:-1000000≤(k:Int)+1∧(k:Int)+1≤1000000:=by omega
     have bY:-1000000≤bC*T k∧bC*T k≤1000000:=by omega
     obtain⟨S1,qu⟩:∃ S1,S k+bC*T k=S1:=⟨_,rfl⟩;obtain⟨K1,rU⟩:∃ K1,(k:Int)+1=K1:=⟨_,rfl⟩;have fin:∃ k':Nat,k'≤Hn∧(S1,K1)=(S k',(k':Int)):=⟨k+1,bb,by rw[←qu,←rU];simp only[Prod.mk.injEq];exact⟨by omega,rfl⟩⟩;have qo:Hn-((S1,K1):Int×Int).2.toNat<Hn-(S k,(k:Int)).2.toNat:=by dsimp only;omega
     clear qt oF rT nR bQ hmul bh rN rS hS hT rR rO rQ gd ot ob eE a7 aS nb sb;have e9:k=0∨k=1∨k=2∨k=3∨k=4∨k=5∨k=6∨k=7∨k=8∨k=9∨k=10∨k=11:=by omega
     rcases e9 with rfl|rfl|rfl|rfl|rfl|rfl|rfl|rfl|rfl|rfl|rfl|rfl
     all_goals
      dsimp only
      repeat' (first
       |with_reducible refine And.intro ?_ ?_
       |(refine⟨(S1,K1),?_,fin,qo⟩;and_intros<;>first|with_reducible rfl|trivial|exact qu|exact rU)
       |(intro c;exact absurd c (by decide))
       |with_reducible intro _c
       |with_reducible exact K5 uJ
       |with_reducible exact K5 bY
       |exact K5 uK
       |trivial)
    ·have bb:k=Hn:=by rw[qt] at c90;have:=of_decide_eq_false c90;simp at this;omega
     subst bb;have hx:=Ed (R.getD p 0) W w3;refine⟨K5 (by show -1000000≤(p:Int)+1∧(p:Int)+1≤1000000;omega),(wyB W R (p+1),S k,(p:Int)+1),by and_intros<;>first|rfl|trivial,⟨p+1,ah,?_⟩,?_⟩
     ·rw[←rS,hx];rfl
     ·show R.length-((p:Int)+1).toNat<R.length-(p:Int).toNat;omega
  ·have bj:p=R.length:=by rw[rM] at c66;have:=of_decide_eq_false c66;simp at this;omega
   subst bj;have gd:(wyB W R R.length).length=R.length:=X3 W R R.length;have t1:=Int.tmod_nonneg 20 uG;have t2:=Int.tmod_lt_of_pos sc (show (0:Int)<20 by decide);obtain⟨b1,b2,b3⟩:=LJ (s:=0) (lw:=W) (rows:=R) (n:=R.length) (by omega) w2 r2;obtain⟨d1,d2,d3⟩:=LJ (s:=Int.tmod sc 20) (lw:=W) (rows:=R) (n:=R.length) (by omega) w2 r2;have ex:=E7 (lw:=W) (rows:=R) (n:=R.length) w2 r2;refine⟨by show (0+(wyB W R R.length).length)*16≤70368744177664;omega,by show (wyB W R R.length).length≤1000;omega,K5 (by omega),by decide,?_⟩;intro nP uL;refine⟨by show (0+(wyB W R R.length).length)*16≤70368744177664;omega,by show (wyB W R R.length).length≤1000;omega,?_⟩;simp only[List.nil_append,ex,b1];rw[uL,d1];intro qj uM qk uN kY uO;have uP:kY=false:=by rw[uO,uM,uN];rfl
   refine⟨fun _=>K5 (by omega),fun _=>K5 (by omega),fun _=>trivial,?_⟩;intro ql uQ qm uR kZ qv k_ qw la qx g8 qy;have qz:g8=false:=by rw[qy,qw,uR,uP,uQ,qv,qx];rw[decide_eq_false (by omega),decide_eq_false (by omega)];simp
   refine⟨(fun h=>by rw[qz] at h;cases h),fun _=>⟨wyB W R R.length,0,by and_intros<;>first|rfl|trivial,?_⟩⟩;refine⟨fun d=>∃ k:Nat,k≤R.length∧d=(k:Int),fun d=>R.length-d.toNat,⟨0,by omega,rfl⟩,?_⟩;rintro _ ⟨k,vB,rfl⟩;intro iX nS;rw[gd] at nS;refine⟨fun c=>?_,fun c=>⟨trivial,fun _=>trivial,?_⟩⟩
   ·have bb:k<R.length:=by rw[nS] at c;have:=of_decide_eq_true c;omega
    obtain⟨a1,a2⟩:=IC (lw:=W) (rows:=R) (n:=R.length) (k:=k) w2 r2 bb;have a3:=B6 (lw:=W) (rows:=R) bb;refine⟨by omega,?_⟩;rw[a1,a2];simp only[Int.toNat_natCast,a3];intro eX qA;refine⟨fun _=>by omega,fun _=>by omega,?_⟩;intro lb qB;refine⟨fun _=>by omega,fun _=>by omega,?_⟩;intro ld qC;refine⟨fun _=>trivial,?_⟩;intro lf qD g9 qE;have qF:g9=false:=by rw[qE,qA,qD,qB,qC];simp
    exact⟨(fun h=>by rw[qF] at h;cases h),fun _=>⟨K5 (by omega),(k:Int)+1,by and_intros<;>first|rfl|trivial,⟨k+1,bb,rfl⟩,by omega⟩⟩
   ·intro lg qG;exact⟨qG,trivial⟩
end Go.Proofs.Tryz
set_option linter.unusedVariables false
namespace Go.Proofs.Tryz
open Go Go.V Go.Proofs
theorem Er {l:List Int}(h:KWf (.list (.i .u8)) l):u8s l:=fun x hx=>(CS x).1 (h.2 x hx)
theorem Fa {l:List Int}(h:KWf (.list (.i .u16)) l):Q55 l:=fun x hx=>(Fw x).1 (h.2 x hx)
theorem Om {x:Int×List Int×List Int×List Int}(h:KWf (.pair (.i .u8) (.pair (.list (.i .u8)) (.pair (.list (.i .u16)) (.list (.i .u8))))) x):bOk x.1 x.2.1 x.2.2.1 x.2.2.2:=by obtain⟨h1,h2,h3,h4⟩:=h;have h1:=(CS x.1).1 h1;exact⟨h1.1,h1.2,Er h2,Fa h3,Er h4⟩
theorem rightPre_of {x:(Int×List Int×List Int×List Int)×Int}(h:AWf [.pair (.i .u8) (.pair (.list (.i .u8)) (.pair (.list (.i .u16)) (.list (.i .u8)))),.i .u8] x):bOk x.1.1 x.1.2.1 x.1.2.2.1 x.1.2.2.2∧0≤x.2∧x.2≤255:=by obtain⟨h1,h3⟩:=h;have h3:=(CS x.2).1 h3;exact⟨Om h1,h3.1,h3.2⟩
end Go.Proofs.Tryz