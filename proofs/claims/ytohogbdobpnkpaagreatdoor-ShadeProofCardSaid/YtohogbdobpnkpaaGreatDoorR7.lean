/- A framework for walks, contracts of functions, and their proofs: part 7. -/
import Derived.Test.YtohogbdobpnkpaaGreatDoorR6
set_option linter.unusedVariables false
namespace Go.Proofs.Tryz
open Go Go.V Go.Proofs
theorem J96 {L:List Lot}{t:Int}{S:List Int}(hz:lotsErr L=0) (hok:∀ x∈L,lotOk x=true) (hs:S.Pairwise (·<·)) (hin:∀ i∈S,0≤i∧i<(L.length:Int)) (hne:S≠[]) (ha:alikeR (pickL L S) t=true) :
  Q0c L S=0∧0≤(spreadSp L S).1∧(spreadSp L S).1≤(spreadSp L S).2∧(spreadSp L S).2≤t:=by
 have e1:Q0c L S=0:=by
  unfold Q0c;rw[if_neg (by omega),if_neg,if_neg]
  ·rw[X20 hs];decide
  ·rintro (h9|h9)
   ·exact hne h9
   ·obtain⟨x,hx,h9⟩:=List.any_eq_true.1 h9;have:=hin x hx;unfold inI at h9;simp at h9;omega
 have hp:pickL L S≠[]:=by simpa [pickL] using hne
 have hpl:1≤(pickL L S).length:=List.length_pos_iff.2 hp;have h2:alikeP t (pickL L S)=true:=by rw[J84 hp];exact ha
 have h3:(sprD (pickL L S)).2≤t:=by unfold alikeP at h2;simp only[Bool.and_eq_true,decide_eq_true_eq] at h2;exact h2.2
 have hpo:=J5a hok hin;obtain⟨a,⟨i1,b1,c1⟩,⟨i2,b2,c2⟩,⟨i3,b3,c3⟩,⟨i4,b4,c4⟩⟩:=Z6s hp (pickL L S).length hpl (Nat.le_refl _);have e2:spreadSp L S=sprD (pickL L S):=by unfold spreadSp;rw[if_pos e1]
 rw[e2];refine⟨e1,?_,?_,h3⟩
 ·unfold sprD;rw[Q9d];omega
 ·have x1:=a i1 b1;have x2:=a i2 b2;have x3:=a i3 b3;have w1:=Z1g.1 (hpo _ (List.getElem_mem b1));have w2:=Z1g.1 (hpo _ (List.getElem_mem b2));have w3:=Z1g.1 (hpo _ (List.getElem_mem b3));rw[Q03 b1] at c1 x1;rw[Q03 b2] at c2 x2;rw[Q03 b3] at c3 x3;unfold sprD;rw[Q9d];dsimp only;omega
set_option maxHeartbeats 2000000 in
theorem ok_law09_ShadeProof:Z68:=Z5j fun vl vt by_ h=>by
 obtain⟨hv,hb0,hb1⟩:=h;unfold Q3d;(try delta lI gD sT I64);have hI:∀ e:Int,-100000≤e→e≤100000→InK .i64 e:=fun e _ _=>by simp only[Q1a];omega
 obtain⟨hL9,hok,-⟩:=X6k hv.2.2.1;have hd:∀ j,(vatL vl).getD j (0,((0,0),0))=(vatL vl).getD j lotD:=fun _=>rfl;simp only[hd];have hthr:∀ (x:Lot) (i:Int),0≤i→x.2.1.1≤x.2.1.2→x.2.1.1≤thrV vt x i∧thrV vt x i≤x.2.1.2:=fun x i hi hx=>X4m hv.2.2.2 hi hx;generalize vatL vl=L at *
 have hlo:∀ i:Int,0≤i→i<(L.length:Int)→0≤(L.getD i.toNat lotD).2.1.1∧(L.getD i.toNat lotD).2.1.1≤1000∧0≤(L.getD i.toNat lotD).2.1.2∧(L.getD i.toNat lotD).2.1.2≤1000∧(L.getD i.toNat lotD).2.1.1≤(L.getD i.toNat lotD).2.1.2:=fun i h0 h1=>by
  have hj:i.toNat<L.length:=by omega
  have:=Z1g.1 (hok _ (List.getElem_mem hj));rw[Q03 hj];omega
 have hfar:∀ i k:Int,(decide (farV (L.getD i.toNat lotD) (L.getD k.toNat lotD)≤by_))=alP L by_ i k:=fun i k=>by rw[Bool.eq_iff_iff,decide_eq_true_eq,X6o (by omega),Z24]
 have hz:lotsErr L=0:=by unfold lotsErr;rw[if_neg (by omega),if_neg];simp only[List.any_eq_true,Bool.not_eq_true'];rintro⟨x,hx,h2⟩;rw[hok x hx] at h2;cases h2
 have ho:openErr L by_=0:=by unfold openErr;rw[if_neg (by omega),if_neg];unfold inI;simp;omega
 refine⟨hv,hI _ (by omega) (by omega),by omega,by omega,by omega,by omega,fun c=>?_,fun c=>?_⟩
 ·have c:partErr L by_≠0:=by simpa using c
  have hev:evenL L by_=false:=by
   cases he:evenL L by_ with
   |false=>rfl
   |true=>exact(c (by unfold partErr;rw[if_neg (by omega),if_pos he])).elim
  have e1:partErr L by_=9:=by unfold partErr;rw[if_neg (by omega),hev];rfl
  obtain⟨e2,e3⟩:=J02 e1 (by omega);rw[e1,e2,e3];rw[X30 (by omega)] at hev;refine⟨(),(false,0),(by and_intros<;>first|rfl|trivial|simp),?_⟩;refine LoopP.count2 L.length (fun k u=>u=!((List.range k).all fun j=>alP L by_ (j:Int) (j:Int))) rfl ?_;rintro k u hk hJ q hq;dsimp only;simp only[Int.toNat_natCast];refine⟨fun c2=>?_,fun c2=>?_⟩
  ·have c2:k<L.length:=by have:=of_decide_eq_true c2;omega
   have hl:=hlo k (by omega) (by omega);rw[Int.toNat_natCast] at hl;have hf:=hfar k k;rw[Int.toNat_natCast] at hf;have hnx:(u||decide (farV (L.getD k lotD) (L.getD k lotD) > by_))=!((List.range (k+1)).all fun j=>alP L by_ (j:Int) (j:Int)):=by
    rw[hJ,List.range_succ,List.all_append,Bool.not_and];congr 1;simp only[List.all_cons,List.all_nil,Bool.and_true,←hf];by_cases hc:farV (L.getD k lotD) (L.getD k lotD)≤by_
    ·rw[decide_eq_true hc,decide_eq_false (by omega)];rfl
    ·rw[decide_eq_false hc,decide_eq_true (by omega)];rfl
   exact⟨fun _=>by omega,fun _=>by omega,fun _=>by omega,fun _=>by omega,fun _=>⟨hl.1,hl.2.1,hl.2.2.1,hl.2.2.2.1,hl.1,hl.2.1,hl.2.2.1,hl.2.2.2.1⟩,hI _ (by omega) (by omega),(!((List.range (k+1)).all fun j=>alP L by_ (j:Int) (j:Int)),(k:Int)+1),(by and_intros<;>first|rfl|trivial|exact hnx|simp),hq _ c2 rfl⟩
  ·have c2:k=L.length:=by have:=of_decide_eq_false c2;omega
   subst c2;have hu:u=true:=by rw[hJ];have:((List.range L.length).all fun j=>alP L by_ (j:Int) (j:Int))=false:=hev;rw[this];rfl
   subst hu;simp[Q1a]
 ·have e1:partErr L by_=0:=by simpa using c
  have hev:evenL L by_=true:=by
   cases he:evenL L by_ with
   |true=>rfl
   |false=>unfold partErr at e1;rw[if_neg (by omega),he] at e1;cases e1
  have e2:parHW L by_=parH L by_:=by unfold parHW;rw[if_pos e1]
  have e3:parCW L by_=parC L by_:=by unfold parCW;rw[if_pos e1]
  obtain⟨p1,p2,p3,p4,p5,p6,p7⟩:=X2w (by omega) hok hev;have hPn:((List.range L.length).map fun (k:Nat)=>(k:Int)).Nodup:=List.pairwise_map.2 ((List.nodup_range (n:=L.length)).imp fun h e=>h (by omega));have hnd:(parC L by_).flatten.Nodup:=p1.nodup_iff.2 hPn;have hfl:(parC L by_).flatten.length=L.length:=by rw[p1.length_eq];simp
  have hmem:∀ i∈(parC L by_).flatten,0≤i∧i<(L.length:Int):=fun i hi=>by obtain⟨k,hk,rfl⟩:=List.mem_map.1 (p1.mem_iff.1 hi);have:=List.mem_range.1 hk;omega
  rw[e1,e2,e3];generalize parC L by_=C at *
  generalize parH L by_=H at *
  have hHl:H.length≤9:=by
   have:=X73 (K:=L.length) (fun i=>i.toNat) (p4.imp fun h e=>by omega) (fun i hi=>by have:=p5 i hi;omega) fun i hi j hj e=>by have:=p5 i hi;have:=p5 j hj;omega
   omega
  refine⟨fun g=>by simp[p7] at g,fun _=>?_⟩;refine⟨(),0,(by and_intros<;>first|rfl|trivial|simp),?_⟩;refine LoopP.count H.length (fun _=>True) trivial ?_;rintro i hi-q hq;simp only[Int.toNat_natCast];refine⟨fun c1=>?_,fun c1=>?_⟩
  ·have c1:i<H.length:=by have:=of_decide_eq_true c1;omega
   have hx:H.getD i 0=H[i]:=Q03 c1;have hxin:=p5 _ (List.getElem_mem c1);have hxl:=hlo H[i] hxin.1 hxin.2;have h1:decide (H[i]<0)=false:=decide_eq_false (by omega);have h2:decide (H[i]≥(L.length:Int))=false:=decide_eq_false (by omega);have h3:((decide ((i:Int) > 0))&&(decide (H[i]≤H.getD (((i:Int)-1)).toNat 0)))=false:=by
    by_cases hk0:i=0
    ·subst hk0;rfl
    ·have e5:((i:Int)-1).toNat=i-1:=by omega
     have hkl:i-1<H.length:=by omega
     rw[e5,Q03 hkl];have h7:=List.pairwise_iff_getElem.1 p4 (i-1) i hkl c1 (by omega);have:¬ H[i]≤H[i-1]:=by omega
     simp[this]
   simp only[hx,h1,h2,h3,Bool.or_false];and_intros;all_goals try (intros;first|omega|(rename_i gg;have gg:=of_decide_eq_true gg;omega)|exact(hI _ (by omega) (by omega)).1|exact(hI _ (by omega) (by omega)).2|exact hI _ (by omega) (by omega)|trivial)
   all_goals try (intro gg;cases gg;done)
   intro _;refine⟨(i:Int),0,(by and_intros<;>first|rfl|trivial|simp),?_⟩;refine LoopP.count i (fun _=>True) trivial ?_;rintro k hk-q2 hq2;simp only[Int.toNat_natCast,hx];refine⟨fun c2=>?_,fun c2=>⟨hI _ (by omega) (by omega),(i:Int)+1,(by and_intros<;>first|rfl|trivial|simp),hq c1 trivial⟩⟩;have c2:k<i:=by simp at c2;omega
   have hkH:k<H.length:=by omega
   have hy:H.getD k 0=H[k]:=Q03 hkH;have hyin:=p5 _ (List.getElem_mem hkH);have hyl:=hlo H[k] hyin.1 hyin.2;have hne:H[i]≠H[k]:=by have:=List.pairwise_iff_getElem.1 p4 k i hkH c1 c2;omega
   have hf:decide (farV (L.getD H[i].toNat lotD) (L.getD H[k].toNat lotD)≤by_)=false:=by rw[hfar];exact p6 _ (List.getElem_mem c1) _ (List.getElem_mem hkH) hne
   have hf2:decide (farV ((L.getD H[i].toNat lotD).1,((L.getD H[i].toNat lotD).2.1.1,(L.getD H[i].toNat lotD).2.1.2),(L.getD H[i].toNat lotD).2.2) ((L.getD H[k].toNat lotD).1,((L.getD H[k].toNat lotD).2.1.1,(L.getD H[k].toNat lotD).2.1.2),(L.getD H[k].toNat lotD).2.2)≤by_)=false:=hf;simp only[hy,hf2];and_intros;all_goals try (intros;first|omega|(rename_i gg;have gg:=of_decide_eq_true gg;omega)|exact(hI _ (by omega) (by omega)).1|exact(hI _ (by omega) (by omega)).2|exact hI _ (by omega) (by omega)|trivial)
   all_goals try (intro gg;cases gg;done)
   intro _;exact⟨hI _ (by omega) (by omega),(k:Int)+1,(by and_intros<;>first|rfl|trivial|simp),hq2 c2 trivial⟩
  ·clear hq hi;have hcut:∀ i (hi:i<C.length),C.flatten=(C.take i).flatten++(C[i]++(C.drop (i+1)).flatten):=fun i hi=>by
    rw[←List.flatten_cons,←List.drop_eq_getElem_cons hi,←List.flatten_append,List.take_append_drop]
   refine⟨(),([],0),(by and_intros<;>first|rfl|trivial|simp),?_⟩;refine⟨fun d=>∃ i:Nat,d.2=i∧i≤C.length∧(∀ n,gq.aget (.i .i64) d.1 n false=decide (n∈(C.take i).flatten))∧d.1.length=(C.take i).flatten.length∧∀ p∈d.1,p.2=true,fun d=>C.length-d.2.toNat,⟨0,rfl,by omega,fun n=>rfl,rfl,(fun p hp=>by cases hp)⟩,?_⟩;rintro⟨M,i'⟩ ⟨i,f1,f2,f3,f4,f5⟩;dsimp only at f1 f3 f4 f5 ⊢;subst f1;refine⟨fun c1=>?_,fun c1=>?_⟩
   ·have c1:i<C.length:=by have:=of_decide_eq_true c1;omega
    have hci:=Q03 (d:=([]:List Int)) c1;obtain⟨s1,s2,s3⟩:=p2 _ (List.getElem_mem c1);have hC:=hcut i c1;obtain⟨cc,hcc⟩:∃ cc,C[i]=cc:=⟨_,rfl⟩;rw[hcc] at s1 s2 s3 hC hci;rw[hC] at hnd hmem hfl;have hcn:cc.Nodup:=(List.nodup_append.1 (List.nodup_append.1 hnd).2.1).1;simp only[List.length_append] at hfl;have hccin:∀ x∈cc,0≤x∧x<(L.length:Int):=fun x hx=>hmem x (List.mem_append_right _ (List.mem_append_left _ hx));have hal:=Z66.1 s3;refine⟨(i:Int),(M,0),(by and_intros<;>first|rfl|trivial|simp),?_⟩;refine⟨fun d=>∃ k:Nat,d.2=k∧k≤cc.length∧(∀ n,gq.aget (.i .i64) d.1 n false=decide (n∈(C.take i).flatten++cc.take k))∧d.1.length=((C.take i).flatten++cc.take k).length∧∀ p∈d.1,p.2=true,fun d=>cc.length-d.2.toNat,⟨0,rfl,by omega,fun n=>by rw[f3];simp,by simp[f4],f5⟩,?_⟩;rintro⟨M,k'⟩ ⟨k,g1,g2,g3,g4,g5⟩;dsimp only at g1 g3 g4 g5 ⊢;subst g1;simp only[Int.toNat_natCast,hci];refine⟨by omega,by omega,fun c2=>?_,fun c2=>?_⟩
    ·have c2:k<cc.length:=by have:=of_decide_eq_true c2;omega
     have hx:cc.getD k 0=cc[k]:=Q03 c2;have hxin:=hccin _ (List.getElem_mem c2);have hxl:=hlo cc[k] hxin.1 hxin.2;have hxn:cc[k]∉(C.take i).flatten++cc.take k:=fun hh=>by
      rcases List.mem_append.1 hh with hh|hh
      ·exact(List.nodup_append.1 hnd).2.2 _ hh _ (List.mem_append_left _ (List.getElem_mem c2)) rfl
      ·obtain⟨j,hj,e⟩:=List.getElem_of_mem hh;rw[List.getElem_take] at e;rw[List.length_take] at hj;exact List.pairwise_iff_getElem.1 hcn j k (by omega) c2 (by omega) e
     have h1:decide (cc[k]<0)=false:=decide_eq_false (by omega);have h2:decide (cc[k]≥(L.length:Int))=false:=decide_eq_false (by omega);have h3:gq.aget (.i .i64) M cc[k] false=false:=by rw[g3];exact decide_eq_false hxn
     have htk:=Q2d c2;obtain⟨n1,n2⟩:=J9r g5 h3;have hnew:∀ n,gq.aget (.i .i64) (aput (.i .i64) M cc[k] true) n false=decide (n∈(C.take i).flatten++cc.take (k+1)):=fun n=>by
      rw[J6e,g3,htk];by_cases e:n=cc[k]
      ·rw[if_pos e];exact(decide_eq_true (List.mem_append_right _ (List.mem_append_right _ (List.mem_singleton.2 e)))).symm
      ·rw[if_neg e];exact decide_eq_decide.2 (by simp only[List.mem_append,List.mem_singleton,e,or_false])
     simp only[hx,h1,h2,h3,Bool.or_false];refine⟨by omega,by omega,by omega,by omega,(fun gg=>by cases gg),fun _=>?_⟩;refine⟨(aput (.i .i64) M cc[k] true,(i:Int),(k:Int),cc[k]),0,(by and_intros<;>first|rfl|trivial|simp),?_⟩;dsimp only;refine LoopP.count (k+1) (fun _=>True) trivial ?_;rintro m hm-q3 hq3;simp only[Int.toNat_natCast,hci];refine⟨fun c3=>?_,fun c3=>?_⟩
     ·have c3:m≤k:=by simp at c3;omega
      have hmc:m<cc.length:=by omega
      have hy:cc.getD m 0=cc[m]:=Q03 hmc;have hyin:=hccin _ (List.getElem_mem hmc);have hyl:=hlo cc[m] hyin.1 hyin.2;simp only[hy];have ha2:=Z24.1 (hal _ (List.getElem_mem c2) _ (List.getElem_mem hmc));have b1:=hthr (L.getD cc[k].toNat lotD) ((3*cc[k])+(m:Int)) (by omega) hxl.2.2.2.2;have b2:=hthr (L.getD cc[m].toNat lotD) (cc[k]+(5*(m:Int))) (by omega) hyl.2.2.2.2;have hfl2:=ha2.2.1;unfold farL at hfl2;rw[Q9d] at hfl2;have t1:decide ((thrV vt ((L.getD cc[k].toNat lotD).1,((L.getD cc[k].toNat lotD).2.1.1,(L.getD cc[k].toNat lotD).2.1.2),(L.getD cc[k].toNat lotD).2.2) ((3*cc[k])+(m:Int)))-(thrV vt ((L.getD cc[m].toNat lotD).1,((L.getD cc[m].toNat lotD).2.1.1,(L.getD cc[m].toNat lotD).2.1.2),(L.getD cc[m].toNat lotD).2.2) (cc[k]+(5*(m:Int)))) > by_)=false:=decide_eq_false (fun hh=>by
       have hh:thrV vt (L.getD cc[k].toNat lotD) ((3*cc[k])+(m:Int))-thrV vt (L.getD cc[m].toNat lotD) (cc[k]+(5*(m:Int))) > by_:=hh;omega)
      have t2:decide (0-((thrV vt ((L.getD cc[k].toNat lotD).1,((L.getD cc[k].toNat lotD).2.1.1,(L.getD cc[k].toNat lotD).2.1.2),(L.getD cc[k].toNat lotD).2.2) ((3*cc[k])+(m:Int)))-(thrV vt ((L.getD cc[m].toNat lotD).1,((L.getD cc[m].toNat lotD).2.1.1,(L.getD cc[m].toNat lotD).2.1.2),(L.getD cc[m].toNat lotD).2.2) (cc[k]+(5*(m:Int))))) > by_)=false:=decide_eq_false (fun hh=>by
       have hh:0-(thrV vt (L.getD cc[k].toNat lotD) ((3*cc[k])+(m:Int))-thrV vt (L.getD cc[m].toNat lotD) (cc[k]+(5*(m:Int)))) > by_:=hh;omega)
      have t3:((L.getD cc[k].toNat lotD).1 != (L.getD cc[m].toNat lotD).1)=false:=by rw[ha2.1];simp
      have hcl:cc.length≤9:=by omega
      have bI:InK .i64 ((thrV vt ((L.getD cc[k].toNat lotD).1,((L.getD cc[k].toNat lotD).2.1.1,(L.getD cc[k].toNat lotD).2.1.2),(L.getD cc[k].toNat lotD).2.2) ((3*cc[k])+(m:Int)))-(thrV vt ((L.getD cc[m].toNat lotD).1,((L.getD cc[m].toNat lotD).2.1.1,(L.getD cc[m].toNat lotD).2.1.2),(L.getD cc[m].toNat lotD).2.2) (cc[k]+(5*(m:Int))))):=by show InK .i64 (thrV vt (L.getD cc[k].toNat lotD) ((3*cc[k])+(m:Int))-thrV vt (L.getD cc[m].toNat lotD) (cc[k]+(5*(m:Int))));exact hI _ (by omega) (by omega)
      have bI2:InK .i64 (0-((thrV vt ((L.getD cc[k].toNat lotD).1,((L.getD cc[k].toNat lotD).2.1.1,(L.getD cc[k].toNat lotD).2.1.2),(L.getD cc[k].toNat lotD).2.2) ((3*cc[k])+(m:Int)))-(thrV vt ((L.getD cc[m].toNat lotD).1,((L.getD cc[m].toNat lotD).2.1.1,(L.getD cc[m].toNat lotD).2.1.2),(L.getD cc[m].toNat lotD).2.2) (cc[k]+(5*(m:Int)))))):=by show InK .i64 (0-(thrV vt (L.getD cc[k].toNat lotD) ((3*cc[k])+(m:Int))-thrV vt (L.getD cc[m].toNat lotD) (cc[k]+(5*(m:Int)))));exact hI _ (by omega) (by omega)
      simp only[t1,t2,t3,Bool.or_false];and_intros;all_goals try (first|exact hv.2.2.1|exact hv.2.2.2)
      all_goals try (intros;first|rfl|trivial|omega|exact hv|exact hv.1|exact hv.2.1|exact hv.2.2.1|exact hv.2.2.2|exact bI.1|exact bI.2|exact bI2.1|exact bI2.2|exact(hI _ (by omega) (by omega)).1|exact(hI _ (by omega) (by omega)).2)
      all_goals try (intro gg;cases gg;done)
      intro _;exact⟨hI _ (by omega) (by omega),(m:Int)+1,(by and_intros<;>first|rfl|trivial|simp),hq3 (by omega) trivial⟩
     ·refine⟨hI _ (by omega) (by omega),(aput (.i .i64) M cc[k] true,(k:Int)+1),(by and_intros<;>first|rfl|trivial|simp),⟨k+1,by simp,by omega,hnew,?_,n2⟩,by dsimp only;omega⟩;dsimp only;rw[n1,g4,htk];simp only[List.length_append,List.length_singleton];omega
    ·have c2:k=cc.length:=by have:=of_decide_eq_false c2;omega
     subst c2;have hcs:cc.Pairwise (·<·):=(s1.and hcn).imp fun h=>by have:=h.1;have:=h.2;omega
     obtain⟨u1,u2,u3,u4⟩:=J96 (t:=by_) hz hok hcs hccin s2 s3;have v1:(Q0c L cc != 0)=false:=by rw[u1];rfl
     have v2:decide ((spreadSp L cc).2 > by_)=false:=decide_eq_false (by omega);have v3:decide ((spreadSp L cc).1 > (spreadSp L cc).2)=false:=decide_eq_false (by omega);have v4:decide ((spreadSp L cc).1<0)=false:=decide_eq_false (by omega);have hcl:cc.length≤1000:=by omega
     have htl:(C.take (i+1)).flatten=(C.take i).flatten++cc:=by rw[Q2d c1,List.flatten_append,hcc];simp
     simp only[v1,v2,v3,v4,Bool.or_false];and_intros;all_goals try (intros;first|rfl|trivial|omega|exact(hI _ (by omega) (by omega)).1|exact(hI _ (by omega) (by omega)).2)
     all_goals try (intro gg;cases gg;done)
     intro _;have hC0:i<100000:=by have:C.length=H.length:=p7.symm;omega
     refine⟨hI _ (by omega) (by omega),(M,(i:Int)+1),(by and_intros<;>first|rfl|trivial|simp),⟨i+1,by simp,by omega,fun n=>?_,?_,g5⟩,by dsimp only;omega⟩
     ·dsimp only;rw[g3,htl,List.take_length]
     ·dsimp only;rw[g4,htl,List.take_length]
   ·have c1:i=C.length:=by have:=of_decide_eq_false c1;omega
    subst c1;have hml:M.length=L.length:=by rw[f4,List.take_length,hfl]
    rw[hml];simp
end Go.Proofs.Tryz
set_option linter.unusedVariables false
namespace Go.Proofs.Tryz
open Go Go.V Go.Proofs
theorem X27 {x:List (Int×Int×Int×Int)×List Int}(h:KWf (.pair (.list (.pair (.i .u8) (.pair (.i .u8) (.pair (.i .u8) (.i .u8))))) (.list (.i .u8))) x):vatOk x.1 x.2:=by obtain⟨h1,h2⟩:=h;refine⟨h1.1,h2.1,fun y hy=>?_,fun y hy=>(J17 y).1 (h2.2 y hy)⟩;obtain⟨a,b,c,d⟩:=h1.2 y hy;exact⟨(J17 _).1 a,(J17 _).1 b,(J17 _).1 c,(J17 _).1 d⟩
theorem prfPre_of {x:(List (Int×Int×Int×Int)×List Int)×Int}(h:AWf [.pair (.list (.pair (.i .u8) (.pair (.i .u8) (.pair (.i .u8) (.i .u8))))) (.list (.i .u8)),.i .u8] x):vatOk x.1.1 x.1.2∧0≤x.2∧x.2≤255:=by obtain⟨h1,h2⟩:=h;have h2:=(J17 x.2).1 h2;exact⟨X27 h1,h2.1,h2.2⟩
end Go.Proofs.Tryz