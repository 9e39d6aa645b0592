/- A framework for walks, contracts of functions, and their proofs: part 6. -/
import Derived.ProofKit
import Derived.OpenShut
import Derived.LaidMore
import Derived.Carry
import Derived.Lib.SmallJoins
import Derived.Deep.Slices
import Derived.Test.YtmmimffgljppkaaGreatDoorR5
set_option linter.unusedVariables false
namespace Go.Proofs.Tryz
open Go Go.V Go.Proofs
def al_shade_Book:AL (Int × Int × List (Int × Int)):=(.cons (.k (.i .i64)) (.cons (.k (.i .i64)) (.one (.k (.list (.pair (.i .i64) (.i .i64)))))))
def pre_shade_Book (d:Int × Int × List (Int × Int)):Prop:=d.2.2.length ≤ 1000
def res_shade_Book (d:Int × Int × List (Int × Int)):SV:=.tup [.agg [.val (.i .i64) ((bookSp d.1 d.2.1 d.2.2).1),.val (.i .i64) ((bookSp d.1 d.2.1 d.2.2).2)],.val (.i .i64) (bookAt d.1 d.2.1 d.2.2),.val (.i .i64) (bookErr d.1 d.2.1 d.2.2)]
def obs_shade_Book (d:Int × Int × List (Int × Int)):List OB:=[]
def s_shade_Book:CSp:=mkSp al_shade_Book pre_shade_Book res_shade_Book obs_shade_Book
def vc_shade_Book (g:Int) (s:Int) (l:List (Int × Int)):Prop :=
 ∀ w1:List Value,([g].length ≤ 1000000)∧((!(!([g].any fun n=>decide (n < (1:Int)) || decide ((1000000:Int) < n))))=true →
  ((!(!([g].any fun n=>decide (n < (1:Int)) || decide ((1000000:Int) < n))))=true →
   w1=w1∧(((2:Int) != (0:Int))=true →
    ((((0:Int)=((bookSp g s l).1)∧(0:Int)=((bookSp g s l).2)∧(([]:List SV)=[]))∧(0:Int)=(bookAt g s l)∧(2:Int)=(bookErr g s l)∧(([]:List SV)=[]))∧(True))) ∧
   (((2:Int) != (0:Int))=false →
    (bookOk (0:Int) (0:Int) ([]:List (Int × Int)))∧((decide ((wrongI (0:Int) (0:Int) ([]:List (Int × Int))) ≥ (0:Int)))=true →
     ((((0:Int)=((bookSp g s l).1)∧(0:Int)=((bookSp g s l).2)∧(([]:List SV)=[]))∧(wrongI (0:Int) (0:Int) ([]:List (Int × Int)))=(bookAt g s l)∧(90:Int)=(bookErr g s l)∧(([]:List SV)=[]))∧(True))) ∧
    ((decide ((wrongI (0:Int) (0:Int) ([]:List (Int × Int))) ≥ (0:Int)))=false →
     (0 ≤ (lI l))∧((lI l) < (List.length (forthW (0:Int) (0:Int) ([]:List (Int × Int)))))∧((((gD (forthW (0:Int) (0:Int) ([]:List (Int × Int))) (lI l) (0,0)).1=((bookSp g s l).1)∧(gD (forthW (0:Int) (0:Int) ([]:List (Int × Int))) (lI l) (0,0)).2=((bookSp g s l).2)∧(([]:List SV)=[]))∧(0:Int)=(bookAt g s l)∧(0:Int)=(bookErr g s l)∧(([]:List SV)=[]))∧(True))))) ∧
  ((!(!([g].any fun n=>decide (n < (1:Int)) || decide ((1000000:Int) < n))))=false →
   ((decide ((lI l) > (40:Int)))=true →
    w1=w1∧(((5:Int) != (0:Int))=true →
     ((((0:Int)=((bookSp g s l).1)∧(0:Int)=((bookSp g s l).2)∧(([]:List SV)=[]))∧(0:Int)=(bookAt g s l)∧(5:Int)=(bookErr g s l)∧(([]:List SV)=[]))∧(True))) ∧
    (((5:Int) != (0:Int))=false →
     (bookOk (0:Int) (0:Int) ([]:List (Int × Int)))∧((decide ((wrongI (0:Int) (0:Int) ([]:List (Int × Int))) ≥ (0:Int)))=true →
      ((((0:Int)=((bookSp g s l).1)∧(0:Int)=((bookSp g s l).2)∧(([]:List SV)=[]))∧(wrongI (0:Int) (0:Int) ([]:List (Int × Int)))=(bookAt g s l)∧(90:Int)=(bookErr g s l)∧(([]:List SV)=[]))∧(True))) ∧
     ((decide ((wrongI (0:Int) (0:Int) ([]:List (Int × Int))) ≥ (0:Int)))=false →
      (0 ≤ (lI l))∧((lI l) < (List.length (forthW (0:Int) (0:Int) ([]:List (Int × Int)))))∧((((gD (forthW (0:Int) (0:Int) ([]:List (Int × Int))) (lI l) (0,0)).1=((bookSp g s l).1)∧(gD (forthW (0:Int) (0:Int) ([]:List (Int × Int))) (lI l) (0,0)).2=((bookSp g s l).2)∧(([]:List SV)=[]))∧(0:Int)=(bookAt g s l)∧(0:Int)=(bookErr g s l)∧(([]:List SV)=[]))∧(True))))) ∧
   ((decide ((lI l) > (40:Int)))=false →
    (l.length ≤ 1000000∧∀ x ∈ l,(fun (x1:Int × Int)=>True) x)∧((l.any (fun (x1:Int × Int)=>(!inI x1.1 1 3 || !inI x1.2 0 12000000)))=true →
     w1=w1∧(((2:Int) != (0:Int))=true →
      ((((0:Int)=((bookSp g s l).1)∧(0:Int)=((bookSp g s l).2)∧(([]:List SV)=[]))∧(0:Int)=(bookAt g s l)∧(2:Int)=(bookErr g s l)∧(([]:List SV)=[]))∧(True))) ∧
     (((2:Int) != (0:Int))=false →
      (bookOk (0:Int) (0:Int) ([]:List (Int × Int)))∧((decide ((wrongI (0:Int) (0:Int) ([]:List (Int × Int))) ≥ (0:Int)))=true →
       ((((0:Int)=((bookSp g s l).1)∧(0:Int)=((bookSp g s l).2)∧(([]:List SV)=[]))∧(wrongI (0:Int) (0:Int) ([]:List (Int × Int)))=(bookAt g s l)∧(90:Int)=(bookErr g s l)∧(([]:List SV)=[]))∧(True))) ∧
      ((decide ((wrongI (0:Int) (0:Int) ([]:List (Int × Int))) ≥ (0:Int)))=false →
       (0 ≤ (lI l))∧((lI l) < (List.length (forthW (0:Int) (0:Int) ([]:List (Int × Int)))))∧((((gD (forthW (0:Int) (0:Int) ([]:List (Int × Int))) (lI l) (0,0)).1=((bookSp g s l).1)∧(gD (forthW (0:Int) (0:Int) ([]:List (Int × Int))) (lI l) (0,0)).2=((bookSp g s l).2)∧(([]:List SV)=[]))∧(0:Int)=(bookAt g s l)∧(0:Int)=(bookErr g s l)∧(([]:List SV)=[]))∧(True))))) ∧
    ((l.any (fun (x1:Int × Int)=>(!inI x1.1 1 3 || !inI x1.2 0 12000000)))=false →
     w1=w1∧(((0:Int) != (0:Int))=true →
      ((((0:Int)=((bookSp g s l).1)∧(0:Int)=((bookSp g s l).2)∧(([]:List SV)=[]))∧(0:Int)=(bookAt g s l)∧(0:Int)=(bookErr g s l)∧(([]:List SV)=[]))∧(True))) ∧
     (((0:Int) != (0:Int))=false →
      (bookOk g s l)∧((decide ((wrongI g s l) ≥ (0:Int)))=true →
       ((((0:Int)=((bookSp g s l).1)∧(0:Int)=((bookSp g s l).2)∧(([]:List SV)=[]))∧(wrongI g s l)=(bookAt g s l)∧(90:Int)=(bookErr g s l)∧(([]:List SV)=[]))∧(True))) ∧
      ((decide ((wrongI g s l) ≥ (0:Int)))=false →
       (0 ≤ (lI l))∧((lI l) < (List.length (forthW g s l)))∧((((gD (forthW g s l) (lI l) (0,0)).1=((bookSp g s l).1)∧(gD (forthW g s l) (lI l) (0,0)).2=((bookSp g s l).2)∧(([]:List SV)=[]))∧(0:Int)=(bookAt g s l)∧(0:Int)=(bookErr g s l)∧(([]:List SV)=[]))∧(True)))))))) ∧
 ((!(!([g].any fun n=>decide (n < (1:Int)) || decide ((1000000:Int) < n))))=false →
  ([s].length ≤ 1000000)∧((!(!([s].any fun n=>decide (n < (0:Int)) || decide ((1000:Int) < n))))=true →
   w1=w1∧(((2:Int) != (0:Int))=true →
    ((((0:Int)=((bookSp g s l).1)∧(0:Int)=((bookSp g s l).2)∧(([]:List SV)=[]))∧(0:Int)=(bookAt g s l)∧(2:Int)=(bookErr g s l)∧(([]:List SV)=[]))∧(True))) ∧
   (((2:Int) != (0:Int))=false →
    (bookOk (0:Int) (0:Int) ([]:List (Int × Int)))∧((decide ((wrongI (0:Int) (0:Int) ([]:List (Int × Int))) ≥ (0:Int)))=true →
     ((((0:Int)=((bookSp g s l).1)∧(0:Int)=((bookSp g s l).2)∧(([]:List SV)=[]))∧(wrongI (0:Int) (0:Int) ([]:List (Int × Int)))=(bookAt g s l)∧(90:Int)=(bookErr g s l)∧(([]:List SV)=[]))∧(True))) ∧
    ((decide ((wrongI (0:Int) (0:Int) ([]:List (Int × Int))) ≥ (0:Int)))=false →
     (0 ≤ (lI l))∧((lI l) < (List.length (forthW (0:Int) (0:Int) ([]:List (Int × Int)))))∧((((gD (forthW (0:Int) (0:Int) ([]:List (Int × Int))) (lI l) (0,0)).1=((bookSp g s l).1)∧(gD (forthW (0:Int) (0:Int) ([]:List (Int × Int))) (lI l) (0,0)).2=((bookSp g s l).2)∧(([]:List SV)=[]))∧(0:Int)=(bookAt g s l)∧(0:Int)=(bookErr g s l)∧(([]:List SV)=[]))∧(True))))) ∧
  ((!(!([s].any fun n=>decide (n < (0:Int)) || decide ((1000:Int) < n))))=false →
   ((decide ((lI l) > (40:Int)))=true →
    w1=w1∧(((5:Int) != (0:Int))=true →
     ((((0:Int)=((bookSp g s l).1)∧(0:Int)=((bookSp g s l).2)∧(([]:List SV)=[]))∧(0:Int)=(bookAt g s l)∧(5:Int)=(bookErr g s l)∧(([]:List SV)=[]))∧(True))) ∧
    (((5:Int) != (0:Int))=false →
     (bookOk (0:Int) (0:Int) ([]:List (Int × Int)))∧((decide ((wrongI (0:Int) (0:Int) ([]:List (Int × Int))) ≥ (0:Int)))=true →
      ((((0:Int)=((bookSp g s l).1)∧(0:Int)=((bookSp g s l).2)∧(([]:List SV)=[]))∧(wrongI (0:Int) (0:Int) ([]:List (Int × Int)))=(bookAt g s l)∧(90:Int)=(bookErr g s l)∧(([]:List SV)=[]))∧(True))) ∧
     ((decide ((wrongI (0:Int) (0:Int) ([]:List (Int × Int))) ≥ (0:Int)))=false →
      (0 ≤ (lI l))∧((lI l) < (List.length (forthW (0:Int) (0:Int) ([]:List (Int × Int)))))∧((((gD (forthW (0:Int) (0:Int) ([]:List (Int × Int))) (lI l) (0,0)).1=((bookSp g s l).1)∧(gD (forthW (0:Int) (0:Int) ([]:List (Int × Int))) (lI l) (0,0)).2=((bookSp g s l).2)∧(([]:List SV)=[]))∧(0:Int)=(bookAt g s l)∧(0:Int)=(bookErr g s l)∧(([]:List SV)=[]))∧(True))))) ∧
   ((decide ((lI l) > (40:Int)))=false →
    (l.length ≤ 1000000∧∀ x ∈ l,(fun (x2:Int × Int)=>True) x)∧((l.any (fun (x2:Int × Int)=>(!inI x2.1 1 3 || !inI x2.2 0 12000000)))=true →
     w1=w1∧(((2:Int) != (0:Int))=true →
      ((((0:Int)=((bookSp g s l).1)∧(0:Int)=((bookSp g s l).2)∧(([]:List SV)=[]))∧(0:Int)=(bookAt g s l)∧(2:Int)=(bookErr g s l)∧(([]:List SV)=[]))∧(True))) ∧
     (((2:Int) != (0:Int))=false →
      (bookOk (0:Int) (0:Int) ([]:List (Int × Int)))∧((decide ((wrongI (0:Int) (0:Int) ([]:List (Int × Int))) ≥ (0:Int)))=true →
       ((((0:Int)=((bookSp g s l).1)∧(0:Int)=((bookSp g s l).2)∧(([]:List SV)=[]))∧(wrongI (0:Int) (0:Int) ([]:List (Int × Int)))=(bookAt g s l)∧(90:Int)=(bookErr g s l)∧(([]:List SV)=[]))∧(True))) ∧
      ((decide ((wrongI (0:Int) (0:Int) ([]:List (Int × Int))) ≥ (0:Int)))=false →
       (0 ≤ (lI l))∧((lI l) < (List.length (forthW (0:Int) (0:Int) ([]:List (Int × Int)))))∧((((gD (forthW (0:Int) (0:Int) ([]:List (Int × Int))) (lI l) (0,0)).1=((bookSp g s l).1)∧(gD (forthW (0:Int) (0:Int) ([]:List (Int × Int))) (lI l) (0,0)).2=((bookSp g s l).2)∧(([]:List SV)=[]))∧(0:Int)=(bookAt g s l)∧(0:Int)=(bookErr g s l)∧(([]:List SV)=[]))∧(True))))) ∧
    ((l.any (fun (x2:Int × Int)=>(!inI x2.1 1 3 || !inI x2.2 0 12000000)))=false →
     w1=w1∧(((0:Int) != (0:Int))=true →
      ((((0:Int)=((bookSp g s l).1)∧(0:Int)=((bookSp g s l).2)∧(([]:List SV)=[]))∧(0:Int)=(bookAt g s l)∧(0:Int)=(bookErr g s l)∧(([]:List SV)=[]))∧(True))) ∧
     (((0:Int) != (0:Int))=false →
      (bookOk g s l)∧((decide ((wrongI g s l) ≥ (0:Int)))=true →
       ((((0:Int)=((bookSp g s l).1)∧(0:Int)=((bookSp g s l).2)∧(([]:List SV)=[]))∧(wrongI g s l)=(bookAt g s l)∧(90:Int)=(bookErr g s l)∧(([]:List SV)=[]))∧(True))) ∧
      ((decide ((wrongI g s l) ≥ (0:Int)))=false →
       (0 ≤ (lI l))∧((lI l) < (List.length (forthW g s l)))∧((((gD (forthW g s l) (lI l) (0,0)).1=((bookSp g s l).1)∧(gD (forthW g s l) (lI l) (0,0)).2=((bookSp g s l).2)∧(([]:List SV)=[]))∧(0:Int)=(bookAt g s l)∧(0:Int)=(bookErr g s l)∧(([]:List SV)=[]))∧(True))))))))
def cx_shade_Book:Cx:=⟨[(3,(.i .i64))],[(33,s_shade_within),(40,s_shade_book_forth),(57,s_slices_ContainsFunc_api_ShadeEntry_api_ShadeEntry),(56,s_shade_newBook_1)],37,[],0,[(37,x_shade_newBook)],[],[],[],false,[],[],[]⟩
def lp_shade_Book (g:Int) (s:Int) (l:List (Int × Int)):List (Nat × LoopAnn):=[]
set_option maxRecDepth 100000 in
theorem vq_shade_Book (d:Int × Int × List (Int × Int)):gwp (cx_shade_Book) (lp_shade_Book d.1 d.2.1 d.2.2) c19 0 (gend [.cell 6 true 2,.tmp 7,.tmp 8] (res_shade_Book d) (obs_shade_Book d)) (gstart 37 (AL.can al_shade_Book d))=vc_shade_Book d.1 d.2.1 d.2.2:=by kernel_rfl
abbrev Ok_shade_Book:Prop:=OkC Tryz.prog 19 s_shade_Book
theorem mk_shade_Book (h:∀ (g:Int) (s:Int) (l:List (Int × Int)),(l.length ≤ 1000)→vc_shade_Book g s l):OkC Tryz.prog 19 s_shade_Book :=
 okC_vc fun19 mixed (C:=cx_shade_Book) (V:=fun (d:Int × Int × List (Int × Int))=>vc_shade_Book d.1 d.2.1 d.2.2) ⟨(.cons ok_shade_within (.cons ok_shade_book_forth (.cons ok_slices_ContainsFunc_api_ShadeEntry_api_ShadeEntry (.cons ok_shade_newBook_1 .nil)))),(XsOk.cons okx_shade_newBook XsOk.nil),ItsOk.nil,YlOk.nil,IysOk.nil⟩ (vq_shade_Book) fun d hp=>h d.1 d.2.1 d.2.2 hp
theorem dead2:((2:Int) != 0)=true:=rfl
theorem dead5:((5:Int) != 0)=true:=rfl
theorem dead0:((0:Int) != 0)=false:=rfl
theorem ent2a {g s:Int} {l:List En} (h:inI g 1 1000000=false):entErr g s l=2:=by unfold entErr; rw [h]; rfl
theorem ent2b {g s:Int} {l:List En} (h:inI s 0 1000=false):entErr g s l=2:=by unfold entErr; rw [h,Bool.not_false,Bool.or_true,if_pos rfl]
theorem ent5 {g s:Int} {l:List En} (h1:inI g 1 1000000=true) (h2:inI s 0 1000=true) (h:40 < (l.length:Int)):entErr g s l=5:=by unfold entErr; rw [h1,h2,if_neg (by decide),if_pos (by omega)]
theorem ent2c {g s:Int} {l:List En} (h1:inI g 1 1000000=true) (h2:inI s 0 1000=true) (h3:¬ 40 < (l.length:Int)) (h:(l.any fun x=>!inI x.1 1 3 || !inI x.2 0 12000000)=true):entErr g s l=2:=by
 unfold entErr; rw [h1,h2,if_neg (by decide),if_neg (by omega),if_pos h]
theorem ent0 {g s:Int} {l:List En} (h1:inI g 1 1000000=true) (h2:inI s 0 1000=true) (h3:¬ 40 < (l.length:Int)) (h:(l.any fun x=>!inI x.1 1 3 || !inI x.2 0 12000000)=false):entErr g s l=0:=by
 unfold entErr; rw [h1,h2,if_neg (by decide),if_neg (by omega),if_neg (by rw [h]; decide)]
theorem book_err {g s e:Int} {l:List En} (he:entErr g s l=e) (h0:e ≠ 0):bookErr g s l=e∧bookAt g s l=0∧bookSp g s l=(0,0):=by
 have h1:bookErr g s l=e:=by unfold bookErr; rw [he,if_pos h0]
 refine ⟨h1,?_,?_⟩
 ·unfold bookAt; rw [he,if_neg (fun h=>h0 h.1)]
 ·unfold bookSp; rw [h1,if_neg h0]
theorem book_bad {g s:Int} {l:List En} (he:entErr g s l=0) (hw:0 ≤ wrongI g s l):bookErr g s l=90∧bookAt g s l=wrongI g s l∧bookSp g s l=(0,0):=by
 have h1:bookErr g s l=90:=by unfold bookErr; rw [he,if_neg (by decide),if_pos hw]
 refine ⟨h1,?_,?_⟩
 ·unfold bookAt; rw [if_pos ⟨he,hw⟩]
 ·unfold bookSp; rw [h1,if_neg (by decide)]
theorem book_good {g s:Int} {l:List En} (he:entErr g s l=0) (hw:¬ 0 ≤ wrongI g s l):bookErr g s l=0∧bookAt g s l=0∧bookSp g s l=stB g s l l.length∧forthW g s l=(List.range (l.length + 1)).map (stB g s l):=by
 have h1:bookErr g s l=0:=by unfold bookErr; rw [he,if_neg (by decide),if_neg hw]
 refine ⟨h1,?_,?_,?_⟩
 ·unfold bookAt; rw [if_neg (fun h=>hw h.2)]
 ·unfold bookSp; rw [if_pos h1]
 ·unfold forthW; rw [wrongN_no (wrong_none.1 (by omega))]
theorem ok_shade_Book:Ok_shade_Book:=mk_shade_Book fun g s l hl=>by
 unfold vc_shade_Book; (try delta lI gD sT I64)
 simp only [List.any_cons,List.any_nil,Bool.or_false,Bool.not_not,←nI,List.length_cons,List.length_nil,dead2,dead5,dead0,Bool.true_eq_false,true_and,and_true,eq_self_iff_true,exists_eq_left',exists_const,decide_eq_true_eq,decide_eq_false_iff_not,beq_iff_eq,bne_iff_ne,ne_eq,beq_eq_false_iff_ne,bne_eq_false_iff_eq,Bool.not_eq_true',Bool.not_eq_false',Bool.not_eq_true,Bool.not_eq_false,Int.toNat_natCast,Int.ofNat_lt,gt_iff_lt,ge_iff_le,forall_eq,true_implies,false_implies,Bool.false_eq_true,Bool.or_self,Bool.and_self,Bool.or_false,Bool.false_or,Bool.or_true,Bool.true_or,Bool.and_false,Bool.false_and,Bool.and_true,Bool.true_and,Bool.not_true,Bool.not_false,implies_true,forall_const,decide_false,decide_true,not_false_eq_true,not_true_eq_false]
 have R0:∀ {e:Int},entErr g s l=e→e ≠ 0→(0=(bookSp g s l).1∧0=(bookSp g s l).2)∧0=bookAt g s l∧e=bookErr g s l:=fun he h0=>by
  obtain ⟨a,b,c⟩:=book_err he h0
  rw [a,b,c]; exact ⟨⟨rfl,rfl⟩,rfl,rfl⟩
 refine ⟨by omega,fun h1=>⟨fun _=>R0 (ent2a h1) (by decide),fun h=>by rw [h1] at h; cases h⟩,fun h1=>⟨by omega,fun h2=>R0 (ent2b h2) (by decide),fun h2=>⟨fun h3=>R0 (ent5 h1 h2 h3) (by decide),fun h3=>⟨by omega,fun h4=>R0 (ent2c h1 h2 h3 h4) (by decide),fun h4=>?_⟩⟩⟩⟩
 have he:=ent0 h1 h2 h3 h4
 refine ⟨entErr_zero he,fun hw=>?_,fun hw=>?_⟩
 ·obtain ⟨a,b,c⟩:=book_bad he hw
  rw [a,b,c]; exact ⟨⟨rfl,rfl⟩,rfl,rfl⟩
 ·obtain ⟨a,b,c,d⟩:=book_good he hw
  rw [a,b,c,d,stB_at (by omega)]
  exact ⟨by omega,by simp,⟨rfl,rfl⟩,rfl,rfl⟩
end Go.Proofs.Tryz
set_option linter.unusedVariables false
namespace Go.Proofs.Tryz
open Go Go.V Go.Proofs
def al_law09_entries:AL (List (Int × Int)):=(.one (.k (.list (.pair (.i .i64) (.i .i64)))))
def pre_law09_entries (d:List (Int × Int)):Prop:=d.length ≤ 1000
def res_law09_entries (d:List (Int × Int)):SV:=.lst 0
def obs_law09_entries (d:List (Int × Int)):List OB:=[.lst 44 (.pair (.i .i64) (.i .i64)) d false]
def s_law09_entries:CSp:=mkSp al_law09_entries pre_law09_entries res_law09_entries obs_law09_entries
def vc_law09_entries (l:List (Int × Int)):Prop :=
 (((List.length ([]:List (Int × Int))) + (List.length l)) * 16 ≤ 70368744177664)∧(True∧(((([]:List (Int × Int))++l)=l∧((List.isEmpty l) && false)=false)∧True))
def cx_law09_entries:Cx:=⟨[(44,(.pair (.i .i64) (.i .i64)))],[],6,[],0,[],[],[],[],false,[],[],[]⟩
def lp_law09_entries (l:List (Int × Int)):List (Nat × LoopAnn):=[]
set_option maxRecDepth 100000 in
theorem vq_law09_entries (d:List (Int × Int)):gwp (cx_law09_entries) (lp_law09_entries d) c16 0 (gend [.tmp 2] (res_law09_entries d) (obs_law09_entries d)) (gstart 6 (AL.can al_law09_entries d))=vc_law09_entries d:=by kernel_rfl
abbrev Ok_law09_entries:Prop:=OkC Tryz.prog 16 s_law09_entries
theorem mk_law09_entries (h:∀ (l:List (Int × Int)),(l.length ≤ 1000)→vc_law09_entries l):OkC Tryz.prog 16 s_law09_entries :=
 okC_vc fun16 mixed (C:=cx_law09_entries) (V:=fun (d:List (Int × Int))=>vc_law09_entries d) ⟨.nil,XsOk.nil,ItsOk.nil,YlOk.nil,IysOk.nil⟩ (vq_law09_entries) fun d hp=>h d hp
theorem ok_law09_entries:Ok_law09_entries:=mk_law09_entries fun l h=>by
 have h1:l.length * 16 ≤ 70368744177664:=by omega
 simp [vc_law09_entries,h1]
def al_law09_span:AL (Int × Int):=(.cons (.k (.i .i64)) (.one (.k (.i .i64))))
def pre_law09_span (d:Int × Int):Prop:=True
def res_law09_span (d:Int × Int):SV:=.agg [.val (.i .i64) d.1,.val (.i .i64) d.2]
def obs_law09_span (d:Int × Int):List OB:=[]
def s_law09_span:CSp:=mkSp al_law09_span pre_law09_span res_law09_span obs_law09_span
def vc_law09_span (a:Int) (b:Int):Prop :=
 ((a=a∧b=b∧(([]:List SV)=[]))∧(True))
def cx_law09_span:Cx:=⟨[],[],8,[],0,[],[],[],[],false,[],[],[]⟩
def lp_law09_span (a:Int) (b:Int):List (Nat × LoopAnn):=[]
set_option maxRecDepth 100000 in
theorem vq_law09_span (d:Int × Int):gwp (cx_law09_span) (lp_law09_span d.1 d.2) c29 0 (gend [.cell 4 true 2] (res_law09_span d) (obs_law09_span d)) (gstart 8 (AL.can al_law09_span d))=vc_law09_span d.1 d.2:=by kernel_rfl
abbrev Ok_law09_span:Prop:=OkC Tryz.prog 29 s_law09_span
theorem mk_law09_span (h:∀ (a:Int) (b:Int),(True)→vc_law09_span a b):OkC Tryz.prog 29 s_law09_span :=
 okC_vc fun29 mixed (C:=cx_law09_span) (V:=fun (d:Int × Int)=>vc_law09_span d.1 d.2) ⟨.nil,XsOk.nil,ItsOk.nil,YlOk.nil,IysOk.nil⟩ (vq_law09_span) fun d hp=>h d.1 d.2 hp
theorem ok_law09_span:Ok_law09_span:=mk_law09_span fun a b _=>(by and_intros <;> first | rfl | trivial | simp)
end Go.Proofs.Tryz
set_option linter.unusedVariables false
namespace Go.Proofs.Tryz
open Go Go.V Go.Proofs
def cx_slices_Backward_api_ShadeEntry_api_ShadeEntry:Cx:=⟨[],[],4,[],0,[],[],[],[],false,[],[],[]⟩
def x_slices_Backward_api_ShadeEntry_api_ShadeEntry:XSp:=inlX cx_slices_Backward_api_ShadeEntry_api_ShadeEntry (fun _=>[]) c42 [.tmp 2] 4
theorem okx_slices_Backward_api_ShadeEntry_api_ShadeEntry:XOk Tryz.prog 42 x_slices_Backward_api_ShadeEntry_api_ShadeEntry:=inlX_ok fun42 mixed (C:=cx_slices_Backward_api_ShadeEntry_api_ShadeEntry) ⟨.nil,XsOk.nil,ItsOk.nil,YlOk.nil,IysOk.nil⟩ _
end Go.Proofs.Tryz
set_option linter.unusedVariables false
namespace Go.Proofs.Tryz
open Go Go.V Go.Proofs
def al_shade_Was:AL (Int × Int × (List (Int × Int)) × Int):=(.cons (.k (.i .i64)) (.cons (.k (.i .i64)) (.cons (.k (.list (.pair (.i .i64) (.i .i64)))) (.one (.k (.i .i64))))))
def pre_shade_Was (d:Int × Int × (List (Int × Int)) × Int):Prop:=d.2.2.1.length ≤ 1000
def res_shade_Was (d:Int × Int × (List (Int × Int)) × Int):SV:=.tup [.agg [.val (.i .i64) ((wasSp d.1 d.2.1 d.2.2.1 d.2.2.2).1),.val (.i .i64) ((wasSp d.1 d.2.1 d.2.2.1 d.2.2.2).2)],.val (.i .i64) (wasErr d.1 d.2.1 d.2.2.1 d.2.2.2)]
def obs_shade_Was (d:Int × Int × (List (Int × Int)) × Int):List OB:=[]
def s_shade_Was:CSp:=mkSp al_shade_Was pre_shade_Was res_shade_Was obs_shade_Was
def vc_shade_Was (g:Int) (s:Int) (l:List (Int × Int)) (ei:Int):Prop :=
 ∀ w1:List Value,([g].length ≤ 1000000)∧((!(!([g].any fun n=>decide (n < (1:Int)) || decide ((1000000:Int) < n))))=true →
  ((!(!([g].any fun n=>decide (n < (1:Int)) || decide ((1000000:Int) < n))))=true →
   w1=w1∧(((2:Int) != (0:Int))=true →
    ((((0:Int)=((wasSp g s l ei).1)∧(0:Int)=((wasSp g s l ei).2)∧(([]:List SV)=[]))∧(2:Int)=(wasErr g s l ei)∧(([]:List SV)=[]))∧(True))) ∧
   (((2:Int) != (0:Int))=false →
    (bookOk (0:Int) (0:Int) ([]:List (Int × Int)))∧((decide ((wrongI (0:Int) (0:Int) ([]:List (Int × Int))) ≥ (0:Int)))=true →
     ((((0:Int)=((wasSp g s l ei).1)∧(0:Int)=((wasSp g s l ei).2)∧(([]:List SV)=[]))∧(90:Int)=(wasErr g s l ei)∧(([]:List SV)=[]))∧(True))) ∧
    ((decide ((wrongI (0:Int) (0:Int) ([]:List (Int × Int))) ≥ (0:Int)))=false →
     (I64 ((lI l) - (1:Int)))∧([ei].length ≤ 1000000)∧((!(!([ei].any fun n=>decide (n < (0:Int)) || decide (((lI l) - (1:Int)) < n))))=true →
      ((((0:Int)=((wasSp g s l ei).1)∧(0:Int)=((wasSp g s l ei).2)∧(([]:List SV)=[]))∧(7:Int)=(wasErr g s l ei)∧(([]:List SV)=[]))∧(True))) ∧
     ((!(!([ei].any fun n=>decide (n < (0:Int)) || decide (((lI l) - (1:Int)) < n))))=false →
      (True)∧(I64 (ei + (1:Int)))∧(0 ≤ (ei + (1:Int)))∧((ei + (1:Int)) ≤ (lI l))∧((lI l) ≤ (List.length l))∧∀ w2:List Value,w2=w2∧(List.length (List.take (Int.toNat ((lI l) - (ei + (1:Int)))) (List.drop (Int.toNat (ei + (1:Int))) l)) < 4611686018427387904)∧∃ (e3:Unit) (d30:Int × Int),((l=l∧ei=ei∧True∧True∧True∧True∧True)∧(((0:Int)=(0:Int)∧(0:Int)=(0:Int)∧(([]:List SV)=[]))∧((0:Int)=g∧(0:Int)=s∧l=[]∧(([]:List SV)=[]))∧((forthW (0:Int) (0:Int) ([]:List (Int × Int)))=(forthW g s l)∧false=false)∧((0:Int)=d30.1∧(1099511627776:Int)=d30.2∧(([]:List SV)=[]))∧True)) ∧
      RangeP (List.length (List.take (Int.toNat ((lI l) - (ei + (1:Int)))) (List.drop (Int.toNat (ei + (1:Int))) l))) (fun (k3:Nat) (d3:Int × Int) (q3:(Int × Int)→Prop)=>∀ w3:List Value,
       (0 ≤ s∧s ≤ 1000∧0 ≤ ((List.getD (List.take (Int.toNat ((lI l) - (ei + (1:Int)))) (List.drop (Int.toNat (ei + (1:Int))) l)) (List.length (List.take (Int.toNat ((lI l) - (ei + (1:Int)))) (List.drop (Int.toNat (ei + (1:Int))) l)) - 1 - k3) (0,0)).2)∧((List.getD (List.take (Int.toNat ((lI l) - (ei + (1:Int)))) (List.drop (Int.toNat (ei + (1:Int))) l)) (List.length (List.take (Int.toNat ((lI l) - (ei + (1:Int)))) (List.drop (Int.toNat (ei + (1:Int))) l)) - 1 - k3) (0,0)).2) ≤ 12000000∧-2000000000000 ≤ d3.1∧d3.1 ≤ 2000000000000∧-2000000000000 ≤ d3.2∧d3.2 ≤ 2000000000000)∧w3=w3∧(∃ d4:Int × Int,((l=l∧ei=ei∧True∧True∧True∧True∧True)∧(((0:Int)=(0:Int)∧(0:Int)=(0:Int)∧(([]:List SV)=[]))∧(g=g∧s=s∧l=l∧(([]:List SV)=[]))∧((forthW g s l)=(forthW g s l)∧false=false)∧(((beforeB s (d3.1,d3.2) (((List.getD (List.take (Int.toNat ((lI l) - (ei + (1:Int)))) (List.drop (Int.toNat (ei + (1:Int))) l)) (List.length (List.take (Int.toNat ((lI l) - (ei + (1:Int)))) (List.drop (Int.toNat (ei + (1:Int))) l)) - 1 - k3) (0,0)).1),((List.getD (List.take (Int.toNat ((lI l) - (ei + (1:Int)))) (List.drop (Int.toNat (ei + (1:Int))) l)) (List.length (List.take (Int.toNat ((lI l) - (ei + (1:Int)))) (List.drop (Int.toNat (ei + (1:Int))) l)) - 1 - k3) (0,0)).2))).1)=d4.1∧((beforeB s (d3.1,d3.2) (((List.getD (List.take (Int.toNat ((lI l) - (ei + (1:Int)))) (List.drop (Int.toNat (ei + (1:Int))) l)) (List.length (List.take (Int.toNat ((lI l) - (ei + (1:Int)))) (List.drop (Int.toNat (ei + (1:Int))) l)) - 1 - k3) (0,0)).1),((List.getD (List.take (Int.toNat ((lI l) - (ei + (1:Int)))) (List.drop (Int.toNat (ei + (1:Int))) l)) (List.length (List.take (Int.toNat ((lI l) - (ei + (1:Int)))) (List.drop (Int.toNat (ei + (1:Int))) l)) - 1 - k3) (0,0)).2))).2)=d4.2∧(([]:List SV)=[]))∧True))∧q3 d4))
      (fun (d5:Int × Int) =>
       (0 ≤ ei)∧(ei < (List.length (forthW g s l)))∧(0 ≤ ei)∧(ei < (List.length l))∧((True∧True∧True∧True∧True∧((gD l ei (0,0)).1=(gD l ei (0,0)).1∧(gD l ei (0,0)).2=(gD l ei (0,0)).2∧(([]:List SV)=[]))∧True)∧(((0:Int)=(0:Int)∧(0:Int)=(0:Int)∧(([]:List SV)=[]))∧(g=g∧s=s∧l=l∧(([]:List SV)=[]))∧(d5.1=d5.1∧d5.2=d5.2∧(([]:List SV)=[]))∧((gD (forthW g s l) ei (0,0)).1=(gD (forthW g s l) ei (0,0)).1∧(gD (forthW g s l) ei (0,0)).2=(gD (forthW g s l) ei (0,0)).2∧(([]:List SV)=[]))∧((0:Int)=(0:Int)∧(0:Int)=(0:Int)∧(([]:List SV)=[]))∧((forthW g s l)=(forthW g s l)∧false=false)∧True))∧((0 ≤ ei)∧(ei < (List.length (forthW g s l)))∧(0 ≤ ei)∧(ei < (List.length l))∧((True∧True∧True∧True∧True∧((gD l ei (0,0)).1=(gD l ei (0,0)).1∧(gD l ei (0,0)).2=(gD l ei (0,0)).2∧(([]:List SV)=[]))∧True)∧(((0:Int)=(0:Int)∧(0:Int)=(0:Int)∧(([]:List SV)=[]))∧(g=g∧s=s∧l=l∧(([]:List SV)=[]))∧(d5.1=d5.1∧d5.2=d5.2∧(([]:List SV)=[]))∧((gD (forthW g s l) ei (0,0)).1=(gD (forthW g s l) ei (0,0)).1∧(gD (forthW g s l) ei (0,0)).2=(gD (forthW g s l) ei (0,0)).2∧(([]:List SV)=[]))∧((0:Int)=(0:Int)∧(0:Int)=(0:Int)∧(([]:List SV)=[]))∧((forthW g s l)=(forthW g s l)∧false=false)∧True)))∧(((gD l ei (0,0)).1 == (1:Int))=true →
        (I64 ((gD (forthW g s l) ei (0,0)).1 - d5.2))∧(I64 ((gD (forthW g s l) ei (0,0)).2 - d5.1))∧(0 ≤ s∧s ≤ 1000∧0 ≤ ((gD l ei (0,0)).2)∧((gD l ei (0,0)).2) ≤ 12000000)∧(True)∧((((gmax ((gD (forthW g s l) ei (0,0)).1 - d5.2) ((realB s (((gD l ei (0,0)).1),((gD l ei (0,0)).2))).1))=((wasSp g s l ei).1)∧(gmin ((gD (forthW g s l) ei (0,0)).2 - d5.1) ((realB s (((gD l ei (0,0)).1),((gD l ei (0,0)).2))).2))=((wasSp g s l ei).2)∧(([]:List SV)=[]))∧(0:Int)=(wasErr g s l ei)∧(([]:List SV)=[]))∧(True))) ∧
       (((gD l ei (0,0)).1 == (1:Int))=false →
        (((gD l ei (0,0)).1 == (2:Int))=true →
         (I64 (d5.1 - (gD (forthW g s l) ei (0,0)).2))∧(I64 (d5.2 - (gD (forthW g s l) ei (0,0)).1))∧(0 ≤ s∧s ≤ 1000∧0 ≤ ((gD l ei (0,0)).2)∧((gD l ei (0,0)).2) ≤ 12000000)∧(True)∧((((gmax (d5.1 - (gD (forthW g s l) ei (0,0)).2) ((realB s (((gD l ei (0,0)).1),((gD l ei (0,0)).2))).1))=((wasSp g s l ei).1)∧(gmin (d5.2 - (gD (forthW g s l) ei (0,0)).1) ((realB s (((gD l ei (0,0)).1),((gD l ei (0,0)).2))).2))=((wasSp g s l ei).2)∧(([]:List SV)=[]))∧(0:Int)=(wasErr g s l ei)∧(([]:List SV)=[]))∧(True))) ∧
        (((gD l ei (0,0)).1 == (2:Int))=false →
         (True)∧(0 ≤ s∧s ≤ 1000∧0 ≤ ((gD l ei (0,0)).2)∧((gD l ei (0,0)).2) ≤ 12000000)∧(True)∧((((gmax (gmax ((gD (forthW g s l) ei (0,0)).1) d5.1) ((realB s (((gD l ei (0,0)).1),((gD l ei (0,0)).2))).1))=((wasSp g s l ei).1)∧(gmin (gmin ((gD (forthW g s l) ei (0,0)).2) d5.2) ((realB s (((gD l ei (0,0)).1),((gD l ei (0,0)).2))).2))=((wasSp g s l ei).2)∧(([]:List SV)=[]))∧(0:Int)=(wasErr g s l ei)∧(([]:List SV)=[]))∧(True))))) d30)))) ∧
  ((!(!([g].any fun n=>decide (n < (1:Int)) || decide ((1000000:Int) < n))))=false →
   ((decide ((lI l) > (40:Int)))=true →
    w1=w1∧(((5:Int) != (0:Int))=true →
     ((((0:Int)=((wasSp g s l ei).1)∧(0:Int)=((wasSp g s l ei).2)∧(([]:List SV)=[]))∧(5:Int)=(wasErr g s l ei)∧(([]:List SV)=[]))∧(True))) ∧
    (((5:Int) != (0:Int))=false →
     (bookOk (0:Int) (0:Int) ([]:List (Int × Int)))∧((decide ((wrongI (0:Int) (0:Int) ([]:List (Int × Int))) ≥ (0:Int)))=true →
      ((((0:Int)=((wasSp g s l ei).1)∧(0:Int)=((wasSp g s l ei).2)∧(([]:List SV)=[]))∧(90:Int)=(wasErr g s l ei)∧(([]:List SV)=[]))∧(True))) ∧
     ((decide ((wrongI (0:Int) (0:Int) ([]:List (Int × Int))) ≥ (0:Int)))=false →
      (I64 ((lI l) - (1:Int)))∧([ei].length ≤ 1000000)∧((!(!([ei].any fun n=>decide (n < (0:Int)) || decide (((lI l) - (1:Int)) < n))))=true →
       ((((0:Int)=((wasSp g s l ei).1)∧(0:Int)=((wasSp g s l ei).2)∧(([]:List SV)=[]))∧(7:Int)=(wasErr g s l ei)∧(([]:List SV)=[]))∧(True))) ∧
      ((!(!([ei].any fun n=>decide (n < (0:Int)) || decide (((lI l) - (1:Int)) < n))))=false →
       (True)∧(I64 (ei + (1:Int)))∧(0 ≤ (ei + (1:Int)))∧((ei + (1:Int)) ≤ (lI l))∧((lI l) ≤ (List.length l))∧∀ w6:List Value,w6=w6∧(List.length (List.take (Int.toNat ((lI l) - (ei + (1:Int)))) (List.drop (Int.toNat (ei + (1:Int))) l)) < 4611686018427387904)∧∃ (e7:Unit) (d70:Int × Int),((l=l∧ei=ei∧True∧True∧True∧True∧True)∧(((0:Int)=(0:Int)∧(0:Int)=(0:Int)∧(([]:List SV)=[]))∧((0:Int)=g∧(0:Int)=s∧l=[]∧(([]:List SV)=[]))∧((forthW (0:Int) (0:Int) ([]:List (Int × Int)))=(forthW g s l)∧false=false)∧((0:Int)=d70.1∧(1099511627776:Int)=d70.2∧(([]:List SV)=[]))∧True)) ∧
       RangeP (List.length (List.take (Int.toNat ((lI l) - (ei + (1:Int)))) (List.drop (Int.toNat (ei + (1:Int))) l))) (fun (k7:Nat) (d7:Int × Int) (q7:(Int × Int)→Prop)=>∀ w7:List Value,
        (0 ≤ s∧s ≤ 1000∧0 ≤ ((List.getD (List.take (Int.toNat ((lI l) - (ei + (1:Int)))) (List.drop (Int.toNat (ei + (1:Int))) l)) (List.length (List.take (Int.toNat ((lI l) - (ei + (1:Int)))) (List.drop (Int.toNat (ei + (1:Int))) l)) - 1 - k7) (0,0)).2)∧((List.getD (List.take (Int.toNat ((lI l) - (ei + (1:Int)))) (List.drop (Int.toNat (ei + (1:Int))) l)) (List.length (List.take (Int.toNat ((lI l) - (ei + (1:Int)))) (List.drop (Int.toNat (ei + (1:Int))) l)) - 1 - k7) (0,0)).2) ≤ 12000000∧-2000000000000 ≤ d7.1∧d7.1 ≤ 2000000000000∧-2000000000000 ≤ d7.2∧d7.2 ≤ 2000000000000)∧w7=w7∧(∃ d8:Int × Int,((l=l∧ei=ei∧True∧True∧True∧True∧True)∧(((0:Int)=(0:Int)∧(0:Int)=(0:Int)∧(([]:List SV)=[]))∧(g=g∧s=s∧l=l∧(([]:List SV)=[]))∧((forthW g s l)=(forthW g s l)∧false=false)∧(((beforeB s (d7.1,d7.2) (((List.getD (List.take (Int.toNat ((lI l) - (ei + (1:Int)))) (List.drop (Int.toNat (ei + (1:Int))) l)) (List.length (List.take (Int.toNat ((lI l) - (ei + (1:Int)))) (List.drop (Int.toNat (ei + (1:Int))) l)) - 1 - k7) (0,0)).1),((List.getD (List.take (Int.toNat ((lI l) - (ei + (1:Int)))) (List.drop (Int.toNat (ei + (1:Int))) l)) (List.length (List.take (Int.toNat ((lI l) - (ei + (1:Int)))) (List.drop (Int.toNat (ei + (1:Int))) l)) - 1 - k7) (0,0)).2))).1)=d8.1∧((beforeB s (d7.1,d7.2) (((List.getD (List.take (Int.toNat ((lI l) - (ei + (1:Int)))) (List.drop (Int.toNat (ei + (1:Int))) l)) (List.length (List.take (Int.toNat ((lI l) - (ei + (1:Int)))) (List.drop (Int.toNat (ei + (1:Int))) l)) - 1 - k7) (0,0)).1),((List.getD (List.take (Int.toNat ((lI l) - (ei + (1:Int)))) (List.drop (Int.toNat (ei + (1:Int))) l)) (List.length (List.take (Int.toNat ((lI l) - (ei + (1:Int)))) (List.drop (Int.toNat (ei + (1:Int))) l)) - 1 - k7) (0,0)).2))).2)=d8.2∧(([]:List SV)=[]))∧True))∧q7 d8))
       (fun (d9:Int × Int) =>
        (0 ≤ ei)∧(ei < (List.length (forthW g s l)))∧(0 ≤ ei)∧(ei < (List.length l))∧((True∧True∧True∧True∧True∧((gD l ei (0,0)).1=(gD l ei (0,0)).1∧(gD l ei (0,0)).2=(gD l ei (0,0)).2∧(([]:List SV)=[]))∧True)∧(((0:Int)=(0:Int)∧(0:Int)=(0:Int)∧(([]:List SV)=[]))∧(g=g∧s=s∧l=l∧(([]:List SV)=[]))∧(d9.1=d9.1∧d9.2=d9.2∧(([]:List SV)=[]))∧((gD (forthW g s l) ei (0,0)).1=(gD (forthW g s l) ei (0,0)).1∧(gD (forthW g s l) ei (0,0)).2=(gD (forthW g s l) ei (0,0)).2∧(([]:List SV)=[]))∧((0:Int)=(0:Int)∧(0:Int)=(0:Int)∧(([]:List SV)=[]))∧((forthW g s l)=(forthW g s l)∧false=false)∧True))∧((0 ≤ ei)∧(ei < (List.length (forthW g s l)))∧(0 ≤ ei)∧(ei < (List.length l))∧((True∧True∧True∧True∧True∧((gD l ei (0,0)).1=(gD l ei (0,0)).1∧(gD l ei (0,0)).2=(gD l ei (0,0)).2∧(([]:List SV)=[]))∧True)∧(((0:Int)=(0:Int)∧(0:Int)=(0:Int)∧(([]:List SV)=[]))∧(g=g∧s=s∧l=l∧(([]:List SV)=[]))∧(d9.1=d9.1∧d9.2=d9.2∧(([]:List SV)=[]))∧((gD (forthW g s l) ei (0,0)).1=(gD (forthW g s l) ei (0,0)).1∧(gD (forthW g s l) ei (0,0)).2=(gD (forthW g s l) ei (0,0)).2∧(([]:List SV)=[]))∧((0:Int)=(0:Int)∧(0:Int)=(0:Int)∧(([]:List SV)=[]))∧((forthW g s l)=(forthW g s l)∧false=false)∧True)))∧(((gD l ei (0,0)).1 == (1:Int))=true →
         (I64 ((gD (forthW g s l) ei (0,0)).1 - d9.2))∧(I64 ((gD (forthW g s l) ei (0,0)).2 - d9.1))∧(0 ≤ s∧s ≤ 1000∧0 ≤ ((gD l ei (0,0)).2)∧((gD l ei (0,0)).2) ≤ 12000000)∧(True)∧((((gmax ((gD (forthW g s l) ei (0,0)).1 - d9.2) ((realB s (((gD l ei (0,0)).1),((gD l ei (0,0)).2))).1))=((wasSp g s l ei).1)∧(gmin ((gD (forthW g s l) ei (0,0)).2 - d9.1) ((realB s (((gD l ei (0,0)).1),((gD l ei (0,0)).2))).2))=((wasSp g s l ei).2)∧(([]:List SV)=[]))∧(0:Int)=(wasErr g s l ei)∧(([]:List SV)=[]))∧(True))) ∧
        (((gD l ei (0,0)).1 == (1:Int))=false →
         (((gD l ei (0,0)).1 == (2:Int))=true →
          (I64 (d9.1 - (gD (forthW g s l) ei (0,0)).2))∧(I64 (d9.2 - (gD (forthW g s l) ei (0,0)).1))∧(0 ≤ s∧s ≤ 1000∧0 ≤ ((gD l ei (0,0)).2)∧((gD l ei (0,0)).2) ≤ 12000000)∧(True)∧((((gmax (d9.1 - (gD (forthW g s l) ei (0,0)).2) ((realB s (((gD l ei (0,0)).1),((gD l ei (0,0)).2))).1))=((wasSp g s l ei).1)∧(gmin (d9.2 - (gD (forthW g s l) ei (0,0)).1) ((realB s (((gD l ei (0,0)).1),((gD l ei (0,0)).2))).2))=((wasSp g s l ei).2)∧(([]:List SV)=[]))∧(0:Int)=(wasErr g s l ei)∧(([]:List SV)=[]))∧(True))) ∧
         (((gD l ei (0,0)).1 == (2:Int))=false →
          (True)∧(0 ≤ s∧s ≤ 1000∧0 ≤ ((gD l ei (0,0)).2)∧((gD l ei (0,0)).2) ≤ 12000000)∧(True)∧((((gmax (gmax ((gD (forthW g s l) ei (0,0)).1) d9.1) ((realB s (((gD l ei (0,0)).1),((gD l ei (0,0)).2))).1))=((wasSp g s l ei).1)∧(gmin (gmin ((gD (forthW g s l) ei (0,0)).2) d9.2) ((realB s (((gD l ei (0,0)).1),((gD l ei (0,0)).2))).2))=((wasSp g s l ei).2)∧(([]:List SV)=[]))∧(0:Int)=(wasErr g s l ei)∧(([]:List SV)=[]))∧(True))))) d70)))) ∧
   ((decide ((lI l) > (40:Int)))=false →
    (l.length ≤ 1000000∧∀ x ∈ l,(fun (x1:Int × Int)=>True) x)∧((l.any (fun (x1:Int × Int)=>(!inI x1.1 1 3 || !inI x1.2 0 12000000)))=true →
     w1=w1∧(((2:Int) != (0:Int))=true →
      ((((0:Int)=((wasSp g s l ei).1)∧(0:Int)=((wasSp g s l ei).2)∧(([]:List SV)=[]))∧(2:Int)=(wasErr g s l ei)∧(([]:List SV)=[]))∧(True))) ∧
     (((2:Int) != (0:Int))=false →
      (bookOk (0:Int) (0:Int) ([]:List (Int × Int)))∧((decide ((wrongI (0:Int) (0:Int) ([]:List (Int × Int))) ≥ (0:Int)))=true →
       ((((0:Int)=((wasSp g s l ei).1)∧(0:Int)=((wasSp g s l ei).2)∧(([]:List SV)=[]))∧(90:Int)=(wasErr g s l ei)∧(([]:List SV)=[]))∧(True))) ∧
      ((decide ((wrongI (0:Int) (0:Int) ([]:List (Int × Int))) ≥ (0:Int)))=false →
       (I64 ((lI l) - (1:Int)))∧([ei].length ≤ 1000000)∧((!(!([ei].any fun n=>decide (n < (0:Int)) || decide (((lI l) - (1:Int)) < n))))=true →
        ((((0:Int)=((wasSp g s l ei).1)∧(0:Int)=((wasSp g s l ei).2)∧(([]:List SV)=[]))∧(7:Int)=(wasErr g s l ei)∧(([]:List SV)=[]))∧(True))) ∧
       ((!(!([ei].any fun n=>decide (n < (0:Int)) || decide (((lI l) - (1:Int)) < n))))=false →
        (True)∧(I64 (ei + (1:Int)))∧(0 ≤ (ei + (1:Int)))∧((ei + (1:Int)) ≤ (lI l))∧((lI l) ≤ (List.length l))∧∀ w10:List Value,w10=w10∧(List.length (List.take (Int.toNat ((lI l) - (ei + (1:Int)))) (List.drop (Int.toNat (ei + (1:Int))) l)) < 4611686018427387904)∧∃ (e11:Unit) (d110:Int × Int),((l=l∧ei=ei∧True∧True∧True∧True∧True)∧(((0:Int)=(0:Int)∧(0:Int)=(0:Int)∧(([]:List SV)=[]))∧((0:Int)=g∧(0:Int)=s∧l=[]∧(([]:List SV)=[]))∧((forthW (0:Int) (0:Int) ([]:List (Int × Int)))=(forthW g s l)∧false=false)∧((0:Int)=d110.1∧(1099511627776:Int)=d110.2∧(([]:List SV)=[]))∧True)) ∧
        RangeP (List.length (List.take (Int.toNat ((lI l) - (ei + (1:Int)))) (List.drop (Int.toNat (ei + (1:Int))) l))) (fun (k11:Nat) (d11:Int × Int) (q11:(Int × Int)→Prop)=>∀ w11:List Value,
         (0 ≤ s∧s ≤ 1000∧0 ≤ ((List.getD (List.take (Int.toNat ((lI l) - (ei + (1:Int)))) (List.drop (Int.toNat (ei + (1:Int))) l)) (List.length (List.take (Int.toNat ((lI l) - (ei + (1:Int)))) (List.drop (Int.toNat (ei + (1:Int))) l)) - 1 - k11) (0,0)).2)∧((List.getD (List.take (Int.toNat ((lI l) - (ei + (1:Int)))) (List.drop (Int.toNat (ei + (1:Int))) l)) (List.length (List.take (Int.toNat ((lI l) - (ei + (1:Int)))) (List.drop (Int.toNat (ei + (1:Int))) l)) - 1 - k11) (0,0)).2) ≤ 12000000∧-2000000000000 ≤ d11.1∧d11.1 ≤ 2000000000000∧-2000000000000 ≤ d11.2∧d11.2 ≤ 2000000000000)∧w11=w11∧(∃ d12:Int × Int,((l=l∧ei=ei∧True∧True∧True∧True∧True)∧(((0:Int)=(0:Int)∧(0:Int)=(0:Int)∧(([]:List SV)=[]))∧(g=g∧s=s∧l=l∧(([]:List SV)=[]))∧((forthW g s l)=(forthW g s l)∧false=false)∧(((beforeB s (d11.1,d11.2) (((List.getD (List.take (Int.toNat ((lI l) - (ei + (1:Int)))) (List.drop (Int.toNat (ei + (1:Int))) l)) (List.length (List.take (Int.toNat ((lI l) - (ei + (1:Int)))) (List.drop (Int.toNat (ei + (1:Int))) l)) - 1 - k11) (0,0)).1),((List.getD (List.take (Int.toNat ((lI l) - (ei + (1:Int)))) (List.drop (Int.toNat (ei + (1:Int))) l)) (List.length (List.take (Int.toNat ((lI l) - (ei + (1:Int)))) (List.drop (Int.toNat (ei + (1:Int))) l)) - 1 - k11) (0,0)).2))).1)=d12.1∧((beforeB s (d11.1,d11.2) (((List.getD (List.take (Int.toNat ((lI l) - (ei + (1:Int)))) (List.drop (Int.toNat (ei + (1:Int))) l)) (List.length (List.take (Int.toNat ((lI l) - (ei + (1:Int)))) (List.drop (Int.toNat (ei + (1:Int))) l)) - 1 - k11) (0,0)).1),((List.getD (List.take (Int.toNat ((lI l) - (ei + (1:Int)))) (List.drop (Int.toNat (ei + (1:Int))) l)) (List.length (List.take (Int.toNat ((lI l) - (ei + (1:Int)))) (List.drop (Int.toNat (ei + (1:Int))) l)) - 1 - k11) (0,0)).2))).2)=d12.2∧(([]:List SV)=[]))∧True))∧q11 d12))
        (fun (d13:Int × Int) =>
         (0 ≤ ei)∧(ei < (List.length (forthW g s l)))∧(0 ≤ ei)∧(ei < (List.length l))∧((True∧True∧True∧True∧True∧((gD l ei (0,0)).1=(gD l ei (0,0)).1∧(gD l ei (0,0)).2=(gD l ei (0,0)).2∧(([]:List SV)=[]))∧True)∧(((0:Int)=(0:Int)∧(0:Int)=(0:Int)∧(([]:List SV)=[]))∧(g=g∧s=s∧l=l∧(([]:List SV)=[]))∧(d13.1=d13.1∧d13.2=d13.2∧(([]:List SV)=[]))∧((gD (forthW g s l) ei (0,0)).1=(gD (forthW g s l) ei (0,0)).1∧(gD (forthW g s l) ei (0,0)).2=(gD (forthW g s l) ei (0,0)).2∧(([]:List SV)=[]))∧((0:Int)=(0:Int)∧(0:Int)=(0:Int)∧(([]:List SV)=[]))∧((forthW g s l)=(forthW g s l)∧false=false)∧True))∧((0 ≤ ei)∧(ei < (List.length (forthW g s l)))∧(0 ≤ ei)∧(ei < (List.length l))∧((True∧True∧True∧True∧True∧((gD l ei (0,0)).1=(gD l ei (0,0)).1∧(gD l ei (0,0)).2=(gD l ei (0,0)).2∧(([]:List SV)=[]))∧True)∧(((0:Int)=(0:Int)∧(0:Int)=(0:Int)∧(([]:List SV)=[]))∧(g=g∧s=s∧l=l∧(([]:List SV)=[]))∧(d13.1=d13.1∧d13.2=d13.2∧(([]:List SV)=[]))∧((gD (forthW g s l) ei (0,0)).1=(gD (forthW g s l) ei (0,0)).1∧(gD (forthW g s l) ei (0,0)).2=(gD (forthW g s l) ei (0,0)).2∧(([]:List SV)=[]))∧((0:Int)=(0:Int)∧(0:Int)=(0:Int)∧(([]:List SV)=[]))∧((forthW g s l)=(forthW g s l)∧false=false)∧True)))∧(((gD l ei (0,0)).1 == (1:Int))=true →
          (I64 ((gD (forthW g s l) ei (0,0)).1 - d13.2))∧(I64 ((gD (forthW g s l) ei (0,0)).2 - d13.1))∧(0 ≤ s∧s ≤ 1000∧0 ≤ ((gD l ei (0,0)).2)∧((gD l ei (0,0)).2) ≤ 12000000)∧(True)∧((((gmax ((gD (forthW g s l) ei (0,0)).1 - d13.2) ((realB s (((gD l ei (0,0)).1),((gD l ei (0,0)).2))).1))=((wasSp g s l ei).1)∧(gmin ((gD (forthW g s l) ei (0,0)).2 - d13.1) ((realB s (((gD l ei (0,0)).1),((gD l ei (0,0)).2))).2))=((wasSp g s l ei).2)∧(([]:List SV)=[]))∧(0:Int)=(wasErr g s l ei)∧(([]:List SV)=[]))∧(True))) ∧
         (((gD l ei (0,0)).1 == (1:Int))=false →
          (((gD l ei (0,0)).1 == (2:Int))=true →
           (I64 (d13.1 - (gD (forthW g s l) ei (0,0)).2))∧(I64 (d13.2 - (gD (forthW g s l) ei (0,0)).1))∧(0 ≤ s∧s ≤ 1000∧0 ≤ ((gD l ei (0,0)).2)∧((gD l ei (0,0)).2) ≤ 12000000)∧(True)∧((((gmax (d13.1 - (gD (forthW g s l) ei (0,0)).2) ((realB s (((gD l ei (0,0)).1),((gD l ei (0,0)).2))).1))=((wasSp g s l ei).1)∧(gmin (d13.2 - (gD (forthW g s l) ei (0,0)).1) ((realB s (((gD l ei (0,0)).1),((gD l ei (0,0)).2))).2))=((wasSp g s l ei).2)∧(([]:List SV)=[]))∧(0:Int)=(wasErr g s l ei)∧(([]:List SV)=[]))∧(True))) ∧
          (((gD l ei (0,0)).1 == (2:Int))=false →
           (True)∧(0 ≤ s∧s ≤ 1000∧0 ≤ ((gD l ei (0,0)).2)∧((gD l ei (0,0)).2) ≤ 12000000)∧(True)∧((((gmax (gmax ((gD (forthW g s l) ei (0,0)).1) d13.1) ((realB s (((gD l ei (0,0)).1),((gD l ei (0,0)).2))).1))=((wasSp g s l ei).1)∧(gmin (gmin ((gD (forthW g s l) ei (0,0)).2) d13.2) ((realB s (((gD l ei (0,0)).1),((gD l ei (0,0)).2))).2))=((wasSp g s l ei).2)∧(([]:List SV)=[]))∧(0:Int)=(wasErr g s l ei)∧(([]:List SV)=[]))∧(True))))) d110)))) ∧
    ((l.any (fun (x1:Int × Int)=>(!inI x1.1 1 3 || !inI x1.2 0 12000000)))=false →
     w1=w1∧(((0:Int) != (0:Int))=true →
      ((((0:Int)=((wasSp g s l ei).1)∧(0:Int)=((wasSp g s l ei).2)∧(([]:List SV)=[]))∧(0:Int)=(wasErr g s l ei)∧(([]:List SV)=[]))∧(True))) ∧
     (((0:Int) != (0:Int))=false →
      (bookOk g s l)∧((decide ((wrongI g s l) ≥ (0:Int)))=true →
       ((((0:Int)=((wasSp g s l ei).1)∧(0:Int)=((wasSp g s l ei).2)∧(([]:List SV)=[]))∧(90:Int)=(wasErr g s l ei)∧(([]:List SV)=[]))∧(True))) ∧
      ((decide ((wrongI g s l) ≥ (0:Int)))=false →
       (I64 ((lI l) - (1:Int)))∧([ei].length ≤ 1000000)∧((!(!([ei].any fun n=>decide (n < (0:Int)) || decide (((lI l) - (1:Int)) < n))))=true →
        ((((0:Int)=((wasSp g s l ei).1)∧(0:Int)=((wasSp g s l ei).2)∧(([]:List SV)=[]))∧(7:Int)=(wasErr g s l ei)∧(([]:List SV)=[]))∧(True))) ∧
       ((!(!([ei].any fun n=>decide (n < (0:Int)) || decide (((lI l) - (1:Int)) < n))))=false →
        (True)∧(I64 (ei + (1:Int)))∧(0 ≤ (ei + (1:Int)))∧((ei + (1:Int)) ≤ (lI l))∧((lI l) ≤ (List.length l))∧∀ w14:List Value,w14=w14∧(List.length (List.take (Int.toNat ((lI l) - (ei + (1:Int)))) (List.drop (Int.toNat (ei + (1:Int))) l)) < 4611686018427387904)∧∃ (e17:Unit) (d170:Int × Int),((l=l∧ei=ei∧True∧True∧True∧True∧True)∧(((0:Int)=(0:Int)∧(0:Int)=(0:Int)∧(([]:List SV)=[]))∧(g=g∧s=s∧l=l∧(([]:List SV)=[]))∧((forthW g s l)=(forthW g s l)∧false=false)∧((0:Int)=d170.1∧(1099511627776:Int)=d170.2∧(([]:List SV)=[]))∧True)) ∧
        RangeP (List.length (List.take (Int.toNat ((lI l) - (ei + (1:Int)))) (List.drop (Int.toNat (ei + (1:Int))) l))) (fun (k17:Nat) (d17:Int × Int) (q17:(Int × Int)→Prop)=>∀ w17:List Value,
         (0 ≤ s∧s ≤ 1000∧0 ≤ ((List.getD (List.take (Int.toNat ((lI l) - (ei + (1:Int)))) (List.drop (Int.toNat (ei + (1:Int))) l)) (List.length (List.take (Int.toNat ((lI l) - (ei + (1:Int)))) (List.drop (Int.toNat (ei + (1:Int))) l)) - 1 - k17) (0,0)).2)∧((List.getD (List.take (Int.toNat ((lI l) - (ei + (1:Int)))) (List.drop (Int.toNat (ei + (1:Int))) l)) (List.length (List.take (Int.toNat ((lI l) - (ei + (1:Int)))) (List.drop (Int.toNat (ei + (1:Int))) l)) - 1 - k17) (0,0)).2) ≤ 12000000∧-2000000000000 ≤ d17.1∧d17.1 ≤ 2000000000000∧-2000000000000 ≤ d17.2∧d17.2 ≤ 2000000000000)∧w17=w17∧(∃ d18:Int × Int,((l=l∧ei=ei∧True∧True∧True∧True∧True)∧(((0:Int)=(0:Int)∧(0:Int)=(0:Int)∧(([]:List SV)=[]))∧(g=g∧s=s∧l=l∧(([]:List SV)=[]))∧((forthW g s l)=(forthW g s l)∧false=false)∧(((beforeB s (d17.1,d17.2) (((List.getD (List.take (Int.toNat ((lI l) - (ei + (1:Int)))) (List.drop (Int.toNat (ei + (1:Int))) l)) (List.length (List.take (Int.toNat ((lI l) - (ei + (1:Int)))) (List.drop (Int.toNat (ei + (1:Int))) l)) - 1 - k17) (0,0)).1),((List.getD (List.take (Int.toNat ((lI l) - (ei + (1:Int)))) (List.drop (Int.toNat (ei + (1:Int))) l)) (List.length (List.take (Int.toNat ((lI l) - (ei + (1:Int)))) (List.drop (Int.toNat (ei + (1:Int))) l)) - 1 - k17) (0,0)).2))).1)=d18.1∧((beforeB s (d17.1,d17.2) (((List.getD (List.take (Int.toNat ((lI l) - (ei + (1:Int)))) (List.drop (Int.toNat (ei + (1:Int))) l)) (List.length (List.take (Int.toNat ((lI l) - (ei + (1:Int)))) (List.drop (Int.toNat (ei + (1:Int))) l)) - 1 - k17) (0,0)).1),((List.getD (List.take (Int.toNat ((lI l) - (ei + (1:Int)))) (List.drop (Int.toNat (ei + (1:Int))) l)) (List.length (List.take (Int.toNat ((lI l) - (ei + (1:Int)))) (List.drop (Int.toNat (ei + (1:Int))) l)) - 1 - k17) (0,0)).2))).2)=d18.2∧(([]:List SV)=[]))∧True))∧q17 d18))
        (fun (d19:Int × Int) =>
         (0 ≤ ei)∧(ei < (List.length (forthW g s l)))∧(0 ≤ ei)∧(ei < (List.length l))∧((True∧True∧True∧True∧True∧((gD l ei (0,0)).1=(gD l ei (0,0)).1∧(gD l ei (0,0)).2=(gD l ei (0,0)).2∧(([]:List SV)=[]))∧True)∧(((0:Int)=(0:Int)∧(0:Int)=(0:Int)∧(([]:List SV)=[]))∧(g=g∧s=s∧l=l∧(([]:List SV)=[]))∧(d19.1=d19.1∧d19.2=d19.2∧(([]:List SV)=[]))∧((gD (forthW g s l) ei (0,0)).1=(gD (forthW g s l) ei (0,0)).1∧(gD (forthW g s l) ei (0,0)).2=(gD (forthW g s l) ei (0,0)).2∧(([]:List SV)=[]))∧((0:Int)=(0:Int)∧(0:Int)=(0:Int)∧(([]:List SV)=[]))∧((forthW g s l)=(forthW g s l)∧false=false)∧True))∧((0 ≤ ei)∧(ei < (List.length (forthW g s l)))∧(0 ≤ ei)∧(ei < (List.length l))∧((True∧True∧True∧True∧True∧((gD l ei (0,0)).1=(gD l ei (0,0)).1∧(gD l ei (0,0)).2=(gD l ei (0,0)).2∧(([]:List SV)=[]))∧True)∧(((0:Int)=(0:Int)∧(0:Int)=(0:Int)∧(([]:List SV)=[]))∧(g=g∧s=s∧l=l∧(([]:List SV)=[]))∧(d19.1=d19.1∧d19.2=d19.2∧(([]:List SV)=[]))∧((gD (forthW g s l) ei (0,0)).1=(gD (forthW g s l) ei (0,0)).1∧(gD (forthW g s l) ei (0,0)).2=(gD (forthW g s l) ei (0,0)).2∧(([]:List SV)=[]))∧((0:Int)=(0:Int)∧(0:Int)=(0:Int)∧(([]:List SV)=[]))∧((forthW g s l)=(forthW g s l)∧false=false)∧True)))∧(((gD l ei (0,0)).1 == (1:Int))=true →
          (I64 ((gD (forthW g s l) ei (0,0)).1 - d19.2))∧(I64 ((gD (forthW g s l) ei (0,0)).2 - d19.1))∧(0 ≤ s∧s ≤ 1000∧0 ≤ ((gD l ei (0,0)).2)∧((gD l ei (0,0)).2) ≤ 12000000)∧(True)∧((((gmax ((gD (forthW g s l) ei (0,0)).1 - d19.2) ((realB s (((gD l ei (0,0)).1),((gD l ei (0,0)).2))).1))=((wasSp g s l ei).1)∧(gmin ((gD (forthW g s l) ei (0,0)).2 - d19.1) ((realB s (((gD l ei (0,0)).1),((gD l ei (0,0)).2))).2))=((wasSp g s l ei).2)∧(([]:List SV)=[]))∧(0:Int)=(wasErr g s l ei)∧(([]:List SV)=[]))∧(True))) ∧
         (((gD l ei (0,0)).1 == (1:Int))=false →
          (((gD l ei (0,0)).1 == (2:Int))=true →
           (I64 (d19.1 - (gD (forthW g s l) ei (0,0)).2))∧(I64 (d19.2 - (gD (forthW g s l) ei (0,0)).1))∧(0 ≤ s∧s ≤ 1000∧0 ≤ ((gD l ei (0,0)).2)∧((gD l ei (0,0)).2) ≤ 12000000)∧(True)∧((((gmax (d19.1 - (gD (forthW g s l) ei (0,0)).2) ((realB s (((gD l ei (0,0)).1),((gD l ei (0,0)).2))).1))=((wasSp g s l ei).1)∧(gmin (d19.2 - (gD (forthW g s l) ei (0,0)).1) ((realB s (((gD l ei (0,0)).1),((gD l ei (0,0)).2))).2))=((wasSp g s l ei).2)∧(([]:List SV)=[]))∧(0:Int)=(wasErr g s l ei)∧(([]:List SV)=[]))∧(True))) ∧
          (((gD l ei (0,0)).1 == (2:Int))=false →
           (True)∧(0 ≤ s∧s ≤ 1000∧0 ≤ ((gD l ei (0,0)).2)∧((gD l ei (0,0)).2) ≤ 12000000)∧(True)∧((((gmax (gmax ((gD (forthW g s l) ei (0,0)).1) d19.1) ((realB s (((gD l ei (0,0)).1),((gD l ei (0,0)).2))).1))=((wasSp g s l ei).1)∧(gmin (gmin ((gD (forthW g s l) ei (0,0)).2) d19.2) ((realB s (((gD l ei (0,0)).1),((gD l ei (0,0)).2))).2))=((wasSp g s l ei).2)∧(([]:List SV)=[]))∧(0:Int)=(wasErr g s l ei)∧(([]:List SV)=[]))∧(True))))) d170))))))) ∧
 ((!(!([g].any fun n=>decide (n < (1:Int)) || decide ((1000000:Int) < n))))=false →
  ([s].length ≤ 1000000)∧((!(!([s].any fun n=>decide (n < (0:Int)) || decide ((1000:Int) < n))))=true →
   w1=w1∧(((2:Int) != (0:Int))=true →
    ((((0:Int)=((wasSp g s l ei).1)∧(0:Int)=((wasSp g s l ei).2)∧(([]:List SV)=[]))∧(2:Int)=(wasErr g s l ei)∧(([]:List SV)=[]))∧(True))) ∧
   (((2:Int) != (0:Int))=false →
    (bookOk (0:Int) (0:Int) ([]:List (Int × Int)))∧((decide ((wrongI (0:Int) (0:Int) ([]:List (Int × Int))) ≥ (0:Int)))=true →
     ((((0:Int)=((wasSp g s l ei).1)∧(0:Int)=((wasSp g s l ei).2)∧(([]:List SV)=[]))∧(90:Int)=(wasErr g s l ei)∧(([]:List SV)=[]))∧(True))) ∧
    ((decide ((wrongI (0:Int) (0:Int) ([]:List (Int × Int))) ≥ (0:Int)))=false →
     (I64 ((lI l) - (1:Int)))∧([ei].length ≤ 1000000)∧((!(!([ei].any fun n=>decide (n < (0:Int)) || decide (((lI l) - (1:Int)) < n))))=true →
      ((((0:Int)=((wasSp g s l ei).1)∧(0:Int)=((wasSp g s l ei).2)∧(([]:List SV)=[]))∧(7:Int)=(wasErr g s l ei)∧(([]:List SV)=[]))∧(True))) ∧
     ((!(!([ei].any fun n=>decide (n < (0:Int)) || decide (((lI l) - (1:Int)) < n))))=false →
      (True)∧(I64 (ei + (1:Int)))∧(0 ≤ (ei + (1:Int)))∧((ei + (1:Int)) ≤ (lI l))∧((lI l) ≤ (List.length l))∧∀ w20:List Value,w20=w20∧(List.length (List.take (Int.toNat ((lI l) - (ei + (1:Int)))) (List.drop (Int.toNat (ei + (1:Int))) l)) < 4611686018427387904)∧∃ (e21:Unit) (d210:Int × Int),((l=l∧ei=ei∧True∧True∧True∧True∧True)∧(((0:Int)=(0:Int)∧(0:Int)=(0:Int)∧(([]:List SV)=[]))∧((0:Int)=g∧(0:Int)=s∧l=[]∧(([]:List SV)=[]))∧((forthW (0:Int) (0:Int) ([]:List (Int × Int)))=(forthW g s l)∧false=false)∧((0:Int)=d210.1∧(1099511627776:Int)=d210.2∧(([]:List SV)=[]))∧True)) ∧
      RangeP (List.length (List.take (Int.toNat ((lI l) - (ei + (1:Int)))) (List.drop (Int.toNat (ei + (1:Int))) l))) (fun (k21:Nat) (d21:Int × Int) (q21:(Int × Int)→Prop)=>∀ w21:List Value,
       (0 ≤ s∧s ≤ 1000∧0 ≤ ((List.getD (List.take (Int.toNat ((lI l) - (ei + (1:Int)))) (List.drop (Int.toNat (ei + (1:Int))) l)) (List.length (List.take (Int.toNat ((lI l) - (ei + (1:Int)))) (List.drop (Int.toNat (ei + (1:Int))) l)) - 1 - k21) (0,0)).2)∧((List.getD (List.take (Int.toNat ((lI l) - (ei + (1:Int)))) (List.drop (Int.toNat (ei + (1:Int))) l)) (List.length (List.take (Int.toNat ((lI l) - (ei + (1:Int)))) (List.drop (Int.toNat (ei + (1:Int))) l)) - 1 - k21) (0,0)).2) ≤ 12000000∧-2000000000000 ≤ d21.1∧d21.1 ≤ 2000000000000∧-2000000000000 ≤ d21.2∧d21.2 ≤ 2000000000000)∧w21=w21∧(∃ d22:Int × Int,((l=l∧ei=ei∧True∧True∧True∧True∧True)∧(((0:Int)=(0:Int)∧(0:Int)=(0:Int)∧(([]:List SV)=[]))∧(g=g∧s=s∧l=l∧(([]:List SV)=[]))∧((forthW g s l)=(forthW g s l)∧false=false)∧(((beforeB s (d21.1,d21.2) (((List.getD (List.take (Int.toNat ((lI l) - (ei + (1:Int)))) (List.drop (Int.toNat (ei + (1:Int))) l)) (List.length (List.take (Int.toNat ((lI l) - (ei + (1:Int)))) (List.drop (Int.toNat (ei + (1:Int))) l)) - 1 - k21) (0,0)).1),((List.getD (List.take (Int.toNat ((lI l) - (ei + (1:Int)))) (List.drop (Int.toNat (ei + (1:Int))) l)) (List.length (List.take (Int.toNat ((lI l) - (ei + (1:Int)))) (List.drop (Int.toNat (ei + (1:Int))) l)) - 1 - k21) (0,0)).2))).1)=d22.1∧((beforeB s (d21.1,d21.2) (((List.getD (List.take (Int.toNat ((lI l) - (ei + (1:Int)))) (List.drop (Int.toNat (ei + (1:Int))) l)) (List.length (List.take (Int.toNat ((lI l) - (ei + (1:Int)))) (List.drop (Int.toNat (ei + (1:Int))) l)) - 1 - k21) (0,0)).1),((List.getD (List.take (Int.toNat ((lI l) - (ei + (1:Int)))) (List.drop (Int.toNat (ei + (1:Int))) l)) (List.length (List.take (Int.toNat ((lI l) - (ei + (1:Int)))) (List.drop (Int.toNat (ei + (1:Int))) l)) - 1 - k21) (0,0)).2))).2)=d22.2∧(([]:List SV)=[]))∧True))∧q21 d22))
      (fun (d23:Int × Int) =>
       (0 ≤ ei)∧(ei < (List.length (forthW g s l)))∧(0 ≤ ei)∧(ei < (List.length l))∧((True∧True∧True∧True∧True∧((gD l ei (0,0)).1=(gD l ei (0,0)).1∧(gD l ei (0,0)).2=(gD l ei (0,0)).2∧(([]:List SV)=[]))∧True)∧(((0:Int)=(0:Int)∧(0:Int)=(0:Int)∧(([]:List SV)=[]))∧(g=g∧s=s∧l=l∧(([]:List SV)=[]))∧(d23.1=d23.1∧d23.2=d23.2∧(([]:List SV)=[]))∧((gD (forthW g s l) ei (0,0)).1=(gD (forthW g s l) ei (0,0)).1∧(gD (forthW g s l) ei (0,0)).2=(gD (forthW g s l) ei (0,0)).2∧(([]:List SV)=[]))∧((0:Int)=(0:Int)∧(0:Int)=(0:Int)∧(([]:List SV)=[]))∧((forthW g s l)=(forthW g s l)∧false=false)∧True))∧((0 ≤ ei)∧(ei < (List.length (forthW g s l)))∧(0 ≤ ei)∧(ei < (List.length l))∧((True∧True∧True∧True∧True∧((gD l ei (0,0)).1=(gD l ei (0,0)).1∧(gD l ei (0,0)).2=(gD l ei (0,0)).2∧(([]:List SV)=[]))∧True)∧(((0:Int)=(0:Int)∧(0:Int)=(0:Int)∧(([]:List SV)=[]))∧(g=g∧s=s∧l=l∧(([]:List SV)=[]))∧(d23.1=d23.1∧d23.2=d23.2∧(([]:List SV)=[]))∧((gD (forthW g s l) ei (0,0)).1=(gD (forthW g s l) ei (0,0)).1∧(gD (forthW g s l) ei (0,0)).2=(gD (forthW g s l) ei (0,0)).2∧(([]:List SV)=[]))∧((0:Int)=(0:Int)∧(0:Int)=(0:Int)∧(([]:List SV)=[]))∧((forthW g s l)=(forthW g s l)∧false=false)∧True)))∧(((gD l ei (0,0)).1 == (1:Int))=true →
        (I64 ((gD (forthW g s l) ei (0,0)).1 - d23.2))∧(I64 ((gD (forthW g s l) ei (0,0)).2 - d23.1))∧(0 ≤ s∧s ≤ 1000∧0 ≤ ((gD l ei (0,0)).2)∧((gD l ei (0,0)).2) ≤ 12000000)∧(True)∧((((gmax ((gD (forthW g s l) ei (0,0)).1 - d23.2) ((realB s (((gD l ei (0,0)).1),((gD l ei (0,0)).2))).1))=((wasSp g s l ei).1)∧(gmin ((gD (forthW g s l) ei (0,0)).2 - d23.1) ((realB s (((gD l ei (0,0)).1),((gD l ei (0,0)).2))).2))=((wasSp g s l ei).2)∧(([]:List SV)=[]))∧(0:Int)=(wasErr g s l ei)∧(([]:List SV)=[]))∧(True))) ∧
       (((gD l ei (0,0)).1 == (1:Int))=false →
        (((gD l ei (0,0)).1 == (2:Int))=true →
         (I64 (d23.1 - (gD (forthW g s l) ei (0,0)).2))∧(I64 (d23.2 - (gD (forthW g s l) ei (0,0)).1))∧(0 ≤ s∧s ≤ 1000∧0 ≤ ((gD l ei (0,0)).2)∧((gD l ei (0,0)).2) ≤ 12000000)∧(True)∧((((gmax (d23.1 - (gD (forthW g s l) ei (0,0)).2) ((realB s (((gD l ei (0,0)).1),((gD l ei (0,0)).2))).1))=((wasSp g s l ei).1)∧(gmin (d23.2 - (gD (forthW g s l) ei (0,0)).1) ((realB s (((gD l ei (0,0)).1),((gD l ei (0,0)).2))).2))=((wasSp g s l ei).2)∧(([]:List SV)=[]))∧(0:Int)=(wasErr g s l ei)∧(([]:List SV)=[]))∧(True))) ∧
        (((gD l ei (0,0)).1 == (2:Int))=false →
         (True)∧(0 ≤ s∧s ≤ 1000∧0 ≤ ((gD l ei (0,0)).2)∧((gD l ei (0,0)).2) ≤ 12000000)∧(True)∧((((gmax (gmax ((gD (forthW g s l) ei (0,0)).1) d23.1) ((realB s (((gD l ei (0,0)).1),((gD l ei (0,0)).2))).1))=((wasSp g s l ei).1)∧(gmin (gmin ((gD (forthW g s l) ei (0,0)).2) d23.2) ((realB s (((gD l ei (0,0)).1),((gD l ei (0,0)).2))).2))=((wasSp g s l ei).2)∧(([]:List SV)=[]))∧(0:Int)=(wasErr g s l ei)∧(([]:List SV)=[]))∧(True))))) d210)))) ∧
  ((!(!([s].any fun n=>decide (n < (0:Int)) || decide ((1000:Int) < n))))=false →
   ((decide ((lI l) > (40:Int)))=true →
    w1=w1∧(((5:Int) != (0:Int))=true →
     ((((0:Int)=((wasSp g s l ei).1)∧(0:Int)=((wasSp g s l ei).2)∧(([]:List SV)=[]))∧(5:Int)=(wasErr g s l ei)∧(([]:List SV)=[]))∧(True))) ∧
    (((5:Int) != (0:Int))=false →
     (bookOk (0:Int) (0:Int) ([]:List (Int × Int)))∧((decide ((wrongI (0:Int) (0:Int) ([]:List (Int × Int))) ≥ (0:Int)))=true →
      ((((0:Int)=((wasSp g s l ei).1)∧(0:Int)=((wasSp g s l ei).2)∧(([]:List SV)=[]))∧(90:Int)=(wasErr g s l ei)∧(([]:List SV)=[]))∧(True))) ∧
     ((decide ((wrongI (0:Int) (0:Int) ([]:List (Int × Int))) ≥ (0:Int)))=false →
      (I64 ((lI l) - (1:Int)))∧([ei].length ≤ 1000000)∧((!(!([ei].any fun n=>decide (n < (0:Int)) || decide (((lI l) - (1:Int)) < n))))=true →
       ((((0:Int)=((wasSp g s l ei).1)∧(0:Int)=((wasSp g s l ei).2)∧(([]:List SV)=[]))∧(7:Int)=(wasErr g s l ei)∧(([]:List SV)=[]))∧(True))) ∧
      ((!(!([ei].any fun n=>decide (n < (0:Int)) || decide (((lI l) - (1:Int)) < n))))=false →
       (True)∧(I64 (ei + (1:Int)))∧(0 ≤ (ei + (1:Int)))∧((ei + (1:Int)) ≤ (lI l))∧((lI l) ≤ (List.length l))∧∀ w24:List Value,w24=w24∧(List.length (List.take (Int.toNat ((lI l) - (ei + (1:Int)))) (List.drop (Int.toNat (ei + (1:Int))) l)) < 4611686018427387904)∧∃ (e25:Unit) (d250:Int × Int),((l=l∧ei=ei∧True∧True∧True∧True∧True)∧(((0:Int)=(0:Int)∧(0:Int)=(0:Int)∧(([]:List SV)=[]))∧((0:Int)=g∧(0:Int)=s∧l=[]∧(([]:List SV)=[]))∧((forthW (0:Int) (0:Int) ([]:List (Int × Int)))=(forthW g s l)∧false=false)∧((0:Int)=d250.1∧(1099511627776:Int)=d250.2∧(([]:List SV)=[]))∧True)) ∧
       RangeP (List.length (List.take (Int.toNat ((lI l) - (ei + (1:Int)))) (List.drop (Int.toNat (ei + (1:Int))) l))) (fun (k25:Nat) (d25:Int × Int) (q25:(Int × Int)→Prop)=>∀ w25:List Value,
        (0 ≤ s∧s ≤ 1000∧0 ≤ ((List.getD (List.take (Int.toNat ((lI l) - (ei + (1:Int)))) (List.drop (Int.toNat (ei + (1:Int))) l)) (List.length (List.take (Int.toNat ((lI l) - (ei + (1:Int)))) (List.drop (Int.toNat (ei + (1:Int))) l)) - 1 - k25) (0,0)).2)∧((List.getD (List.take (Int.toNat ((lI l) - (ei + (1:Int)))) (List.drop (Int.toNat (ei + (1:Int))) l)) (List.length (List.take (Int.toNat ((lI l) - (ei + (1:Int)))) (List.drop (Int.toNat (ei + (1:Int))) l)) - 1 - k25) (0,0)).2) ≤ 12000000∧-2000000000000 ≤ d25.1∧d25.1 ≤ 2000000000000∧-2000000000000 ≤ d25.2∧d25.2 ≤ 2000000000000)∧w25=w25∧(∃ d26:Int × Int,((l=l∧ei=ei∧True∧True∧True∧True∧True)∧(((0:Int)=(0:Int)∧(0:Int)=(0:Int)∧(([]:List SV)=[]))∧(g=g∧s=s∧l=l∧(([]:List SV)=[]))∧((forthW g s l)=(forthW g s l)∧false=false)∧(((beforeB s (d25.1,d25.2) (((List.getD (List.take (Int.toNat ((lI l) - (ei + (1:Int)))) (List.drop (Int.toNat (ei + (1:Int))) l)) (List.length (List.take (Int.toNat ((lI l) - (ei + (1:Int)))) (List.drop (Int.toNat (ei + (1:Int))) l)) - 1 - k25) (0,0)).1),((List.getD (List.take (Int.toNat ((lI l) - (ei + (1:Int)))) (List.drop (Int.toNat (ei + (1:Int))) l)) (List.length (List.take (Int.toNat ((lI l) - (ei + (1:Int)))) (List.drop (Int.toNat (ei + (1:Int))) l)) - 1 - k25) (0,0)).2))).1)=d26.1∧((beforeB s (d25.1,d25.2) (((List.getD (List.take (Int.toNat ((lI l) - (ei + (1:Int)))) (List.drop (Int.toNat (ei + (1:Int))) l)) (List.length (List.take (Int.toNat ((lI l) - (ei + (1:Int)))) (List.drop (Int.toNat (ei + (1:Int))) l)) - 1 - k25) (0,0)).1),((List.getD (List.take (Int.toNat ((lI l) - (ei + (1:Int)))) (List.drop (Int.toNat (ei + (1:Int))) l)) (List.length (List.take (Int.toNat ((lI l) - (ei + (1:Int)))) (List.drop (Int.toNat (ei + (1:Int))) l)) - 1 - k25) (0,0)).2))).2)=d26.2∧(([]:List SV)=[]))∧True))∧q25 d26))
       (fun (d27:Int × Int) =>
        (0 ≤ ei)∧(ei < (List.length (forthW g s l)))∧(0 ≤ ei)∧(ei < (List.length l))∧((True∧True∧True∧True∧True∧((gD l ei (0,0)).1=(gD l ei (0,0)).1∧(gD l ei (0,0)).2=(gD l ei (0,0)).2∧(([]:List SV)=[]))∧True)∧(((0:Int)=(0:Int)∧(0:Int)=(0:Int)∧(([]:List SV)=[]))∧(g=g∧s=s∧l=l∧(([]:List SV)=[]))∧(d27.1=d27.1∧d27.2=d27.2∧(([]:List SV)=[]))∧((gD (forthW g s l) ei (0,0)).1=(gD (forthW g s l) ei (0,0)).1∧(gD (forthW g s l) ei (0,0)).2=(gD (forthW g s l) ei (0,0)).2∧(([]:List SV)=[]))∧((0:Int)=(0:Int)∧(0:Int)=(0:Int)∧(([]:List SV)=[]))∧((forthW g s l)=(forthW g s l)∧false=false)∧True))∧((0 ≤ ei)∧(ei < (List.length (forthW g s l)))∧(0 ≤ ei)∧(ei < (List.length l))∧((True∧True∧True∧True∧True∧((gD l ei (0,0)).1=(gD l ei (0,0)).1∧(gD l ei (0,0)).2=(gD l ei (0,0)).2∧(([]:List SV)=[]))∧True)∧(((0:Int)=(0:Int)∧(0:Int)=(0:Int)∧(([]:List SV)=[]))∧(g=g∧s=s∧l=l∧(([]:List SV)=[]))∧(d27.1=d27.1∧d27.2=d27.2∧(([]:List SV)=[]))∧((gD (forthW g s l) ei (0,0)).1=(gD (forthW g s l) ei (0,0)).1∧(gD (forthW g s l) ei (0,0)).2=(gD (forthW g s l) ei (0,0)).2∧(([]:List SV)=[]))∧((0:Int)=(0:Int)∧(0:Int)=(0:Int)∧(([]:List SV)=[]))∧((forthW g s l)=(forthW g s l)∧false=false)∧True)))∧(((gD l ei (0,0)).1 == (1:Int))=true →
         (I64 ((gD (forthW g s l) ei (0,0)).1 - d27.2))∧(I64 ((gD (forthW g s l) ei (0,0)).2 - d27.1))∧(0 ≤ s∧s ≤ 1000∧0 ≤ ((gD l ei (0,0)).2)∧((gD l ei (0,0)).2) ≤ 12000000)∧(True)∧((((gmax ((gD (forthW g s l) ei (0,0)).1 - d27.2) ((realB s (((gD l ei (0,0)).1),((gD l ei (0,0)).2))).1))=((wasSp g s l ei).1)∧(gmin ((gD (forthW g s l) ei (0,0)).2 - d27.1) ((realB s (((gD l ei (0,0)).1),((gD l ei (0,0)).2))).2))=((wasSp g s l ei).2)∧(([]:List SV)=[]))∧(0:Int)=(wasErr g s l ei)∧(([]:List SV)=[]))∧(True))) ∧
        (((gD l ei (0,0)).1 == (1:Int))=false →
         (((gD l ei (0,0)).1 == (2:Int))=true →
          (I64 (d27.1 - (gD (forthW g s l) ei (0,0)).2))∧(I64 (d27.2 - (gD (forthW g s l) ei (0,0)).1))∧(0 ≤ s∧s ≤ 1000∧0 ≤ ((gD l ei (0,0)).2)∧((gD l ei (0,0)).2) ≤ 12000000)∧(True)∧((((gmax (d27.1 - (gD (forthW g s l) ei (0,0)).2) ((realB s (((gD l ei (0,0)).1),((gD l ei (0,0)).2))).1))=((wasSp g s l ei).1)∧(gmin (d27.2 - (gD (forthW g s l) ei (0,0)).1) ((realB s (((gD l ei (0,0)).1),((gD l ei (0,0)).2))).2))=((wasSp g s l ei).2)∧(([]:List SV)=[]))∧(0:Int)=(wasErr g s l ei)∧(([]:List SV)=[]))∧(True))) ∧
         (((gD l ei (0,0)).1 == (2:Int))=false →
          (True)∧(0 ≤ s∧s ≤ 1000∧0 ≤ ((gD l ei (0,0)).2)∧((gD l ei (0,0)).2) ≤ 12000000)∧(True)∧((((gmax (gmax ((gD (forthW g s l) ei (0,0)).1) d27.1) ((realB s (((gD l ei (0,0)).1),((gD l ei (0,0)).2))).1))=((wasSp g s l ei).1)∧(gmin (gmin ((gD (forthW g s l) ei (0,0)).2) d27.2) ((realB s (((gD l ei (0,0)).1),((gD l ei (0,0)).2))).2))=((wasSp g s l ei).2)∧(([]:List SV)=[]))∧(0:Int)=(wasErr g s l ei)∧(([]:List SV)=[]))∧(True))))) d250)))) ∧
   ((decide ((lI l) > (40:Int)))=false →
    (l.length ≤ 1000000∧∀ x ∈ l,(fun (x2:Int × Int)=>True) x)∧((l.any (fun (x2:Int × Int)=>(!inI x2.1 1 3 || !inI x2.2 0 12000000)))=true →
     w1=w1∧(((2:Int) != (0:Int))=true →
      ((((0:Int)=((wasSp g s l ei).1)∧(0:Int)=((wasSp g s l ei).2)∧(([]:List SV)=[]))∧(2:Int)=(wasErr g s l ei)∧(([]:List SV)=[]))∧(True))) ∧
     (((2:Int) != (0:Int))=false →
      (bookOk (0:Int) (0:Int) ([]:List (Int × Int)))∧((decide ((wrongI (0:Int) (0:Int) ([]:List (Int × Int))) ≥ (0:Int)))=true →
       ((((0:Int)=((wasSp g s l ei).1)∧(0:Int)=((wasSp g s l ei).2)∧(([]:List SV)=[]))∧(90:Int)=(wasErr g s l ei)∧(([]:List SV)=[]))∧(True))) ∧
      ((decide ((wrongI (0:Int) (0:Int) ([]:List (Int × Int))) ≥ (0:Int)))=false →
       (I64 ((lI l) - (1:Int)))∧([ei].length ≤ 1000000)∧((!(!([ei].any fun n=>decide (n < (0:Int)) || decide (((lI l) - (1:Int)) < n))))=true →
        ((((0:Int)=((wasSp g s l ei).1)∧(0:Int)=((wasSp g s l ei).2)∧(([]:List SV)=[]))∧(7:Int)=(wasErr g s l ei)∧(([]:List SV)=[]))∧(True))) ∧
       ((!(!([ei].any fun n=>decide (n < (0:Int)) || decide (((lI l) - (1:Int)) < n))))=false →
        (True)∧(I64 (ei + (1:Int)))∧(0 ≤ (ei + (1:Int)))∧((ei + (1:Int)) ≤ (lI l))∧((lI l) ≤ (List.length l))∧∀ w28:List Value,w28=w28∧(List.length (List.take (Int.toNat ((lI l) - (ei + (1:Int)))) (List.drop (Int.toNat (ei + (1:Int))) l)) < 4611686018427387904)∧∃ (e29:Unit) (d290:Int × Int),((l=l∧ei=ei∧True∧True∧True∧True∧True)∧(((0:Int)=(0:Int)∧(0:Int)=(0:Int)∧(([]:List SV)=[]))∧((0:Int)=g∧(0:Int)=s∧l=[]∧(([]:List SV)=[]))∧((forthW (0:Int) (0:Int) ([]:List (Int × Int)))=(forthW g s l)∧false=false)∧((0:Int)=d290.1∧(1099511627776:Int)=d290.2∧(([]:List SV)=[]))∧True)) ∧
        RangeP (List.length (List.take (Int.toNat ((lI l) - (ei + (1:Int)))) (List.drop (Int.toNat (ei + (1:Int))) l))) (fun (k29:Nat) (d29:Int × Int) (q29:(Int × Int)→Prop)=>∀ w29:List Value,
         (0 ≤ s∧s ≤ 1000∧0 ≤ ((List.getD (List.take (Int.toNat ((lI l) - (ei + (1:Int)))) (List.drop (Int.toNat (ei + (1:Int))) l)) (List.length (List.take (Int.toNat ((lI l) - (ei + (1:Int)))) (List.drop (Int.toNat (ei + (1:Int))) l)) - 1 - k29) (0,0)).2)∧((List.getD (List.take (Int.toNat ((lI l) - (ei + (1:Int)))) (List.drop (Int.toNat (ei + (1:Int))) l)) (List.length (List.take (Int.toNat ((lI l) - (ei + (1:Int)))) (List.drop (Int.toNat (ei + (1:Int))) l)) - 1 - k29) (0,0)).2) ≤ 12000000∧-2000000000000 ≤ d29.1∧d29.1 ≤ 2000000000000∧-2000000000000 ≤ d29.2∧d29.2 ≤ 2000000000000)∧w29=w29∧(∃ d30:Int × Int,((l=l∧ei=ei∧True∧True∧True∧True∧True)∧(((0:Int)=(0:Int)∧(0:Int)=(0:Int)∧(([]:List SV)=[]))∧(g=g∧s=s∧l=l∧(([]:List SV)=[]))∧((forthW g s l)=(forthW g s l)∧false=false)∧(((beforeB s (d29.1,d29.2) (((List.getD (List.take (Int.toNat ((lI l) - (ei + (1:Int)))) (List.drop (Int.toNat (ei + (1:Int))) l)) (List.length (List.take (Int.toNat ((lI l) - (ei + (1:Int)))) (List.drop (Int.toNat (ei + (1:Int))) l)) - 1 - k29) (0,0)).1),((List.getD (List.take (Int.toNat ((lI l) - (ei + (1:Int)))) (List.drop (Int.toNat (ei + (1:Int))) l)) (List.length (List.take (Int.toNat ((lI l) - (ei + (1:Int)))) (List.drop (Int.toNat (ei + (1:Int))) l)) - 1 - k29) (0,0)).2))).1)=d30.1∧((beforeB s (d29.1,d29.2) (((List.getD (List.take (Int.toNat ((lI l) - (ei + (1:Int)))) (List.drop (Int.toNat (ei + (1:Int))) l)) (List.length (List.take (Int.toNat ((lI l) - (ei + (1:Int)))) (List.drop (Int.toNat (ei + (1:Int))) l)) - 1 - k29) (0,0)).1),((List.getD (List.take (Int.toNat ((lI l) - (ei + (1:Int)))) (List.drop (Int.toNat (ei + (1:Int))) l)) (List.length (List.take (Int.toNat ((lI l) - (ei + (1:Int)))) (List.drop (Int.toNat (ei + (1:Int))) l)) - 1 - k29) (0,0)).2))).2)=d30.2∧(([]:List SV)=[]))∧True))∧q29 d30))
        (fun (d31:Int × Int) =>
         (0 ≤ ei)∧(ei < (List.length (forthW g s l)))∧(0 ≤ ei)∧(ei < (List.length l))∧((True∧True∧True∧True∧True∧((gD l ei (0,0)).1=(gD l ei (0,0)).1∧(gD l ei (0,0)).2=(gD l ei (0,0)).2∧(([]:List SV)=[]))∧True)∧(((0:Int)=(0:Int)∧(0:Int)=(0:Int)∧(([]:List SV)=[]))∧(g=g∧s=s∧l=l∧(([]:List SV)=[]))∧(d31.1=d31.1∧d31.2=d31.2∧(([]:List SV)=[]))∧((gD (forthW g s l) ei (0,0)).1=(gD (forthW g s l) ei (0,0)).1∧(gD (forthW g s l) ei (0,0)).2=(gD (forthW g s l) ei (0,0)).2∧(([]:List SV)=[]))∧((0:Int)=(0:Int)∧(0:Int)=(0:Int)∧(([]:List SV)=[]))∧((forthW g s l)=(forthW g s l)∧false=false)∧True))∧((0 ≤ ei)∧(ei < (List.length (forthW g s l)))∧(0 ≤ ei)∧(ei < (List.length l))∧((True∧True∧True∧True∧True∧((gD l ei (0,0)).1=(gD l ei (0,0)).1∧(gD l ei (0,0)).2=(gD l ei (0,0)).2∧(([]:List SV)=[]))∧True)∧(((0:Int)=(0:Int)∧(0:Int)=(0:Int)∧(([]:List SV)=[]))∧(g=g∧s=s∧l=l∧(([]:List SV)=[]))∧(d31.1=d31.1∧d31.2=d31.2∧(([]:List SV)=[]))∧((gD (forthW g s l) ei (0,0)).1=(gD (forthW g s l) ei (0,0)).1∧(gD (forthW g s l) ei (0,0)).2=(gD (forthW g s l) ei (0,0)).2∧(([]:List SV)=[]))∧((0:Int)=(0:Int)∧(0:Int)=(0:Int)∧(([]:List SV)=[]))∧((forthW g s l)=(forthW g s l)∧false=false)∧True)))∧(((gD l ei (0,0)).1 == (1:Int))=true →
          (I64 ((gD (forthW g s l) ei (0,0)).1 - d31.2))∧(I64 ((gD (forthW g s l) ei (0,0)).2 - d31.1))∧(0 ≤ s∧s ≤ 1000∧0 ≤ ((gD l ei (0,0)).2)∧((gD l ei (0,0)).2) ≤ 12000000)∧(True)∧((((gmax ((gD (forthW g s l) ei (0,0)).1 - d31.2) ((realB s (((gD l ei (0,0)).1),((gD l ei (0,0)).2))).1))=((wasSp g s l ei).1)∧(gmin ((gD (forthW g s l) ei (0,0)).2 - d31.1) ((realB s (((gD l ei (0,0)).1),((gD l ei (0,0)).2))).2))=((wasSp g s l ei).2)∧(([]:List SV)=[]))∧(0:Int)=(wasErr g s l ei)∧(([]:List SV)=[]))∧(True))) ∧
         (((gD l ei (0,0)).1 == (1:Int))=false →
          (((gD l ei (0,0)).1 == (2:Int))=true →
           (I64 (d31.1 - (gD (forthW g s l) ei (0,0)).2))∧(I64 (d31.2 - (gD (forthW g s l) ei (0,0)).1))∧(0 ≤ s∧s ≤ 1000∧0 ≤ ((gD l ei (0,0)).2)∧((gD l ei (0,0)).2) ≤ 12000000)∧(True)∧((((gmax (d31.1 - (gD (forthW g s l) ei (0,0)).2) ((realB s (((gD l ei (0,0)).1),((gD l ei (0,0)).2))).1))=((wasSp g s l ei).1)∧(gmin (d31.2 - (gD (forthW g s l) ei (0,0)).1) ((realB s (((gD l ei (0,0)).1),((gD l ei (0,0)).2))).2))=((wasSp g s l ei).2)∧(([]:List SV)=[]))∧(0:Int)=(wasErr g s l ei)∧(([]:List SV)=[]))∧(True))) ∧
          (((gD l ei (0,0)).1 == (2:Int))=false →
           (True)∧(0 ≤ s∧s ≤ 1000∧0 ≤ ((gD l ei (0,0)).2)∧((gD l ei (0,0)).2) ≤ 12000000)∧(True)∧((((gmax (gmax ((gD (forthW g s l) ei (0,0)).1) d31.1) ((realB s (((gD l ei (0,0)).1),((gD l ei (0,0)).2))).1))=((wasSp g s l ei).1)∧(gmin (gmin ((gD (forthW g s l) ei (0,0)).2) d31.2) ((realB s (((gD l ei (0,0)).1),((gD l ei (0,0)).2))).2))=((wasSp g s l ei).2)∧(([]:List SV)=[]))∧(0:Int)=(wasErr g s l ei)∧(([]:List SV)=[]))∧(True))))) d290)))) ∧
    ((l.any (fun (x2:Int × Int)=>(!inI x2.1 1 3 || !inI x2.2 0 12000000)))=false →
     w1=w1∧(((0:Int) != (0:Int))=true →
      ((((0:Int)=((wasSp g s l ei).1)∧(0:Int)=((wasSp g s l ei).2)∧(([]:List SV)=[]))∧(0:Int)=(wasErr g s l ei)∧(([]:List SV)=[]))∧(True))) ∧
     (((0:Int) != (0:Int))=false →
      (bookOk g s l)∧((decide ((wrongI g s l) ≥ (0:Int)))=true →
       ((((0:Int)=((wasSp g s l ei).1)∧(0:Int)=((wasSp g s l ei).2)∧(([]:List SV)=[]))∧(90:Int)=(wasErr g s l ei)∧(([]:List SV)=[]))∧(True))) ∧
      ((decide ((wrongI g s l) ≥ (0:Int)))=false →
       (I64 ((lI l) - (1:Int)))∧([ei].length ≤ 1000000)∧((!(!([ei].any fun n=>decide (n < (0:Int)) || decide (((lI l) - (1:Int)) < n))))=true →
        ((((0:Int)=((wasSp g s l ei).1)∧(0:Int)=((wasSp g s l ei).2)∧(([]:List SV)=[]))∧(7:Int)=(wasErr g s l ei)∧(([]:List SV)=[]))∧(True))) ∧
       ((!(!([ei].any fun n=>decide (n < (0:Int)) || decide (((lI l) - (1:Int)) < n))))=false →
        (True)∧(I64 (ei + (1:Int)))∧(0 ≤ (ei + (1:Int)))∧((ei + (1:Int)) ≤ (lI l))∧((lI l) ≤ (List.length l))∧∀ w32:List Value,w32=w32∧(List.length (List.take (Int.toNat ((lI l) - (ei + (1:Int)))) (List.drop (Int.toNat (ei + (1:Int))) l)) < 4611686018427387904)∧∃ (e35:Unit) (d350:Int × Int),((l=l∧ei=ei∧True∧True∧True∧True∧True)∧(((0:Int)=(0:Int)∧(0:Int)=(0:Int)∧(([]:List SV)=[]))∧(g=g∧s=s∧l=l∧(([]:List SV)=[]))∧((forthW g s l)=(forthW g s l)∧false=false)∧((0:Int)=d350.1∧(1099511627776:Int)=d350.2∧(([]:List SV)=[]))∧True)) ∧
        RangeP (List.length (List.take (Int.toNat ((lI l) - (ei + (1:Int)))) (List.drop (Int.toNat (ei + (1:Int))) l))) (fun (k35:Nat) (d35:Int × Int) (q35:(Int × Int)→Prop)=>∀ w35:List Value,
         (0 ≤ s∧s ≤ 1000∧0 ≤ ((List.getD (List.take (Int.toNat ((lI l) - (ei + (1:Int)))) (List.drop (Int.toNat (ei + (1:Int))) l)) (List.length (List.take (Int.toNat ((lI l) - (ei + (1:Int)))) (List.drop (Int.toNat (ei + (1:Int))) l)) - 1 - k35) (0,0)).2)∧((List.getD (List.take (Int.toNat ((lI l) - (ei + (1:Int)))) (List.drop (Int.toNat (ei + (1:Int))) l)) (List.length (List.take (Int.toNat ((lI l) - (ei + (1:Int)))) (List.drop (Int.toNat (ei + (1:Int))) l)) - 1 - k35) (0,0)).2) ≤ 12000000∧-2000000000000 ≤ d35.1∧d35.1 ≤ 2000000000000∧-2000000000000 ≤ d35.2∧d35.2 ≤ 2000000000000)∧w35=w35∧(∃ d36:Int × Int,((l=l∧ei=ei∧True∧True∧True∧True∧True)∧(((0:Int)=(0:Int)∧(0:Int)=(0:Int)∧(([]:List SV)=[]))∧(g=g∧s=s∧l=l∧(([]:List SV)=[]))∧((forthW g s l)=(forthW g s l)∧false=false)∧(((beforeB s (d35.1,d35.2) (((List.getD (List.take (Int.toNat ((lI l) - (ei + (1:Int)))) (List.drop (Int.toNat (ei + (1:Int))) l)) (List.length (List.take (Int.toNat ((lI l) - (ei + (1:Int)))) (List.drop (Int.toNat (ei + (1:Int))) l)) - 1 - k35) (0,0)).1),((List.getD (List.take (Int.toNat ((lI l) - (ei + (1:Int)))) (List.drop (Int.toNat (ei + (1:Int))) l)) (List.length (List.take (Int.toNat ((lI l) - (ei + (1:Int)))) (List.drop (Int.toNat (ei + (1:Int))) l)) - 1 - k35) (0,0)).2))).1)=d36.1∧((beforeB s (d35.1,d35.2) (((List.getD (List.take (Int.toNat ((lI l) - (ei + (1:Int)))) (List.drop (Int.toNat (ei + (1:Int))) l)) (List.length (List.take (Int.toNat ((lI l) - (ei + (1:Int)))) (List.drop (Int.toNat (ei + (1:Int))) l)) - 1 - k35) (0,0)).1),((List.getD (List.take (Int.toNat ((lI l) - (ei + (1:Int)))) (List.drop (Int.toNat (ei + (1:Int))) l)) (List.length (List.take (Int.toNat ((lI l) - (ei + (1:Int)))) (List.drop (Int.toNat (ei + (1:Int))) l)) - 1 - k35) (0,0)).2))).2)=d36.2∧(([]:List SV)=[]))∧True))∧q35 d36))
        (fun (d37:Int × Int) =>
         (0 ≤ ei)∧(ei < (List.length (forthW g s l)))∧(0 ≤ ei)∧(ei < (List.length l))∧((True∧True∧True∧True∧True∧((gD l ei (0,0)).1=(gD l ei (0,0)).1∧(gD l ei (0,0)).2=(gD l ei (0,0)).2∧(([]:List SV)=[]))∧True)∧(((0:Int)=(0:Int)∧(0:Int)=(0:Int)∧(([]:List SV)=[]))∧(g=g∧s=s∧l=l∧(([]:List SV)=[]))∧(d37.1=d37.1∧d37.2=d37.2∧(([]:List SV)=[]))∧((gD (forthW g s l) ei (0,0)).1=(gD (forthW g s l) ei (0,0)).1∧(gD (forthW g s l) ei (0,0)).2=(gD (forthW g s l) ei (0,0)).2∧(([]:List SV)=[]))∧((0:Int)=(0:Int)∧(0:Int)=(0:Int)∧(([]:List SV)=[]))∧((forthW g s l)=(forthW g s l)∧false=false)∧True))∧((0 ≤ ei)∧(ei < (List.length (forthW g s l)))∧(0 ≤ ei)∧(ei < (List.length l))∧((True∧True∧True∧True∧True∧((gD l ei (0,0)).1=(gD l ei (0,0)).1∧(gD l ei (0,0)).2=(gD l ei (0,0)).2∧(([]:List SV)=[]))∧True)∧(((0:Int)=(0:Int)∧(0:Int)=(0:Int)∧(([]:List SV)=[]))∧(g=g∧s=s∧l=l∧(([]:List SV)=[]))∧(d37.1=d37.1∧d37.2=d37.2∧(([]:List SV)=[]))∧((gD (forthW g s l) ei (0,0)).1=(gD (forthW g s l) ei (0,0)).1∧(gD (forthW g s l) ei (0,0)).2=(gD (forthW g s l) ei (0,0)).2∧(([]:List SV)=[]))∧((0:Int)=(0:Int)∧(0:Int)=(0:Int)∧(([]:List SV)=[]))∧((forthW g s l)=(forthW g s l)∧false=false)∧True)))∧(((gD l ei (0,0)).1 == (1:Int))=true →
          (I64 ((gD (forthW g s l) ei (0,0)).1 - d37.2))∧(I64 ((gD (forthW g s l) ei (0,0)).2 - d37.1))∧(0 ≤ s∧s ≤ 1000∧0 ≤ ((gD l ei (0,0)).2)∧((gD l ei (0,0)).2) ≤ 12000000)∧(True)∧((((gmax ((gD (forthW g s l) ei (0,0)).1 - d37.2) ((realB s (((gD l ei (0,0)).1),((gD l ei (0,0)).2))).1))=((wasSp g s l ei).1)∧(gmin ((gD (forthW g s l) ei (0,0)).2 - d37.1) ((realB s (((gD l ei (0,0)).1),((gD l ei (0,0)).2))).2))=((wasSp g s l ei).2)∧(([]:List SV)=[]))∧(0:Int)=(wasErr g s l ei)∧(([]:List SV)=[]))∧(True))) ∧
         (((gD l ei (0,0)).1 == (1:Int))=false →
          (((gD l ei (0,0)).1 == (2:Int))=true →
           (I64 (d37.1 - (gD (forthW g s l) ei (0,0)).2))∧(I64 (d37.2 - (gD (forthW g s l) ei (0,0)).1))∧(0 ≤ s∧s ≤ 1000∧0 ≤ ((gD l ei (0,0)).2)∧((gD l ei (0,0)).2) ≤ 12000000)∧(True)∧((((gmax (d37.1 - (gD (forthW g s l) ei (0,0)).2) ((realB s (((gD l ei (0,0)).1),((gD l ei (0,0)).2))).1))=((wasSp g s l ei).1)∧(gmin (d37.2 - (gD (forthW g s l) ei (0,0)).1) ((realB s (((gD l ei (0,0)).1),((gD l ei (0,0)).2))).2))=((wasSp g s l ei).2)∧(([]:List SV)=[]))∧(0:Int)=(wasErr g s l ei)∧(([]:List SV)=[]))∧(True))) ∧
          (((gD l ei (0,0)).1 == (2:Int))=false →
           (True)∧(0 ≤ s∧s ≤ 1000∧0 ≤ ((gD l ei (0,0)).2)∧((gD l ei (0,0)).2) ≤ 12000000)∧(True)∧((((gmax (gmax ((gD (forthW g s l) ei (0,0)).1) d37.1) ((realB s (((gD l ei (0,0)).1),((gD l ei (0,0)).2))).1))=((wasSp g s l ei).1)∧(gmin (gmin ((gD (forthW g s l) ei (0,0)).2) d37.2) ((realB s (((gD l ei (0,0)).1),((gD l ei (0,0)).2))).2))=((wasSp g s l ei).2)∧(([]:List SV)=[]))∧(0:Int)=(wasErr g s l ei)∧(([]:List SV)=[]))∧(True))))) d350)))))))
def cx_shade_Was:Cx:=⟨[(3,(.i .i64))],[(33,s_shade_within),(40,s_shade_book_forth),(41,s_shade_anything),(43,s_shade_book_before),(45,s_shade_book_real),(44,s_shade_both),(57,s_slices_ContainsFunc_api_ShadeEntry_api_ShadeEntry),(56,s_shade_newBook_1)],103,[],0,[(37,x_shade_newBook),(42,x_slices_Backward_api_ShadeEntry_api_ShadeEntry)],[(59,bwIt (.pair (.i .i64) (.i .i64)))],[],[8,10,13,16,17,66],false,[],[],[]⟩
def lp_shade_Was (g:Int) (s:Int) (l:List (Int × Int)) (ei:Int):List (Nat × LoopAnn):=[(1,⟨Unit,Int × Int,[2,3,8,10,11,13],fun e x=>[.val (.list (.pair (.i .i64) (.i .i64))) l,.val (.i .i64) ei,.box 8 0,.box 10 0,.lst 31,.box 13 0],fun e x=>[(8,.slot 8,.cells [.val (.i .i64) (0:Int),.val (.i .i64) (0:Int)] (some 30)),(10,.slot 10,.cells [.val (.i .i64) g,.val (.i .i64) s,.val (.list (.pair (.i .i64) (.i .i64))) l] (some 81)),(31,.slot 11,.lst 30 (.pair (.i .i64) (.i .i64)) (forthW g s l) false),(13,.slot 13,.cells [.val (.i .i64) x.1,.val (.i .i64) x.2] (some 30))]⟩)]
set_option maxRecDepth 100000 in
theorem vq_shade_Was (d:Int × Int × (List (Int × Int)) × Int):gwp (cx_shade_Was) (lp_shade_Was d.1 d.2.1 d.2.2.1 d.2.2.2) c21 0 (gend [.cell 8 true 2,.tmp 9] (res_shade_Was d) (obs_shade_Was d)) (gstart 103 (AL.can al_shade_Was d))=vc_shade_Was d.1 d.2.1 d.2.2.1 d.2.2.2:=by kernel_rfl
abbrev Ok_shade_Was:Prop:=OkC Tryz.prog 21 s_shade_Was
theorem mk_shade_Was (h:∀ (g:Int) (s:Int) (l:List (Int × Int)) (ei:Int),(l.length ≤ 1000)→vc_shade_Was g s l ei):OkC Tryz.prog 21 s_shade_Was :=
 okC_vc fun21 mixed (C:=cx_shade_Was) (V:=fun (d:Int × Int × (List (Int × Int)) × Int)=>vc_shade_Was d.1 d.2.1 d.2.2.1 d.2.2.2) ⟨(.cons ok_shade_within (.cons ok_shade_book_forth (.cons ok_shade_anything (.cons ok_shade_book_before (.cons ok_shade_book_real (.cons ok_shade_both (.cons ok_slices_ContainsFunc_api_ShadeEntry_api_ShadeEntry (.cons ok_shade_newBook_1 .nil)))))))),(XsOk.cons okx_shade_newBook (XsOk.cons okx_slices_Backward_api_ShadeEntry_api_ShadeEntry XsOk.nil)),(ItsOk.cons (bw_ok funbw59 mixed) ItsOk.nil),YlOk.nil,IysOk.nil⟩ (vq_shade_Was) fun d hp=>h d.1 d.2.1 d.2.2.1 d.2.2.2 hp
end Go.Proofs.Tryz
set_option linter.unusedVariables false
namespace Go.Proofs.Tryz
open Go Go.V Go.Proofs
theorem beforeB_bd {s B:Int} {p:Sp} {x:En} (hs:0 ≤ s∧s ≤ 1000) (hx:enOk x) (hB:0 ≤ B) (hp:0 ≤ p.1∧p.1 ≤ B∧-B ≤ p.2∧p.2 ≤ 1099511627776 + B):0 ≤ (beforeB s p x).1∧(beforeB s p x).1 ≤ B + 12001000∧-(B + 12001000) ≤ (beforeB s p x).2∧(beforeB s p x).2 ≤ 1099511627776 + (B + 12001000):=by
 obtain ⟨h1,h2,h3,h4⟩:=hx
 unfold beforeB bothB realB anyB
 simp only [gmax_eq,gmin_eq]
 split
 ·dsimp only; omega
 ·split
  ·dsimp only; omega
  ·dsimp only; omega
theorem rest_bd {s:Int} (hs:0 ≤ s∧s ≤ 1000):∀ L:List En,(∀ x ∈ L,enOk x)→0 ≤ (restB s L).1∧(restB s L).1 ≤ 12001000 * L.length∧-(12001000 * (L.length:Int)) ≤ (restB s L).2∧(restB s L).2 ≤ 1099511627776 + 12001000 * L.length
 | [],_=>by unfold restB anyB; simp
 | x :: L,h=>by
  have ih:=rest_bd hs L fun y hy=>h y (by simp [hy])
  have:=beforeB_bd (B:=12001000 * (L.length:Int)) hs (h x (by simp)) (by omega) ih
  have e:(12001000 * ((x :: L).length:Int))=12001000 * (L.length:Int) + 12001000:=by simp only [List.length_cons]; omega
  rw [e]
  exact this
theorem rest_step {s:Int} {L:List En} {k:Nat} (hk:k < L.length):restB s (L.drop (L.length - (k + 1)))=beforeB s (restB s (L.drop (L.length - k))) (L.getD (L.length - 1 - k) (0,0)):=by
 have e:L.length - (k + 1)=L.length - 1 - k:=by omega
 rw [e,restB_cons (by omega),show L.length - 1 - k + 1=L.length - k by omega]
theorem was_err {g s e ei:Int} {l:List En} (he:entErr g s l=e) (h0:e ≠ 0):(0=(wasSp g s l ei).1∧0=(wasSp g s l ei).2)∧e=wasErr g s l ei:=by
 have h1:wasErr g s l ei=e:=by unfold wasErr; rw [(book_err he h0).1,if_pos h0]
 have h2:wasSp g s l ei=(0,0):=by unfold wasSp; rw [h1,if_neg h0]
 rw [h1,h2]; exact ⟨⟨rfl,rfl⟩,rfl⟩
theorem ok_shade_Was:Ok_shade_Was:=mk_shade_Was fun g s l ei hl=>by
 unfold vc_shade_Was; (try delta lI gD sT I64)
 simp only [List.any_cons,List.any_nil,Bool.or_false,Bool.not_not,←nI,List.length_cons,List.length_nil,dead2,dead5,dead0,Bool.true_eq_false,true_and,and_true,eq_self_iff_true,exists_eq_left',exists_const,decide_eq_true_eq,decide_eq_false_iff_not,beq_iff_eq,bne_iff_ne,ne_eq,beq_eq_false_iff_ne,bne_eq_false_iff_eq,Bool.not_eq_true',Bool.not_eq_false',Bool.not_eq_true,Bool.not_eq_false,Int.toNat_natCast,Int.ofNat_lt,gt_iff_lt,ge_iff_le,forall_eq,true_implies,false_implies,Bool.false_eq_true,Bool.or_self,Bool.and_self,Bool.or_false,Bool.false_or,Bool.or_true,Bool.true_or,Bool.and_false,Bool.false_and,Bool.and_true,Bool.true_and,Bool.not_true,Bool.not_false,implies_true,forall_const,decide_false,decide_true,not_false_eq_true,not_true_eq_false]
 refine ⟨by omega,fun h1=>⟨fun _=>was_err (ent2a h1) (by decide),fun h=>by rw [h1] at h; cases h⟩,fun h1=>⟨by omega,fun h2=>was_err (ent2b h2) (by decide),fun h2=>⟨fun h3=>was_err (ent5 h1 h2 h3) (by decide),fun h3=>⟨by omega,fun h4=>was_err (ent2c h1 h2 h3 h4) (by decide),fun h4=>?_⟩⟩⟩⟩
 have he:=ent0 h1 h2 h3 h4
 have hb:=entErr_zero he
 refine ⟨hb,fun hw=>?_,fun hw=>⟨by rw [InK_i64]; omega,by omega,fun h5=>?_,fun h5=>?_⟩⟩
 ·have h6:wasErr g s l ei=90:=by unfold wasErr; rw [(book_bad he hw).1,if_pos (by decide)]
  have h7:wasSp g s l ei=(0,0):=by unfold wasSp; rw [h6,if_neg (by decide)]
  rw [h6,h7]; exact ⟨⟨rfl,rfl⟩,rfl⟩
 ·have h6:wasErr g s l ei=7:=by unfold wasErr; rw [(book_good he hw).1,if_neg (by decide),h5,if_pos (by decide)]
  have h7:wasSp g s l ei=(0,0):=by unfold wasSp; rw [h6,if_neg (by decide)]
  rw [h6,h7]; exact ⟨⟨rfl,rfl⟩,rfl⟩
 have h5':=h5
 simp only [inI,Bool.and_eq_true,decide_eq_true_eq] at h5
 obtain ⟨n,rfl⟩:=Int.eq_ofNat_of_zero_le h5.1
 have hn:n < l.length:=by omega
 have hfw:=(book_good he hw).2.2.2
 have hwe:wasErr g s l n=0:=by unfold wasErr; rw [(book_good he hw).1,if_neg (by decide),h5',if_neg (by decide)]
 have hws:wasSp g s l n=wasK g s l n:=by unfold wasSp; rw [if_pos hwe,Int.toNat_natCast]
 have hM:List.take ((l.length:Int) - ((n:Int) + 1)).toNat (List.drop ((n:Int) + 1).toNat l)=l.drop (n + 1):=by
  rw [toNat_add1]; exact List.take_of_length_le (by rw [List.length_drop]; omega)
 obtain ⟨b1,b2,b3,b4,b5,b6⟩:=hb
 have hx:=b6 _ (List.getElem_mem hn)
 obtain ⟨x1,x2,x3,x4⟩:=hx
 have hbd:=stB_bd ⟨b1,b2,b3,b4,b5,b6⟩ n (by omega) fun j h1 h2=>wrong_none.1 (by omega) j (by omega)
 have hLx:∀ x ∈ l.drop (n + 1),enOk x:=fun x hx=>b6 x (List.mem_of_mem_drop hx)
 have hfl:((List.range (l.length + 1)).map (stB g s l)).length=l.length + 1:=by simp
 have hwk:wasK g s l n=entB s (stB g s l n) (restB s (l.drop (n + 1))) l[n]:=by unfold wasK; rw [getD_nat hn]
 rw [hM,hwe,hws,hwk]
 simp only [Int.toNat_natCast,hfw,stB_at (show n < l.length + 1 by omega),getD_nat (d:=((0,0):Int × Int)) hn,hfl]
 have hLl:(l.drop (n + 1)).length=l.length - (n + 1):=List.length_drop ..
 generalize l.drop (n + 1)=L at *
 have hr:=rest_bd ⟨b3,b4⟩ L hLx
 refine ⟨by rw [InK_i64]; omega,by omega,by omega,by omega,by omega,(0,1099511627776),⟨rfl,rfl⟩,fun k d=>d=restB s (L.drop (L.length - k)),?_,fun k d hk hd=>?_,fun d hd=>?_⟩
 ·show ((0:Int),(1099511627776:Int))=restB s (L.drop (L.length - 0))
  rw [Nat.sub_zero,List.drop_length]; rfl
 ·subst hd
  have hd2:=rest_bd ⟨b3,b4⟩ (L.drop (L.length - k)) fun x hx=>hLx x (List.mem_of_mem_drop hx)
  rw [List.length_drop] at hd2
  have hk2:L.length - 1 - k < L.length:=by omega
  obtain ⟨y1,y2,y3,y4⟩:=hLx _ (List.getElem_mem hk2)
  have hst:=rest_step (s:=s) hk
  rw [getD_nat hk2] at hst ⊢
  refine ⟨⟨b3,b4,y3,y4,by omega,by omega,by omega,by omega⟩,beforeB s (restB s (L.drop (L.length - k))) L[L.length - 1 - k],⟨rfl,rfl⟩,hst.symm⟩
 ·dsimp only at hd
  rw [Nat.sub_self,List.drop_zero] at hd
  subst hd
  have hp:∀ y:Int × Int,(y.1,y.2)=y:=fun _=>rfl
  simp only [hp]
  refine ⟨by omega,by omega,by omega,by omega,⟨by omega,by omega,by omega,by omega⟩,fun e1=>⟨by rw [InK_i64]; omega,by rw [InK_i64]; omega,⟨b3,b4,x3,x4⟩,⟨?_,?_⟩,trivial⟩,fun e1=>⟨fun e2=>⟨by rw [InK_i64]; omega,by rw [InK_i64]; omega,⟨b3,b4,x3,x4⟩,⟨?_,?_⟩,trivial⟩,fun e2=>⟨⟨b3,b4,x3,x4⟩,⟨?_,?_⟩,trivial⟩⟩⟩ <;> unfold entB bothB <;> first | (rw [if_pos e1]; done) | (rw [if_neg e1,if_pos e2]; done) | (rw [if_neg e1,if_neg e2]; done)
end Go.Proofs.Tryz
namespace Go.V
open Go
theorem ret_true {P:Program} {σ:Heap}:Ret P σ (.val .bo true) [] (.bool true) σ :=
 ⟨⟨.refl _,Dead.refl _⟩,fun _=>rfl,noPl,fun j b hj=>by simp at hj,fun j j' i hj=>by simp at hj,by simp [SR,KC]⟩
theorem okC_true {P:Program} {f:Nat} (h:∀ (σ:Heap) (K:Value→Heap→Prop),K (.bool true) σ→VCalled P f [] σ K):OkC P f (mkSp (.nil:AL Unit) (fun _=>True) (fun _=>.val .bo true) (fun _=>[])):=by
 intro ap hap σ args vs c v bs hargs hs hv hbs hc
 unfold mkSp at hs
 split at hs
 ·rename_i d hd
  obtain ⟨rfl,rfl,rfl⟩:=(by simpa using hs:True=c∧SV.val .bo true=v∧[]=bs)
  have:vs=[]:=by
   cases args with
   | nil=>simpa [SRs] using hargs
   | cons a l=>simp [AL.dec] at hd
  subst this
  refine ⟨h σ _ ret_true,fun _ _=>h σ _ ⟨rfl,?_⟩⟩
  unfold canH
  cases σ
  simp only [List.length_nil,Nat.add_zero,List.getElem?_nil,Option.bind_none,Heap.mk.injEq,and_true]
  funext i
  split
  ·rfl
  ·rename_i wf hi; exact wf i (by simpa using hi)
 ·cases hs
end Go.V
namespace Go.V
open Go Go.ChangeShapes Go.WideShapes Go.RowKit Go.Deep Go.Joins
def Heap.RO (σ:Heap):Prop:=∀ i b,σ.get i=some b→b.wr=false
structure View (w:World) (ρ:Plc) (σ:Heap):Prop where
 rel:HRel ρ σ w
 ro:σ.RO
structure More (ρ:Plc) (σ:Heap) (ρ':Plc) (σ':Heap):Prop where
 n:σ.n ≤ σ'.n
 pl:∀ i,i < σ.n→∀ p,ρ' i=some p→ρ i=some p
 ag:Agree σ σ'
theorem More.refl (ρ:Plc) (σ:Heap):More ρ σ ρ σ:=⟨Nat.le_refl _,fun _ _ _ h=>h,Agree.refl _⟩
theorem More.trans {ρ ρ' ρ'':Plc} {σ σ' σ'':Heap} (h:More ρ σ ρ' σ') (k:More ρ' σ' ρ'' σ''):More ρ σ ρ'' σ'' :=
 ⟨Nat.le_trans h.n k.n,fun i hi p hp=>h.pl i hi p (k.pl i (Nat.lt_of_lt_of_le hi h.n) p hp),h.ag.trans k.ag h.n⟩
def Tabs (w:World):Prop:=∀ g cs,gtab g=some cs→∃ e f,w.heap[g]?=some (.cells cs.toArray e f)
theorem View.emptyT (w:World) (ht:Tabs w):View w (fun _=>none) Heap.empty where
 rel:=⟨⟨fun i b h=>(by cases h),fun _ _=>rfl,fun i p h=>(by cases h),fun i j p q b _ h=>(by cases h)⟩,fun g cs hg=>⟨ht g cs hg,fun ⟨_,_,_,h,_⟩=>by cases h⟩⟩
 ro:=fun i b h=>by cases h
theorem View.add {w:World} {ρ:Plc} {σ:Heap} (h:View w ρ σ) (p:Pl) (c:List Value) {C:Array Value} {e:TypeId} {f:Nat × Nat} (hb:w.heap[p.blk]?=some (.cells C e f)) (hs:p.shift + p.ext ≤ C.size) (hl:c.length ≤ p.ext) (ht:e=p.esz.ty)
  (hc:∀ (k:Nat) (v:Value),c[k]?=some v→∃ u,w.cell? ⟨p.blk,p.shift + k,none⟩=some u∧VRel ρ σ.n v u) :
  View w (ρ.put σ.n (some p)) (σ.push (.cells c p.esz false p.tight))∧More ρ σ (ρ.put σ.n (some p)) (σ.push (.cells c p.esz false p.tight)):=by
 have hpl:∀ i,i < σ.n→∀ q,(ρ.put σ.n (some p)) i=some q→ρ i=some q:=fun i hi q hq=>by
  unfold Plc.put at hq; rwa [if_neg (by omega)] at hq
 have hro:(σ.push (.cells c p.esz false p.tight)).RO:=fun i b hi=>by
  by_cases e:i=σ.n
  ·subst e; rw [Heap.get_push_self] at hi; obtain rfl:=Option.some.inj hi; rfl
  ·rw [Heap.get_push_ne _ _ e] at hi; exact h.ro i b hi
 refine ⟨⟨⟨⟨?_,?_,?_,?_⟩,fun g cs hg=>⟨(h.rel.tab g cs hg).1,fun ⟨i,_,b,_,hi,hw,_⟩=>by rw [hro i b hi] at hw; cases hw⟩⟩,hro⟩,⟨by simp,hpl,fun i hi=>Heap.get_push_lt _ _ hi⟩⟩
 ·intro i b hi
  by_cases hin:i=σ.n
  ·subst hin
   rw [Heap.get_push_self] at hi
   obtain rfl:=Option.some.inj hi
   refine ⟨p,by simp [Plc.put],rfl,rfl,hl,⟨C,e,f,hb,hs,ht⟩,fun k v hk=>?_,fun h=>by cases h⟩
   obtain ⟨u,hu,hv⟩:=hc k v hk
   exact ⟨u,hu,hv.mono (by simp) hpl⟩
  ·rw [Heap.get_push_ne _ _ hin] at hi
   obtain ⟨q,hq,hB⟩:=h.rel.live i b hi
   exact ⟨q,by simp [Plc.put,hin,hq],hB.mono (by simp) hpl rfl⟩
 ·intro i hi
  by_cases hin:i=σ.n
  ·subst hin; rw [Heap.get_push_self] at hi; cases hi
  ·rw [Heap.get_push_ne _ _ hin] at hi
   simp [Plc.put,hin,h.rel.dead i hi]
 ·intro i q hq
  by_cases hin:i=σ.n
  ·subst hin
   simp [Plc.put] at hq
   subst hq
   exact (Array.getElem?_eq_some_iff.1 hb).1
  ·simp [Plc.put,hin] at hq
   exact h.rel.lt i q hq
 ·intro i j q r b _ _ _ hb' hw _
  rw [hro i b hb'] at hw; cases hw
theorem rowAt_off {P:Program} {fits:TypeId→Bool} {d:Nat} {e:TypeId} {count off n:Nat} (h:rowAt P fits d e count off n=true):off ≤ count * P.cellsOf e:=by
 cases d with
 | zero=>cases h
 | succ d =>
  unfold rowAt at h
  by_cases hs:P.cellsOf e=0
  ·simp [hs] at h
  ·have hpos:0 < P.cellsOf e:=Nat.pos_of_ne_zero hs
   simp only [hs,if_false,Bool.or_eq_true,Bool.and_eq_true,beq_iff_eq,decide_eq_true_eq] at h
   have hd:=Nat.div_add_mod off (P.cellsOf e)
   have hm:=Nat.mod_lt off hpos
   rcases h with ⟨⟨h1,h2⟩,_⟩ | ⟨h1,_⟩
   ·have:P.cellsOf e * (off / P.cellsOf e) ≤ P.cellsOf e * count:=Nat.mul_le_mul_left _ (by omega)
    rw [Nat.mul_comm count]; omega
   ·have:P.cellsOf e * (off / P.cellsOf e + 1) ≤ P.cellsOf e * count:=Nat.mul_le_mul_left _ (by omega)
    rw [Nat.mul_add] at this
    rw [Nat.mul_comm count]; omega
theorem liesAt_off {P:Program}:∀ {d:Nat} {e:TypeId} {count off:Nat} {u:TypeId} {n:Nat},liesAt P d e count off u n=true→off ≤ count * P.cellsOf e
 | 0,_,_,_,_,_,h=>by cases h
 | d + 1,e,count,off,u,n,h=>by
  unfold liesAt at h
  rw [Bool.or_eq_true] at h
  rcases h with h | h
  ·exact rowAt_off h
  ·split at h
   ·exact liesAt_off h
   ·cases h
theorem has_block {P:Program} {w:World} {r:Reach} {base:Nat} {a:Addr} {e:TypeId} {n:Nat} (h:w.has P r base a e n):∃ C row f,w.heap[a.block]?=some (.cells C row f)∧a.off ≤ C.size∧a.spot=none:=by
 obtain ⟨_,hs,row,cells,hsh,hl⟩:=h
 unfold World.shape? at hsh
 split at hsh
 ·rename_i C e' f hb
  obtain ⟨rfl,rfl⟩:=(by simpa using hsh:e'=row∧C.size=cells)
  exact ⟨C,e',f,hb,Nat.le_trans (liesAt_off hl) (Nat.div_mul_le_self _ _),hs⟩
 ·cases hsh
theorem okWide_slice {P:Program} {w:World} {r:Reach} {base:Nat} {t e:TypeId} {v:Value} (ht:P.underlying t=some (.slice e)) (h:Cell.okWide P w r base t v) :
  v=.slice none 0 0 ∨ ∃ a len cap,v=.slice (some a) len cap∧w.has P r base a e cap:=by
 unfold Cell.okWide at h
 rw [ht] at h
 have h':Cell.ok P w r base t v:=by
  split at h <;> first | exact h | simp_all
 unfold Cell.ok at h'
 rw [ht] at h'
 split at h' <;> first | exact .inl rfl | (cases h'; done) | skip
 all_goals first | (rename_i h1 h2; simp_all; done) | skip
 all_goals first | (simp_all; exact ⟨_,_,_,⟨rfl,rfl,rfl⟩,h'.2.2⟩) | (simp_all)
theorem int_wf {k:IntKind} {x:Int} (h:(Lit.int k x).wf=true):k.min ≤ x∧x ≤ k.max:=by
 simpa [Lit.wf] using h
theorem View.calls {P:Program} {f:FuncId} {w:World} {ρ:Plc} {σ:Heap} (h:View w ρ σ) {args:List Value} {cargs:Array Value} (hl:LRel ρ σ.n args cargs.toList) (hc:VCallsTo P f args σ fun v _=>v=.bool true) :
  Calls P f cargs w fun e w'=>e=.returned (.bool true)∧Below w.heap.size w w':=by
 refine (hc ρ w cargs h.rel hl).mono fun e w' ⟨c,he,v,ρ',σ',hv,hr,_,hx⟩=>?_
 subst hv
 have:c=.bool true:=by cases hr; rfl
 subst this
 exact ⟨he,hx.os,hx.tape,hx.output,hx.size,fun B hB=>hx.keep B hB fun ⟨i,p,b,_,hi,hw,_⟩=>by rw [h.ro i b hi] at hw; cases hw⟩
theorem trodAll_stays {H:Type} {enc:TypeId × Value→H} {P:Program} (hl:laidOutB P=true) {W W':World} {sp:Nat→Bool} (hb:Below W.heap.size W W') :
  ∀ {ts:List TypeId} {vs:List Value} {ds:List (DataW H)} {ps:List MemPlace},(∀ t ∈ ts,P.readableRec t=true∧t < P.types.size)→DataW.TrodAll enc P W 0 (fun _=>true) true ts vs ds ps→(∀ p ∈ ps,p.block < W.heap.size)→(∀ p ∈ ps,sp p.block=true) →
   DataW.TrodAll enc P W' 0 sp true ts vs ds ps
 | [],vs,ds,ps,_,h,_,_=>by
  obtain ⟨rfl,rfl,rfl⟩:=trodAll_nil h
  rfl
 | t :: ts,vs,ds,ps,ht,h,hlt,hs=>by
  obtain ⟨v,vs',d,ds',p,q,rfl,rfl,rfl,h1,h2⟩:=trodAll_cons h
  obtain ⟨r1,r2⟩:=ht t (by simp)
  exact ⟨p,q,WideElems.Trod_stays hl r1 r2 h1 (fun x hx=>hb.same (hlt x (by simp [hx]))) (fun x hx=>hs x (by simp [hx])),
   trodAll_stays hl hb (fun t ht'=>ht t (by simp [ht'])) h2 (fun x hx=>hlt x (by simp [hx])) (fun x hx=>hs x (by simp [hx])),rfl⟩
theorem post_true {H:Type} {enc:TypeId × Value→H} {P:Program} {f:Func} {s:ChangeSpec} {apart fresh handsOn again:Bool} {W W':World} {args:Array Value} {ds gs:List (DataW H)} {before:List MemPlace} {tb:TypeId}
  (hl:laidOutB P=true) (hp:f.params.toList.all (fun t=>P.readableRec t && decide (t < P.types.size))=true) (hvars:s.vars=[]) (hr:f.resultTypes=#[tb]) (hb1:P.underlying tb=some .bool) (hs:s.fn H ds={ results:=[.lit (.bool true)],args:=ds })
  (hW:DataW.Whole enc P f.params.toList s.vars apart W args.toList ds gs before) (hb:Below W.heap.size W W'):s.post enc P f apart fresh handsOn again W args (.bool true) W':=by
 have hlt:∀ p ∈ before,p.block < W.heap.size:=fun p hp=>hW.lt p hp
 have hW0:=hW
 obtain ⟨p,q,hA,hV,rfl,hz,hn⟩:=hW
 rw [hvars] at hV
 obtain ⟨rfl,rfl⟩:=trodVars_none hV
 have hp':∀ t ∈ f.params.toList,P.readableRec t=true∧t < P.types.size:=fun t ht=>by
  have:=List.all_eq_true.1 hp t ht
  simpa using this
 have hsg:s.fn H (ds++[])={ results:=[.lit (.bool true)],args:=ds }:=by rw [List.append_nil]; exact hs
 have hres:∀ (b:Nat) (sp:Nat→Bool) (hd:Bool),DataW.TrodAll enc P W' b sp hd f.resultTypes.toList ((Value.bool true).resultList f.resultTypes.size) (s.fn H (ds++[])).results []:=fun b sp hd=>by
  rw [hsg,hr]
  exact trodAll_mk1 (shut_bool hb1 _)
 have hargs:∀ sp:Nat→Bool,(∀ x ∈ p++[],sp x.block=true)→DataW.TrodAll enc P W' 0 sp true f.params.toList args.toList (s.fn H (ds++[])).args p:=fun sp hsp=>by
  rw [hsg]
  exact trodAll_stays hl hb hp' hA (fun x hx=>hlt x (by simp [hx])) (fun x hx=>hsp x (by simp [hx]))
 have hvs:∀ sp:Nat→Bool,DataW.TrodVars enc P W' sp s.vars (s.fn H (ds++[])).vars []:=fun sp=>by
  rw [hsg,hvars]; rfl
 have hold:∀ x ∈ p++[],(fun b=>decide (b < W.heap.size)) x.block=true:=fun x hx=>by simpa using hlt x hx
 refine ⟨ds,[],p++[],[],p,[],hW0,hres _ _ _,hargs _ hold,hvs _,World.keptBut_mono (fun x hx=>⟨hx,?_⟩) (hb.frame (· ∈ p++[])),fun _=>?_⟩
 ·exact .inr (by simpa using hx)
 ·refine ⟨ok_one hr rfl (okWide_bool_mk hb1 _),_,_,([]++p)++[],⟨[]++p,[],trodAll_append (hargs _ (fun _ _=>rfl)) (hres _ _ _),hvs _,rfl,?_,?_⟩,?_⟩
  ·intro b off hx
   have hin:MemPlace.cell b off ∈ p++[]:=by simpa using hx
   rw [hb.frozen (hlt _ hin)]
   exact hz b off hin
  ·intro ha
   simpa using hn ha
  ·intro x hx _
   simpa using hx
end Go.V
namespace Go.V
open Go Go.ChangeShapes Go.WideShapes Go.RowKit Go.Deep Go.Joins
def KFs (T:Kind→TypeId→Bool) (sz:TypeId→Nat):Kind→List (TypeId × Nat)→Nat→Bool
 | _,[],_=>false
 | k,[p],off=>p.2 == off && (sz p.1 == k.size && T k p.1)
 | .pair a b,p :: q :: r,off=>p.2 == off && (sz p.1 == a.size && (T a p.1 && KFs T sz b (q :: r) (off + a.size)))
 | _,_ :: _ :: _,_=>false
def KTy (P:Program):Nat→Kind→TypeId→Bool
 | 0,_,_=>false
 | n + 1,k,t=>match P.underlying t with
  | some (.struct fs)=>P.cellsOf t == k.size && KFs (KTy P n) P.cellsOf k (fs.toList.map fun f=>(f.type,f.offset)) 0
  | some (.array m e)=>P.cellsOf t == k.size && KFs (KTy P n) P.cellsOf k ((List.range m).map fun i=>(e,i * P.cellsOf e)) 0
  | some (.int ik)=>(match k with | .i k'=>decide (k'=ik) | _=>false)
  | some .bool=>(match k with | .bo=>true | _=>false)
  | some .string=>(match k with | .st=>true | _=>false)
  | some (.slice e)=>(match k with | .list k'=>P.cellsOf e == k'.size && (k'.flat && KTy P n k' e) | _=>false)
  | _=>false
def KWf:(k:Kind)→k.T→Prop
 | .i ik,x=>InK ik x
 | .bo,_=>True
 | .st,s=>s.length ≤ maxLen
 | .list k,l=>l.length ≤ maxLen∧∀ x ∈ l,KWf k x
 | .pair a b,x=>KWf a x.1∧KWf b x.2
theorem More.le {ρ ρ':Plc} {σ σ':Heap} (h:More ρ σ ρ' σ'):σ.Le σ':=⟨h.n,fun i b hb=>by rw [h.ag i (σ.lt hb)]; exact hb⟩
def ArgIs (w:World) (ρ:Plc) (σ:Heap) (k:Kind) (cs:List Value):Prop :=
 ∃ ρ' σ' vs x,View w ρ' σ'∧More ρ σ ρ' σ'∧LRel ρ' σ'.n vs cs∧KC σ' k x vs∧KWf k x
theorem ArgIs.pair {w:World} {ρ:Plc} {σ:Heap} {a b:Kind} {cs ds:List Value} (h1:ArgIs w ρ σ a cs) (h2:∀ ρ σ,View w ρ σ→ArgIs w ρ σ b ds):ArgIs w ρ σ (.pair a b) (cs++ds):=by
 obtain ⟨ρ1,σ1,vs1,x1,k1,k2,k3,k4,k5⟩:=h1
 obtain ⟨ρ2,σ2,vs2,x2,m1,m2,m3,m4,m5⟩:=h2 ρ1 σ1 k1
 exact ⟨ρ2,σ2,vs1++vs2,(x1,x2),m1,k2.trans m2,(k3.mono m2.n m2.pl).append m3,⟨vs1,vs2,rfl,k4.mono m2.le,m4⟩,k5,m5⟩
section
variable {H:Type} {enc:TypeId × Value→H} {P:Program} {w:World} {r:Reach} {base:Nat}
def okc (P:Program) (w:World) (r:Reach) (base:Nat) (ts:List TypeId) (cs:List Value):Prop:=∀ (i:Nat) v u,cs[i]?=some v→ts[i]?=some u→Cell.okWide P w r base u v
theorem KFs_len {T:Kind→TypeId→Bool} {sz:TypeId→Nat} {g:TypeId→Option (List TypeId)} (hT:∀ k t ts,T k t=true→g t=some ts→ts.length=k.size) :
  ∀ {k:Kind} {L:List (TypeId × Nat)} {off:Nat} {tss:List (List TypeId)},KFs T sz k L off=true→L.mapM (fun p=>g p.1)=some tss→tss.flatten.length=k.size
 | k,[],_,_,h,_=>by simp [KFs] at h
 | k,[p],off,tss,h,hm=>by
  simp only [KFs,Bool.and_eq_true] at h
  cases hg:g p.1 with
  | none=>simp [hg] at hm
  | some ts =>
   simp [hg] at hm
   subst hm
   simpa using hT _ _ _ h.2.2 hg
 | .pair a b,p :: q :: r,off,tss,h,hm=>by
  simp only [KFs,Bool.and_eq_true] at h
  rw [List.mapM_cons] at hm
  cases hg:g p.1 with
  | none=>simp [hg] at hm
  | some ts =>
   cases hr:(q :: r).mapM (fun p=>g p.1) with
   | none=>simp [hg,hr] at hm
   | some tr =>
    simp [hg,hr] at hm
    subst hm
    have:=KFs_len hT h.2.2.2 hr
    simp only [List.flatten_cons,List.length_append,this,hT _ _ _ h.2.2.1 hg,Kind.size]
 | .i _,_ :: _ :: _,_,_,h,_ | .bo,_ :: _ :: _,_,_,h,_ | .st,_ :: _ :: _,_,_,h,_ | .list _,_ :: _ :: _,_,_,h,_=>by cases h
theorem mapM_map {α β γ:Type} {f:α→β} {g:β→Option γ}:∀ (l:List α),(l.map f).mapM g=l.mapM (fun x=>g (f x))
 | []=>rfl
 | a :: l=>by simp only [List.map_cons,List.mapM_cons,mapM_map l]
theorem mapM_const {β:Type} {x:β} {f:Nat→Option β} (h:∀ i,f i=some x):∀ l:List Nat,l.mapM f=some (List.replicate l.length x)
 | []=>rfl
 | a :: l=>by simp [List.mapM_cons,h,mapM_const h l,List.replicate_succ]
theorem KTy_len:∀ {n:Nat} {k:Kind} {t:TypeId} {d:Nat} {ts:List TypeId},KTy P n k t=true→P.cellTypes d t=some ts→ts.length=k.size
 | 0,_,_,_,_,h,_=>by cases h
 | _ + 1,_,_,0,_,_,h=>by cases h
 | n + 1,k,t,d + 1,ts,h,ht=>by
  have ih:∀ k t ts,KTy P n k t=true→P.cellTypes d t=some ts→ts.length=k.size:=fun k t ts h1 h2=>KTy_len h1 h2
  unfold Program.cellTypes at ht
  unfold KTy at h
  cases hu:P.underlying t with
  | none=>rw [hu] at h; cases h
  | some u =>
   rw [hu] at h ht
   cases u <;> first | (cases h; done) | skip
   all_goals simp only at h ht
   ·split at h <;> first | (cases h; done) | (obtain rfl:=Option.some.inj ht; rfl)
   ·split at h <;> first | (cases h; done) | (obtain rfl:=Option.some.inj ht; rfl)
   ·split at h <;> first | (cases h; done) | (obtain rfl:=Option.some.inj ht; rfl)
   ·split at h <;> first | (cases h; done) | (obtain rfl:=Option.some.inj ht; rfl)
   ·rename_i m e
    rw [Bool.and_eq_true] at h
    cases hc:P.cellTypes d e with
    | none=>rw [hc] at ht; cases ht
    | some te =>
     rw [hc] at ht
     obtain rfl:=Option.some.inj ht
     refine KFs_len (g:=fun t=>P.cellTypes d t) ih h.2 ?_
     rw [mapM_map,mapM_const (x:=te) (fun _=>hc)]
     simp
   ·rename_i fs
    rw [Bool.and_eq_true] at h
    cases hc:fs.toList.mapM fun f=>P.cellTypes d f.type with
    | none=>rw [hc] at ht; cases ht
    | some tss =>
     rw [hc] at ht
     obtain rfl:=Option.some.inj ht
     refine KFs_len (g:=fun t=>P.cellTypes d t) ih h.2 ?_
     rw [mapM_map]; exact hc
theorem KFs_read {T:Kind→TypeId→Bool} {sz:TypeId→Nat} {Q:TypeId→List Value→Prop} {R:Kind→List Value→Prop} (hT:∀ k t cs,T k t=true→Q t cs→R k cs) (hR:∀ a b cs ds,R a cs→R b ds→R (.pair a b) (cs++ds)) (cs:List Value) :
  ∀ {k:Kind} {L:List (TypeId × Nat)} {off:Nat},KFs T sz k L off=true→(∀ p ∈ L,Q p.1 ((cs.drop p.2).take (sz p.1)))→R k ((cs.drop off).take k.size)
 | k,[],_,h,_=>by simp [KFs] at h
 | k,[p],off,h,hq=>by
  simp only [KFs,Bool.and_eq_true,beq_iff_eq] at h
  have:=hq p (by simp)
  rw [h.1,h.2.1] at this
  exact hT _ _ _ h.2.2 this
 | .pair a b,p :: q :: r,off,h,hq=>by
  simp only [KFs,Bool.and_eq_true,beq_iff_eq] at h
  have h1:=hq p (by simp)
  rw [h.1,h.2.1] at h1
  have h2:=KFs_read hT hR cs h.2.2.2 fun x hx=>hq x (List.mem_cons_of_mem _ hx)
  have e:(cs.drop off).take (Kind.pair a b).size=(cs.drop off).take a.size++(cs.drop (off + a.size)).take b.size:=by
   rw [Kind.size,List.take_add,List.drop_drop]
  rw [e]
  exact hR _ _ _ _ (hT _ _ _ h.2.2.1 h1) h2
 | .i _,_ :: _ :: _,_,h,_ | .bo,_ :: _ :: _,_,h,_ | .st,_ :: _ :: _,_,h,_ | .list _,_ :: _ :: _,_,h,_=>by cases h
def FlatIs (k:Kind) (cs:List Value):Prop:=∃ y:k.T,(∀ h,KC h k y cs)∧KWf k y∧∀ ρ m,LRel ρ m cs cs
theorem FlatIs.pair {a b:Kind} {cs ds:List Value} (h1:FlatIs a cs) (h2:FlatIs b ds):FlatIs (.pair a b) (cs++ds):=by
 obtain ⟨x,k1,k2,k3⟩:=h1
 obtain ⟨y,m1,m2,m3⟩:=h2
 exact ⟨(x,y),fun h=>⟨cs,ds,rfl,k1 h,m1 h⟩,⟨k2,m2⟩,fun ρ m=>(k3 ρ m).append (m3 ρ m)⟩
theorem LRel.one {ρ:Plc} {n:Nat} {v c:Value} (h:VRel ρ n v c):LRel ρ n [v] [c]:=.cons h (.nil _ _)
theorem range_mem_get {fs:Array Field} {f:Field} (h:f ∈ fs.toList):∃ i:Nat,fs[i]?=some f:=by
 obtain ⟨i,hi,rfl⟩:=List.mem_iff_getElem.1 h
 exact ⟨i,by simp at hi; simp [hi]⟩
theorem KTy_flat {sp:Nat→Bool} {held:Bool}:∀ {n:Nat} {k:Kind} {t:TypeId} {fuel:Nat} {cs:List Value} {x:DataW H × List MemPlace},KTy P n k t=true→k.flat=true→DataW.trod enc P w base sp held fuel t cs=some x→FlatIs k cs
 | 0,_,_,_,_,_,h,_,_=>by cases h
 | n + 1,k,t,fuel,cs,x,h,hf,hx=>by
  unfold KTy at h
  cases hu:P.underlying t with
  | none=>rw [hu] at h; cases h
  | some u =>
   rw [hu] at h
   have hR:∀ a b cs ds,((a.flat=true→FlatIs a cs)∧True)→((b.flat=true→FlatIs b ds)∧True)→(((Kind.pair a b).flat=true→FlatIs (.pair a b) (cs++ds))∧True):=fun a b cs ds h1 h2=>⟨fun hf=>by
    simp only [Kind.flat,Bool.and_eq_true] at hf
    exact (h1.1 hf.1).pair (h2.1 hf.2),trivial⟩
   have hT:∀ k t cs,KTy P n k t=true→(∃ fuel x,DataW.trod enc P w base sp held fuel t cs=some x)→((k.flat=true→FlatIs k cs)∧True):=fun k t cs h1 ⟨fuel,x,h2⟩=>⟨fun hf=>KTy_flat h1 hf h2,trivial⟩
   cases u <;> first | (cases h; done) | skip
   all_goals simp only at h
   ·split at h <;> first | (cases h; done) | skip
    obtain ⟨b,rfl,_⟩:=DataW.trod_bool hu hx
    exact ⟨b,fun _=>rfl,trivial,fun _ _=>.one (.bool _)⟩
   ·split at h <;> first | (cases h; done) | skip
    obtain rfl:=of_decide_eq_true h
    obtain ⟨z,rfl,_,hw⟩:=DataW.trod_int hu hx
    exact ⟨z,fun _=>rfl,int_wf hw,fun _ _=>.one (.int _ _)⟩
   ·split at h <;> first | (cases h; done) | skip
    obtain ⟨s,rfl,_,hs⟩:=DataW.trod_string hu hx
    exact ⟨s.data.toList,fun _=>rfl,hs,fun _ _=>.one (.string _)⟩
   ·split at h <;> first | (cases h; done) | (cases hf; done)
   ·rename_i m e
    simp only [Bool.and_eq_true,beq_iff_eq] at h
    obtain ⟨xs,m',_,_,hl,hxl,hx⟩:=DataW.trod_array hu hx
    have:=(KFs_read (R:=fun k cs=>(k.flat=true→FlatIs k cs)∧True) hT hR cs h.2 fun p hp=>by
     simp only [List.mem_map,List.mem_range] at hp
     obtain ⟨i,hi,rfl⟩:=hp
     have:=hx i hi
     rw [List.getElem?_eq_getElem (by omega)] at this
     exact ⟨_,_,this⟩).1 hf
    rwa [List.drop_zero,List.take_of_length_le (by omega)] at this
   ·rename_i fs
    simp only [Bool.and_eq_true,beq_iff_eq] at h
    obtain ⟨xs,m',_,_,hl,hxl,hx⟩:=DataW.trod_struct hu hx
    have:=(KFs_read (R:=fun k cs=>(k.flat=true→FlatIs k cs)∧True) hT hR cs h.2 fun p hp=>by
     simp only [List.mem_map] at hp
     obtain ⟨f,hf',rfl⟩:=hp
     obtain ⟨i,hi⟩:=range_mem_get hf'
     have:=hx i f hi
     have hil:i < fs.size:=(Array.getElem?_eq_some_iff.1 hi).1
     rw [List.getElem?_eq_getElem (by omega)] at this
     exact ⟨_,_,this⟩).1 hf
    rwa [List.drop_zero,List.take_of_length_le (by omega)] at this
theorem Rows.range {α:Type} {R:α→List Value→Prop} {n:Nat} {c:List Value} {x:Nat→α}:∀ (m:Nat),(∀ i,i < m→R (x i) ((c.drop (i * n)).take n))→Rows R ((List.range m).map x) (c.take (m * n))
 | 0,_=>by simp; exact .nil
 | m + 1,h=>by
  have e:c.take ((m + 1) * n)=c.take (m * n)++(c.drop (m * n)).take n:=by rw [Nat.add_mul,Nat.one_mul,List.take_add]
  rw [List.range_succ,List.map_append,e]
  exact (Rows.range m fun i hi=>h i (by omega)).append (by simpa using Rows.cons (h m (by omega)) .nil)
theorem choose_below {α:Type} [Inhabited α] {m:Nat} {p:Nat→α→Prop} (h:∀ i,i < m→∃ x,p i x):∃ f:Nat→α,∀ i,i < m→p i (f i) :=
 ⟨fun i=>if hi:i < m then (h i hi).choose else default,fun i hi=>by simp only [hi,dif_pos]; exact (h i hi).choose_spec⟩
instance KInh (k:Kind):Inhabited k.T:=⟨k.dflt⟩
theorem View.list {ρ:Plc} {σ:Heap} (h:View w ρ σ) {n:Nat} {k:Kind} {t e:TypeId} {fuel:Nat} {cs:List Value} {x:DataW H × List MemPlace} (hu:P.underlying t=some (.slice e)) (hs:P.cellsOf e=k.size) (hf:k.flat=true) (hk:KTy P n k e=true)
  (hx:DataW.trod enc P w 0 (fun _=>true) true fuel t cs=some x) (hok:okc P w r base [t] cs):ArgIs w ρ σ (.list k) cs:=by
 rcases open_slice hu hx with ⟨rfl,_⟩ | ⟨a,len,cap,m,fu,D,Pl,rfl,hb,hl,hm,hmm,_,hel⟩
 ·exact ⟨ρ,σ,[.slice none 0 0],[],h,More.refl _ _,.one .nilSl,⟨_,rfl,.inl ⟨rfl,rfl⟩⟩,by simp [maxLen],fun _ hx=>by cases hx⟩
 simp only [if_true] at hmm
 subst hmm
 rw [hs] at hel
 have hhas:w.has P r base a e m:=by
  rcases okWide_slice hu (hok 0 _ t rfl rfl) with hh | ⟨a',len',cap',hh,h2⟩
  ·cases hh
  ·cases hh; exact h2
 obtain ⟨C,row,f,hblk,hoff,hsp⟩:=has_block hhas
 obtain ⟨blk,off,spot⟩:=a
 simp only at hblk hoff hsp
 subst hsp
 have hadd:∀ i,(⟨blk,off,none⟩:Addr).add i=⟨blk,off + i,none⟩:=fun i=>by unfold Addr.add; split <;> simp_all
 obtain ⟨X,hX⟩:=choose_below (α:=k.T × List Value) (m:=m) (p:=fun i p=>p.2.length=k.size∧(∀ j,j < k.size→w.cell? ⟨blk,off + i * k.size + j,none⟩=p.2[j]?)∧(∀ h,KC h k p.1 p.2)∧KWf k p.1∧∀ ρ m,LRel ρ m p.2 p.2) fun i hi=>by
  obtain ⟨cs',h1,h2⟩:=hel i hi
  obtain ⟨_,k1,k2⟩:=World.cells?_some h1
  obtain ⟨y,m1,m2,m3⟩:=KTy_flat hk hf h2
  refine ⟨(y,cs'),k1,fun j hj=>?_,m1,m2,m3⟩
  have:=k2 j hj
  rw [hadd] at this
  have e2:(⟨blk,off + i * k.size,none⟩:Addr).add j=⟨blk,off + i * k.size + j,none⟩:=by unfold Addr.add; split <;> simp_all
  rw [e2] at this
  exact this
 have hpos:=k.size_pos
 let c:List Value:=(List.range (m * k.size)).map fun j=>((X (j / k.size)).2[j % k.size]?).getD undef
 have hcl:c.length=m * k.size:=by simp [c]
 have hdiv:∀ j,j < m * k.size→j / k.size < m:=fun j hj=>Nat.div_lt_of_lt_mul (by rw [Nat.mul_comm]; exact hj)
 have hcell:∀ j,j < m * k.size→∃ v,c[j]?=some v∧w.cell? ⟨blk,off + j,none⟩=some v∧∀ ρ m,VRel ρ m v v:=fun j hj=>by
  have h1:=hX (j / k.size) (hdiv j hj)
  have hjm:j % k.size < k.size:=Nat.mod_lt _ hpos
  have h2:=h1.2.1 _ hjm
  have e:off + j / k.size * k.size + j % k.size=off + j:=by rw [Nat.add_assoc,Nat.div_add_mod']
  rw [e] at h2
  have h3:j % k.size < (X (j / k.size)).2.length:=by rw [h1.1]; exact hjm
  refine ⟨(X (j / k.size)).2[j % k.size],?_,?_,fun ρ m=>(h1.2.2.2.2 ρ m).2 _ _ _ (List.getElem?_eq_getElem h3) (List.getElem?_eq_getElem h3)⟩
  ·simp only [c,List.getElem?_map,List.getElem?_range hj,Option.map_some,List.getElem?_eq_getElem h3,Option.getD_some]
  ·rw [h2,List.getElem?_eq_getElem h3]
 have helt:∀ i,i < m→(c.drop (i * k.size)).take k.size=(X i).2:=fun i hi=>by
  have h1:=hX i hi
  have hle:i * k.size + k.size ≤ m * k.size:=by
   have:(i + 1) * k.size ≤ m * k.size:=Nat.mul_le_mul_right _ hi
   rw [Nat.add_mul] at this; omega
  apply List.ext_getElem?
  intro j
  by_cases hj:j < k.size
  ·rw [List.getElem?_take_of_lt hj,List.getElem?_drop]
   have hj2:i * k.size + j < m * k.size:=by omega
   have e1:(i * k.size + j) / k.size=i:=by rw [Nat.mul_comm,Nat.mul_add_div hpos,Nat.div_eq_of_lt hj,Nat.add_zero]
   have e2:(i * k.size + j) % k.size=j:=by rw [Nat.mul_comm,Nat.mul_add_mod,Nat.mod_eq_of_lt hj]
   have h3:j < (X i).2.length:=by rw [h1.1]; exact hj
   simp only [c,List.getElem?_map,List.getElem?_range hj2,Option.map_some,e1,e2,List.getElem?_eq_getElem h3,Option.getD_some]
  ·rw [List.getElem?_eq_none (by simp; omega),List.getElem?_eq_none (by omega)]
 have hsz:off + m * k.size ≤ C.size:=by
  rcases Nat.eq_zero_or_pos (m * k.size) with h0 | h0
  ·omega
  ·obtain ⟨v,_,h2,_⟩:=hcell (m * k.size - 1) (by omega)
   unfold World.cell? at h2
   simp only [hblk] at h2
   have:=(Array.getElem?_eq_some_iff.1 (by simpa using h2)).1
   omega
 obtain ⟨hv,hmo⟩:=h.add ⟨blk,off,m * k.size,⟨k.size,row⟩,false⟩ c hblk hsz (by simp [hcl]) rfl (fun j v hj=>by
  have hjl:j < m * k.size:=by rw [←hcl]; exact (List.getElem?_eq_some_iff.1 hj).1
  obtain ⟨v',h1,h2,h3⟩:=hcell j hjl
  obtain rfl:=Option.some.inj (hj.symm.trans h1)
  exact ⟨v,h2,h3 _ _⟩)
 have hlen:((List.range len).map fun i=>(X i).1).length=len:=by simp
 refine ⟨_,_,[.slice (some ⟨σ.n,0,none⟩) len m],(List.range len).map fun i=>(X i).1,hv,hmo,.one ?_,⟨_,rfl,.inr ⟨σ.n,0,m,c,⟨k.size,row⟩,false,false,by rw [hlen],by rw [hlen]; exact hl,Heap.get_push_self _ _,rfl,?_,?_⟩⟩,?_,fun y hy=>?_⟩
 ·refine .sl _ _ _ _ _ _ (by simp) fun p hp=>?_
  simp [Plc.put] at hp
  subst hp
  exact ⟨Nat.le_refl _,(fun h=>by cases h),0,by simp,by simp,.inl rfl⟩
 ·rw [hlen,hcl,Nat.zero_add]; exact Nat.mul_le_mul_right _ hl
 ·rw [hlen,List.drop_zero]
  refine Rows.range len fun i hi=>?_
  rw [helt i (by omega)]
  exact (hX i (by omega)).2.2.1 _
 ·rw [hlen]; exact Nat.le_trans hl hm
 ·obtain ⟨i,hi,rfl⟩:=List.mem_map.1 hy
  exact (hX i (by have:=List.mem_range.1 hi; omega)).2.2.2.1
def Kind.lev1:Kind→Bool
 | .list k=>k.flat
 | .pair a b=>a.lev1 && b.lev1
 | _=>true
theorem okc_part {ts:List TypeId} {cs:List Value} (h:okc P w r base ts cs) (o n:Nat):okc P w r base ((ts.drop o).take n) ((cs.drop o).take n):=fun i v u h1 h2=>by
 have hi:i < n:=by
  have:=(List.getElem?_eq_some_iff.1 h1).1
  rw [List.length_take] at this; omega
 rw [List.getElem?_take_of_lt hi,List.getElem?_drop] at h1 h2
 exact h _ v u h1 h2
theorem KFs_types {T:Kind→TypeId→Bool} {sz:TypeId→Nat} {g:TypeId→Option (List TypeId)} (hT:∀ k t ts,T k t=true→g t=some ts→ts.length=k.size) :
  ∀ {k:Kind} {L:List (TypeId × Nat)} {off:Nat} {tss:List (List TypeId)},KFs T sz k L off=true→L.mapM (fun p=>g p.1)=some tss→∀ p ∈ L,off ≤ p.2∧g p.1=some ((tss.flatten.drop (p.2 - off)).take (sz p.1))
 | k,[],_,_,h,_=>by simp [KFs] at h
 | k,[p],off,tss,h,hm=>by
  simp only [KFs,Bool.and_eq_true,beq_iff_eq] at h
  intro p' hp
  obtain rfl:=List.mem_singleton.1 hp
  cases hg:g p'.1 with
  | none=>simp [hg] at hm
  | some ts =>
   simp [hg] at hm
   subst hm
   refine ⟨by omega,?_⟩
   rw [h.1,Nat.sub_self,List.drop_zero,h.2.1,List.take_of_length_le]
   ·simp
   ·simp [hT _ _ _ h.2.2 hg]
 | .pair a b,p :: q :: r,off,tss,h,hm=>by
  simp only [KFs,Bool.and_eq_true,beq_iff_eq] at h
  rw [List.mapM_cons] at hm
  intro p' hp
  cases hg:g p.1 with
  | none=>simp [hg] at hm
  | some ts =>
   cases hr:(q :: r).mapM (fun p=>g p.1) with
   | none=>simp [hg,hr] at hm
   | some tr =>
    simp [hg,hr] at hm
    subst hm
    have hlen:=hT _ _ _ h.2.2.1 hg
    rcases List.mem_cons.1 hp with rfl | hp
    ·refine ⟨by omega,?_⟩
     rw [hg,h.1,Nat.sub_self,List.drop_zero,h.2.1,List.flatten_cons,List.take_append,←hlen,Nat.sub_self,List.take_zero,List.append_nil,List.take_length]
    ·obtain ⟨h1,h2⟩:=KFs_types hT h.2.2.2 hr p' hp
     refine ⟨by omega,?_⟩
     have e1:ts.drop (p'.2 - off)=[]:=List.drop_eq_nil_of_le (by omega)
     have e2:p'.2 - off - a.size=p'.2 - (off + a.size):=by omega
     rw [h2,List.flatten_cons,List.drop_append,hlen,e1,e2,List.nil_append]
 | .i _,_ :: _ :: _,_,_,h,_ | .bo,_ :: _ :: _,_,_,h,_ | .st,_ :: _ :: _,_,_,h,_ | .list _,_ :: _ :: _,_,_,h,_=>by cases h
theorem KTy_read:∀ {n:Nat} {k:Kind} {t:TypeId} {d:Nat} {ts:List TypeId} {fuel:Nat} {cs:List Value} {x:DataW H × List MemPlace},KTy P n k t=true→k.lev1=true→P.cellTypes d t=some ts→okc P w r base ts cs→DataW.trod enc P w 0 (fun _=>true) true fuel t cs=some x→∀ ρ σ,View w ρ σ→ArgIs w ρ σ k cs
 | 0,_,_,_,_,_,_,_,h,_,_,_,_=>by cases h
 | _ + 1,_,_,0,_,_,_,_,_,_,h,_,_=>by cases h
 | n + 1,k,t,d + 1,ts,fuel,cs,x,h,hf,hts,hok,hx=>by
  intro ρ σ hv
  by_cases hflat:k.flat=true
  ·obtain ⟨y,h1,h2,h3⟩:=KTy_flat h hflat hx
   exact ⟨ρ,σ,cs,y,hv,More.refl _ _,h3 _ _,h1 _,h2⟩
  unfold KTy at h
  cases hu:P.underlying t with
  | none=>rw [hu] at h; cases h
  | some u =>
   rw [hu] at h
   let Q:TypeId→List Value→Prop:=fun t cs=>(∃ fuel x,DataW.trod enc P w 0 (fun _=>true) true fuel t cs=some x)∧∃ ts,P.cellTypes d t=some ts∧okc P w r base ts cs
   let R:Kind→List Value→Prop:=fun k cs=>k.lev1=true→∀ ρ σ,View w ρ σ→ArgIs w ρ σ k cs
   have hR:∀ a b cs ds,R a cs→R b ds→R (.pair a b) (cs++ds):=fun a b cs ds h1 h2 hl ρ σ hv=>by
    simp only [Kind.lev1,Bool.and_eq_true] at hl
    exact (h1 hl.1 ρ σ hv).pair fun ρ σ hv=>h2 hl.2 ρ σ hv
   have hT:∀ k t cs,KTy P n k t=true→Q t cs→R k cs:=fun k t cs h1 ⟨⟨fuel,x,h2⟩,ts,h3,h4⟩ hl=>KTy_read h1 hl h3 h4 h2
   have hlen:∀ k t ts,KTy P n k t=true→P.cellTypes d t=some ts→ts.length=k.size:=fun k t ts h1 h2=>KTy_len h1 h2
   unfold Program.cellTypes at hts
   rw [hu] at hts
   cases u <;> first | (cases h; done) | skip
   all_goals simp only at h
   ·split at h <;> first | (cases h; done) | (exact absurd rfl hflat)
   ·split at h <;> first | (cases h; done) | (exact absurd rfl hflat)
   ·split at h <;> first | (cases h; done) | (exact absurd rfl hflat)
   ·rename_i e
    split at h <;> first | (cases h; done) | skip
    simp only [Bool.and_eq_true,beq_iff_eq] at h
    simp only [Option.some.injEq] at hts
    subst hts
    exact hv.list hu h.1 h.2.1 h.2.2 hx hok
   ·rename_i m e
    simp only [Bool.and_eq_true,beq_iff_eq] at h
    obtain ⟨xs,m',_,_,hl,hxl,hx⟩:=DataW.trod_array hu hx
    simp only at hts
    cases hc:P.cellTypes d e with
    | none=>rw [hc] at hts; cases hts
    | some te =>
     rw [hc] at hts
     obtain rfl:=Option.some.inj hts
     have htm:((List.range m).map fun i=>(e,i * P.cellsOf e)).mapM (fun p:TypeId × Nat=>P.cellTypes d p.1)=some (List.replicate m te):=by
      rw [mapM_map,mapM_const (x:=te) (fun _=>hc)]; simp
     have:=KFs_read (Q:=Q) (R:=R) hT hR cs h.2 (fun p hp=>by
      have hty:=KFs_types (g:=fun t=>P.cellTypes d t) hlen h.2 htm p hp
      simp only [List.mem_map,List.mem_range] at hp
      obtain ⟨i,hi,rfl⟩:=hp
      have:=hx i hi
      rw [List.getElem?_eq_getElem (by omega)] at this
      exact ⟨⟨_,_,this⟩,_,hty.2,okc_part hok _ _⟩) hf ρ σ hv
     rwa [List.drop_zero,List.take_of_length_le (by omega)] at this
   ·rename_i fs
    simp only [Bool.and_eq_true,beq_iff_eq] at h
    obtain ⟨xs,m',_,_,hl,hxl,hx⟩:=DataW.trod_struct hu hx
    simp only at hts
    cases hc:fs.toList.mapM fun f=>P.cellTypes d f.type with
    | none=>rw [hc] at hts; cases hts
    | some tss =>
     rw [hc] at hts
     obtain rfl:=Option.some.inj hts
     have htm:(fs.toList.map fun f=>(f.type,f.offset)).mapM (fun p:TypeId × Nat=>P.cellTypes d p.1)=some tss:=by
      rw [mapM_map]; exact hc
     have:=KFs_read (Q:=Q) (R:=R) hT hR cs h.2 (fun p hp=>by
      have hty:=KFs_types (g:=fun t=>P.cellTypes d t) hlen h.2 htm p hp
      simp only [List.mem_map] at hp
      obtain ⟨f,hf',rfl⟩:=hp
      obtain ⟨i,hi⟩:=range_mem_get hf'
      have:=hx i f hi
      have hil:i < fs.size:=(Array.getElem?_eq_some_iff.1 hi).1
      rw [List.getElem?_eq_getElem (by omega)] at this
      exact ⟨⟨_,_,this⟩,_,hty.2,okc_part hok _ _⟩) hf ρ σ hv
     rwa [List.drop_zero,List.take_of_length_le (by omega)] at this
def isAgg (P:Program) (t:TypeId):Bool:=match P.underlying t with
 | some (.struct _)=>true
 | some (.array _ _)=>true
 | _=>false
theorem View.arg {ρ:Plc} {σ:Heap} (h:View w ρ σ) {n:Nat} {k:Kind} {t:TypeId} {v:Value} {d:DataW H} {p:List MemPlace} (hk:KTy P n k t=true) (hl:k.lev1=true) (ha:isAgg P t=!k.one) (hok:Value.okWide P w r base t v) (hd:DataW.Trod enc P w 0 (fun _=>true) true t v d p) :
  ∃ ρ' σ' vv x,View w ρ' σ'∧More ρ σ ρ' σ'∧VRel ρ' σ'.n vv v∧KV σ' k x vv∧KWf k x:=by
 obtain ⟨fuel,hd⟩:=hd
 by_cases hagg:isAgg P t=true
 ·have hone:k.one=false:=by rw [hagg] at ha; simpa using ha.symm
  have:∃ cs,v=.agg cs∧cs.size=P.cellsOf t∧Row.okWide P w r base t cs:=by
   unfold isAgg at hagg
   unfold Value.okWide at hok
   split at hagg <;> first | (cases hagg; done) | skip
   ·rename_i hu; rw [hu] at hok; exact hok
   ·rename_i hu; rw [hu] at hok; exact hok
  obtain ⟨cs,rfl,hsz,ts,hts,_,hcells⟩:=this
  have hlen:=KTy_len hk hts
  have hcs:P.cellsOf t=k.size:=by
   unfold isAgg at hagg
   cases n with
   | zero=>cases hk
   | succ n =>
    unfold KTy at hk
    split at hagg <;> first | (cases hagg; done) | skip
    all_goals
     rename_i hu
     rw [hu] at hk
     simp only [Bool.and_eq_true,beq_iff_eq] at hk
     exact hk.1
  have hokc:okc P w r base ts cs.toList:=fun i v u h1 h2=>by
   have hi:i < ts.length:=(List.getElem?_eq_some_iff.1 h2).1
   obtain ⟨u',h3,h4⟩:=hcells i v (by simpa using h1)
   rw [Nat.mod_eq_of_lt hi] at h3
   obtain rfl:=Option.some.inj (h2.symm.trans h3)
   exact h4
  obtain ⟨ρ',σ',vs,x,k1,k2,k3,k4,k5⟩:=KTy_read hk hl hts hokc (show DataW.trod enc P w 0 _ true fuel t cs.toList=_ from hd) ρ σ h
  exact ⟨ρ',σ',.agg vs.toArray,x,k1,k2,VRel.agg_of (ds:=cs.toList) k3,.inr ⟨hone,vs,rfl,k4⟩,k5⟩
 ·have hone:k.one=true:=by
   have:isAgg P t=false:=by simpa using hagg
   rw [this] at ha; simpa using ha.symm
  have hsize:=Kind.one_size hone
  have hcell:Cell.okWide P w r base t v∧v.cells.toList=[v]:=by
   have h1:isAgg P t=false:=by simpa using hagg
   unfold isAgg at h1
   have h2:Cell.okWide P w r base t v:=by
    unfold Value.okWide at hok
    split at hok
    ·rename_i hu; rw [hu] at h1; cases h1
    ·rename_i hu; rw [hu] at h1; cases h1
    ·exact hok
   refine ⟨h2,?_⟩
   cases v <;> first | rfl | skip
   all_goals
    exfalso
    cases n with
    | zero=>cases hk
    | succ n =>
     unfold KTy at hk
     unfold Cell.okWide Cell.ok at h2
     cases hu:P.underlying t with
     | none=>rw [hu] at hk; cases hk
     | some u =>
      rw [hu] at hk h2 h1
      cases u <;> first | (cases hk; done) | (cases h1; done) | (cases h2; done) | (simp at h2; done)
  have hts:P.cellTypes 1 t=some [t]:=by
   have h1:isAgg P t=false:=by simpa using hagg
   unfold isAgg at h1
   unfold Program.cellTypes
   cases n with
   | zero=>cases hk
   | succ n =>
    unfold KTy at hk
    cases hu:P.underlying t with
    | none=>rw [hu] at hk; cases hk
    | some u =>
     rw [hu] at h1
     cases u <;> first | rfl | (cases h1; done)
  rw [hcell.2] at hd
  have hokc:okc P w r base [t] [v]:=fun i v' u h1 h2=>by
   cases i with
   | zero=>cases h1; cases h2; exact hcell.1
   | succ i=>simp at h1
  obtain ⟨ρ',σ',vs,x,k1,k2,k3,k4,k5⟩:=KTy_read hk hl hts hokc hd ρ σ h
  have:vs.length=1:=by rw [KC.length k4]; exact hsize
  obtain ⟨vv,rfl⟩:=List.length_eq_one_iff.1 this
  exact ⟨ρ',σ',vv,x,k1,k2,k3.2 0 _ _ rfl rfl,.inl ⟨hone,k4⟩,k5⟩
def AWf:(ks:List Kind)→AT ks→Prop
 | [],_=>True
 | [k],x=>KWf k x
 | k :: k' :: ks,x=>KWf k x.1∧AWf (k' :: ks) x.2
def ktys (P:Program):List Kind→List TypeId→Bool
 | [],[]=>true
 | k :: ks,t :: ts=>(KTy P 8 k t && (k.lev1 && (isAgg P t == !k.one))) && ktys P ks ts
 | _,_=>false
theorem View.args:∀ {ks:List Kind} {ts:List TypeId} {vs:List Value} {ds:List (DataW H)} {ps:List MemPlace} {ρ:Plc} {σ:Heap},View w ρ σ→ktys P ks ts=true→(∀ (j:Nat) t v,ts[j]?=some t→vs[j]?=some v→Value.okWide P w r base t v)→DataW.TrodAll enc P w 0 (fun _=>true) true ts vs ds ps →
  ∃ ρ' σ' vvs x,View w ρ' σ'∧More ρ σ ρ' σ'∧LRel ρ' σ'.n vvs vs∧atVals σ' ks x vvs∧AWf ks x
 | [],[],vs,ds,ps,ρ,σ,h,_,_,hA=>by
  obtain ⟨rfl,rfl,rfl⟩:=trodAll_nil hA
  exact ⟨ρ,σ,[],(),h,More.refl _ _,.nil _ _,rfl,trivial⟩
 | [k],[t],vs,ds,ps,ρ,σ,h,hk,hv,hA=>by
  obtain ⟨v,vs',d,ds',p,q,rfl,rfl,rfl,h1,h2⟩:=trodAll_cons hA
  obtain ⟨rfl,rfl,rfl⟩:=trodAll_nil h2
  simp only [ktys,Bool.and_eq_true,beq_iff_eq] at hk
  obtain ⟨ρ',σ',vv,x,k1,k2,k3,k4,k5⟩:=h.arg hk.1.1 hk.1.2.1 hk.1.2.2 (hv 0 t v rfl rfl) h1
  exact ⟨ρ',σ',[vv],x,k1,k2,.one k3,⟨vv,rfl,k4⟩,k5⟩
 | k :: k' :: ks,t :: ts,vs,ds,ps,ρ,σ,h,hk,hv,hA=>by
  obtain ⟨v,vs',d,ds',p,q,rfl,rfl,rfl,h1,h2⟩:=trodAll_cons hA
  simp only [ktys,Bool.and_eq_true,beq_iff_eq] at hk
  obtain ⟨ρ1,σ1,vv,x,k1,k2,k3,k4,k5⟩:=h.arg hk.1.1 hk.1.2.1 hk.1.2.2 (hv 0 t v rfl rfl) h1
  obtain ⟨ρ2,σ2,vvs,y,m1,m2,m3,m4,m5⟩:=k1.args (ks:=k' :: ks) hk.2 (fun j t v h1 h2=>hv (j + 1) t v h1 h2) h2
  exact ⟨ρ2,σ2,vv :: vvs,(x,y),m1,k2.trans m2,.cons (k3.mono m2.n m2.pl) m3,⟨vv,vvs,rfl,k4.vcall m2.le,m4⟩,k5,m5⟩
 | [],_ :: _,_,_,_,_,_,_,hk,_,_ | _ :: _,[],_,_,_,_,_,_,hk,_,_ | [_],_ :: _ :: _,_,_,_,_,_,_,hk,_,_=>by simp [ktys] at hk
theorem law_calls (hT:Tabs w) {f:Nat} {sp:CSp} (hsp:OkC P f sp) (he:Enterable P f) {ks:List Kind} {ts:List TypeId} {args:Array Value} {ds:List (DataW H)} {ps:List MemPlace} (hk:ktys P ks ts=true)
  (hv:∀ (j:Nat) t v,ts[j]?=some t→args.toList[j]?=some v→Value.okWide P w r base t v) (hA:DataW.TrodAll enc P w 0 (fun _=>true) true ts args.toList ds ps)
  (hs:∀ x:AT ks,AWf ks x→∃ c,sp (fun _ _=>none) (atSVs ks x)=some (c,.val .bo true,[])∧c):Calls P f args w fun e w'=>e=.returned (.bool true)∧Below w.heap.size w w':=by
 obtain ⟨ρ,σ,vvs,x,k1,k2,k3,k4,k5⟩:=(View.emptyT w hT).args hk hv hA
 obtain ⟨c,h1,h2⟩:=hs x k5
 exact k1.calls k3 (hsp.true he (atSVs_sound k4) h1 h2)
end
end Go.V
namespace Go.V
open Go
theorem trodAll_len {H:Type} {enc:TypeId × Value→H} {P:Program} {w:World} {b:Nat} {sp:Nat→Bool} {hd:Bool}:∀ {ts:List TypeId} {vs:List Value} {ds:List (DataW H)} {ps:List MemPlace},DataW.TrodAll enc P w b sp hd ts vs ds ps→ds.length=ts.length
 | [],[],[],_,_=>rfl
 | t :: ts,v :: vs,d :: ds,ps,h=>by
  obtain ⟨p,q,_,h2,_⟩:=h
  simp [trodAll_len h2]
 | [],[],_ :: _,_,h | [],_ :: _,_,_,h | _ :: _,[],_,_,h | _ :: _,_ :: _,[],_,h=>h.elim
end Go.V
namespace Go.Proofs.Tryz
open Go Go.V
noncomputable def tabT:List (Option FEnt):=[
 none,
 none,
 some (.code c2 [] 1),
 some (.code c3 [.tmp 4] 125),
 some (.code c4 [.tmp 4] 115),
 some (.code c5 [.tmp 4] 139),
 some (.code c6 [.tmp 0] 193),
 some (.code c7 [.tmp 2] 6),
 some (.code c8 [.tmp 2] 6),
 some (.code c9 [.tmp 2] 10),
 some (.codeJ c10 [.cell 4 true 2,.tmp 5] 52),
 some (.code c11 [.tmp 4] 26),
 some (.code c12 [.tmp 4] 26),
 some (.code c13 [.tmp 2] 44),
 some (.code c14 [.tmp 6] 15),
 some (.code c15 [.cell 4 true 2] 51),
 some (.code c16 [.tmp 2] 6),
 some (.codeJ c17 [.tmp 4,.tmp 5] 23),
 some (.code c18 [.tmp 6] 41),
 some (.codeJ c19 [.cell 6 true 2,.tmp 7,.tmp 8] 37),
 some (.code c20 [.tmp 2,.tmp 3,.tmp 4,.tmp 5,.tmp 6] 105),
 some (.codeJ c21 [.cell 8 true 2,.tmp 9] 103),
 some (.code c22 [.cell 10 true 2,.tmp 11] 97),
 some (.code c23 [.tmp 0] 10),
 some (.codeJ c24 [.tmp 4,.tmp 5] 15),
 some (.codeJ c25 [.tmp 4,.tmp 5] 18),
 some (.codeJ c26 [.tmp 6,.tmp 7] 29),
 some (.codeJ c27 [.tmp 4,.tmp 5,.tmp 6] 73),
 some (.code c28 [.tmp 2] 9),
 some (.code c29 [.cell 4 true 2] 8),
 some (.code c30 [.tmp 4] 9),
 some (.code c31 [.tmp 2] 6),
 some (.code c32 [.tmp 2] 32),
 some (.code c33 [.tmp 6] 11),
 some (.code c34 [.cell 2 true 2] 61),
 some (.code c35 [.tmp 4] 20),
 some (.code c36 [.tmp 4] 20),
 some (.code c37 [.cell 6 true 3,.tmp 7] 33),
 some (.code c38 [.tmp 4] 26),
 some (.code c39 [.tmp 4] 17),
 some (.codeJ c40 [.tmp 2,.tmp 3] 41),
 some (.code c41 [.cell 0 true 2] 2),
 some (.code c42 [.tmp 2] 4),
 some (.code c43 [.cell 6 true 2] 44),
 some (.code c44 [.cell 4 true 2] 16),
 some (.code c45 [.cell 4 true 2] 17),
 some (.code c46 [.tmp 4,.tmp 5,.tmp 6] 29),
 some (.code c47 [.cell 4 true 2,.tmp 5] 21),
 some (.code c48 [.tmp 2] 13),
 some (.codeJ c49 [.tmp 4,.tmp 5] 62),
 some (.code c50 [.tmp 4] 63),
 some (.codeJ c51 [.tmp 2] 15),
 some (.codeJ c52 [.tmp 6] 21),
 some (.code c53 [.tmp 4] 19),
 some (.code c54 [.tmp 4] 9),
 some (.code c55 [.tmp 4] 13),
 some (.code c56 [.tmp 2] 15),
 some (.code c57 [.tmp 4] 9),
 some (.code c58 [.cell 6 true 2] 44),
 some (.code c59 [] 19),
 some (.codeJ c60 [.tmp 2] 16),
 some (.code c61 [.tmp 2,.tmp 3] 64),
 some (.codeJ c62 [.tmp 4] 24),
 some (.codeJ c63 [.tmp 4] 38),
 some (.code c64 [.tmp 2] 18),
 some (.code c65 [.tmp 4] 20),
 some (.code c66 [.tmp 4] 36),
 some (.code c67 [.tmp 2] 8),
 some (.code c68 [.tmp 4] 19),
 some (.code c69 [.tmp 4] 19),
 some (.code c70 [] 9),
 some (.code c71 [.tmp 5] 36),
 some (.code c72 [] 11),
 some (.code c73 [] 14),
 some (.code c74 [.tmp 3] 11),
 some (.code c75 [.tmp 2] 6),
 some (.code c76 [.tmp 2] 14),
 some (.code c77 [.tmp 2] 14),
 some (.code c78 [] 63),
 some (.code c79 [] 134),
 some (.code c80 [.tmp 2] 8),
 some (.code c81 [] 148),
 some (.code c82 [] 53),
 some (.code c83 [] 220),
 some (.code c84 [] 49),
 some (.code c85 [] 56),
 some (.code c86 [] 65),
 some (.code c87 [.tmp 6,.tmp 7] 57),
 some (.code c88 [] 32),
 some (.code c89 [.tmp 6] 133),
 some (.code c90 [.tmp 4] 17),
 some (.code c91 [.tmp 8] 84),
 some (.code c92 [.tmp 8,.tmp 9] 168),
 some (.code c93 [.tmp 2] 19),
 some (.code c94 [.tmp 2] 25),
 some (.code c95 [] 53),
 some (.code c96 [] 60),
 some (.code c97 [] 67),
 some (.code c98 [.tmp 8,.tmp 9] 63),
 some (.code c99 [] 34),
 some (.code c100 [.tmp 8] 141),
 some (.code c101 [.tmp 10] 90),
 some (.code c102 [.tmp 10,.tmp 11] 178),
 some (.code c103 [] 58),
 some (.code c104 [] 76),
 some (.code c105 [.tmp 2] 7),
 some (.code c106 [.tmp 2] 33),
 some (.code c107 [.tmp 6] 15),
 some (.code c108 [.tmp 10] 36),
 some (.code c109 [] 82),
 some (.code c110 [.tmp 8] 18),
 some (.code c111 [.tmp 12] 41),
 some (.code c112 [] 38),
 some (.code c113 [.tmp 8,.tmp 9] 28),
 some (.code c114 [.tmp 10,.tmp 11] 32)]
noncomputable def tabt:Tab:=fun f=>(tabT[f]?).join
theorem tabT_ok:EntsOk Tryz.prog 0 tabT:=⟨trivial,trivial,fun2,fun3,fun4,fun5,fun6,fun7,fun8,fun9,fun10,fun11,fun12,fun13,fun14,fun15,fun16,fun17,fun18,fun19,fun20,fun21,fun22,fun23,fun24,fun25,fun26,fun27,fun28,fun29,fun30,fun31,fun32,fun33,fun34,fun35,fun36,fun37,fun38,fun39,fun40,fun41,fun42,fun43,fun44,fun45,fun46,fun47,fun48,fun49,fun50,fun51,fun52,fun53,fun54,fun55,fun56,fun57,fun58,fun59,fun60,fun61,fun62,fun63,fun64,fun65,fun66,fun67,fun68,fun69,fun70,fun71,fun72,fun73,fun74,fun75,fun76,fun77,fun78,fun79,fun80,fun81,fun82,fun83,fun84,fun85,fun86,fun87,fun88,fun89,fun90,fun91,fun92,fun93,fun94,fun95,fun96,fun97,fun98,fun99,fun100,fun101,fun102,fun103,fun104,fun105,fun106,fun107,fun108,fun109,fun110,fun111,fun112,fun113,fun114,trivial⟩
theorem tabt_ok:TabOk Tryz.prog tabt:=tabOk_of tabT_ok
end Go.Proofs.Tryz
namespace Go.Proofs.Tryz
open Go Go.V
def mA1:Memo:=⟨[.int .u64 1],[],.slice (some ⟨0,0,none⟩) 1 1,[⟨[.int .i64 0],⟨1,3⟩,false⟩]⟩
theorem mA1_ok:MemoOk Tryz.prog 51 mA1:=memo_run mixed tabt_ok 200 (by kernel_rfl) (by kernel_rfl)
def mA2:Memo:=⟨[.int .u64 2],[],.slice (some ⟨0,0,none⟩) 1 1,[⟨[.int .i64 1],⟨1,3⟩,false⟩]⟩
theorem mA2_ok:MemoOk Tryz.prog 51 mA2:=memo_run mixed tabt_ok 200 (by kernel_rfl) (by kernel_rfl)
def mA3:Memo:=⟨[.int .u64 3],[],.slice (some ⟨0,0,none⟩) 2 2,[⟨[.int .i64 0,.int .i64 1],⟨1,3⟩,false⟩]⟩
theorem mA3_ok:MemoOk Tryz.prog 51 mA3:=memo_run mixed tabt_ok 200 (by kernel_rfl) (by kernel_rfl)
def mA4:Memo:=⟨[.int .u64 4],[],.slice (some ⟨0,0,none⟩) 1 1,[⟨[.int .i64 2],⟨1,3⟩,false⟩]⟩
theorem mA4_ok:MemoOk Tryz.prog 51 mA4:=memo_run mixed tabt_ok 200 (by kernel_rfl) (by kernel_rfl)
def mA5:Memo:=⟨[.int .u64 5],[],.slice (some ⟨0,0,none⟩) 2 2,[⟨[.int .i64 0,.int .i64 2],⟨1,3⟩,false⟩]⟩
theorem mA5_ok:MemoOk Tryz.prog 51 mA5:=memo_run mixed tabt_ok 200 (by kernel_rfl) (by kernel_rfl)
def mA6:Memo:=⟨[.int .u64 6],[],.slice (some ⟨0,0,none⟩) 2 2,[⟨[.int .i64 1,.int .i64 2],⟨1,3⟩,false⟩]⟩
theorem mA6_ok:MemoOk Tryz.prog 51 mA6:=memo_run mixed tabt_ok 200 (by kernel_rfl) (by kernel_rfl)
def mA7:Memo:=⟨[.int .u64 7],[],.slice (some ⟨0,0,none⟩) 3 3,[⟨[.int .i64 0,.int .i64 1,.int .i64 2],⟨1,3⟩,false⟩]⟩
theorem mA7_ok:MemoOk Tryz.prog 51 mA7:=memo_run mixed tabt_ok 200 (by kernel_rfl) (by kernel_rfl)
def mA8:Memo:=⟨[.int .u64 8],[],.slice (some ⟨0,0,none⟩) 1 1,[⟨[.int .i64 3],⟨1,3⟩,false⟩]⟩
theorem mA8_ok:MemoOk Tryz.prog 51 mA8:=memo_run mixed tabt_ok 200 (by kernel_rfl) (by kernel_rfl)
def mA9:Memo:=⟨[.int .u64 9],[],.slice (some ⟨0,0,none⟩) 2 2,[⟨[.int .i64 0,.int .i64 3],⟨1,3⟩,false⟩]⟩
theorem mA9_ok:MemoOk Tryz.prog 51 mA9:=memo_run mixed tabt_ok 200 (by kernel_rfl) (by kernel_rfl)
def mA10:Memo:=⟨[.int .u64 10],[],.slice (some ⟨0,0,none⟩) 2 2,[⟨[.int .i64 1,.int .i64 3],⟨1,3⟩,false⟩]⟩
theorem mA10_ok:MemoOk Tryz.prog 51 mA10:=memo_run mixed tabt_ok 200 (by kernel_rfl) (by kernel_rfl)
def mA11:Memo:=⟨[.int .u64 11],[],.slice (some ⟨0,0,none⟩) 3 3,[⟨[.int .i64 0,.int .i64 1,.int .i64 3],⟨1,3⟩,false⟩]⟩
theorem mA11_ok:MemoOk Tryz.prog 51 mA11:=memo_run mixed tabt_ok 200 (by kernel_rfl) (by kernel_rfl)
def mA12:Memo:=⟨[.int .u64 12],[],.slice (some ⟨0,0,none⟩) 2 2,[⟨[.int .i64 2,.int .i64 3],⟨1,3⟩,false⟩]⟩
theorem mA12_ok:MemoOk Tryz.prog 51 mA12:=memo_run mixed tabt_ok 200 (by kernel_rfl) (by kernel_rfl)
def mA13:Memo:=⟨[.int .u64 13],[],.slice (some ⟨0,0,none⟩) 3 3,[⟨[.int .i64 0,.int .i64 2,.int .i64 3],⟨1,3⟩,false⟩]⟩
theorem mA13_ok:MemoOk Tryz.prog 51 mA13:=memo_run mixed tabt_ok 200 (by kernel_rfl) (by kernel_rfl)
def mA14:Memo:=⟨[.int .u64 14],[],.slice (some ⟨0,0,none⟩) 3 3,[⟨[.int .i64 1,.int .i64 2,.int .i64 3],⟨1,3⟩,false⟩]⟩
theorem mA14_ok:MemoOk Tryz.prog 51 mA14:=memo_run mixed tabt_ok 200 (by kernel_rfl) (by kernel_rfl)
def mA15:Memo:=⟨[.int .u64 15],[],.slice (some ⟨0,0,none⟩) 4 4,[⟨[.int .i64 0,.int .i64 1,.int .i64 2,.int .i64 3],⟨1,3⟩,false⟩]⟩
theorem mA15_ok:MemoOk Tryz.prog 51 mA15:=memo_run mixed tabt_ok 200 (by kernel_rfl) (by kernel_rfl)
end Go.Proofs.Tryz
namespace Go.Proofs.Tryz
open Go Go.V
def mL1_20:Memo:=⟨[.agg #[.slice (some ⟨0,0,none⟩) 4 4,.int .i64 20],.int .u64 1],[⟨[.int .i64 1,.int .i64 100,.int .i64 110,.int .i64 500,.int .i64 1,.int .i64 105,.int .i64 112,.int .i64 300,.int .i64 1,.int .i64 108,.int .i64 125,.int .i64 400,.int .i64 1,.int .i64 120,.int .i64 130,.int .i64 600],⟨4,74⟩,true⟩],.bool true,[]⟩
theorem mL1_20_ok:MemoOk Tryz.prog 63 mL1_20:=memo_run mixed tabt_ok 200 (by kernel_rfl) (by kernel_rfl)
def mL2_20:Memo:=⟨[.agg #[.slice (some ⟨0,0,none⟩) 4 4,.int .i64 20],.int .u64 2],[⟨[.int .i64 1,.int .i64 100,.int .i64 110,.int .i64 500,.int .i64 1,.int .i64 105,.int .i64 112,.int .i64 300,.int .i64 1,.int .i64 108,.int .i64 125,.int .i64 400,.int .i64 1,.int .i64 120,.int .i64 130,.int .i64 600],⟨4,74⟩,true⟩],.bool true,[]⟩
theorem mL2_20_ok:MemoOk Tryz.prog 63 mL2_20:=memo_run mixed tabt_ok 200 (by kernel_rfl) (by kernel_rfl)
def mL3_20:Memo:=⟨[.agg #[.slice (some ⟨0,0,none⟩) 4 4,.int .i64 20],.int .u64 3],[⟨[.int .i64 1,.int .i64 100,.int .i64 110,.int .i64 500,.int .i64 1,.int .i64 105,.int .i64 112,.int .i64 300,.int .i64 1,.int .i64 108,.int .i64 125,.int .i64 400,.int .i64 1,.int .i64 120,.int .i64 130,.int .i64 600],⟨4,74⟩,true⟩],.bool true,[]⟩
theorem mL3_20_ok:MemoOk Tryz.prog 63 mL3_20:=memo_run mixed tabt_ok 200 (by kernel_rfl) (by kernel_rfl)
def mL4_20:Memo:=⟨[.agg #[.slice (some ⟨0,0,none⟩) 4 4,.int .i64 20],.int .u64 4],[⟨[.int .i64 1,.int .i64 100,.int .i64 110,.int .i64 500,.int .i64 1,.int .i64 105,.int .i64 112,.int .i64 300,.int .i64 1,.int .i64 108,.int .i64 125,.int .i64 400,.int .i64 1,.int .i64 120,.int .i64 130,.int .i64 600],⟨4,74⟩,true⟩],.bool true,[]⟩
theorem mL4_20_ok:MemoOk Tryz.prog 63 mL4_20:=memo_run mixed tabt_ok 200 (by kernel_rfl) (by kernel_rfl)
def mL5_20:Memo:=⟨[.agg #[.slice (some ⟨0,0,none⟩) 4 4,.int .i64 20],.int .u64 5],[⟨[.int .i64 1,.int .i64 100,.int .i64 110,.int .i64 500,.int .i64 1,.int .i64 105,.int .i64 112,.int .i64 300,.int .i64 1,.int .i64 108,.int .i64 125,.int .i64 400,.int .i64 1,.int .i64 120,.int .i64 130,.int .i64 600],⟨4,74⟩,true⟩],.bool false,[]⟩
theorem mL5_20_ok:MemoOk Tryz.prog 63 mL5_20:=memo_run mixed tabt_ok 200 (by kernel_rfl) (by kernel_rfl)
def mL6_20:Memo:=⟨[.agg #[.slice (some ⟨0,0,none⟩) 4 4,.int .i64 20],.int .u64 6],[⟨[.int .i64 1,.int .i64 100,.int .i64 110,.int .i64 500,.int .i64 1,.int .i64 105,.int .i64 112,.int .i64 300,.int .i64 1,.int .i64 108,.int .i64 125,.int .i64 400,.int .i64 1,.int .i64 120,.int .i64 130,.int .i64 600],⟨4,74⟩,true⟩],.bool true,[]⟩
theorem mL6_20_ok:MemoOk Tryz.prog 63 mL6_20:=memo_run mixed tabt_ok 200 (by kernel_rfl) (by kernel_rfl)
def mL7_20:Memo:=⟨[.agg #[.slice (some ⟨0,0,none⟩) 4 4,.int .i64 20],.int .u64 7],[⟨[.int .i64 1,.int .i64 100,.int .i64 110,.int .i64 500,.int .i64 1,.int .i64 105,.int .i64 112,.int .i64 300,.int .i64 1,.int .i64 108,.int .i64 125,.int .i64 400,.int .i64 1,.int .i64 120,.int .i64 130,.int .i64 600],⟨4,74⟩,true⟩],.bool false,[]⟩
theorem mL7_20_ok:MemoOk Tryz.prog 63 mL7_20:=memo_run mixed tabt_ok 200 (by kernel_rfl) (by kernel_rfl)
def mL8_20:Memo:=⟨[.agg #[.slice (some ⟨0,0,none⟩) 4 4,.int .i64 20],.int .u64 8],[⟨[.int .i64 1,.int .i64 100,.int .i64 110,.int .i64 500,.int .i64 1,.int .i64 105,.int .i64 112,.int .i64 300,.int .i64 1,.int .i64 108,.int .i64 125,.int .i64 400,.int .i64 1,.int .i64 120,.int .i64 130,.int .i64 600],⟨4,74⟩,true⟩],.bool true,[]⟩
theorem mL8_20_ok:MemoOk Tryz.prog 63 mL8_20:=memo_run mixed tabt_ok 200 (by kernel_rfl) (by kernel_rfl)
def mL9_20:Memo:=⟨[.agg #[.slice (some ⟨0,0,none⟩) 4 4,.int .i64 20],.int .u64 9],[⟨[.int .i64 1,.int .i64 100,.int .i64 110,.int .i64 500,.int .i64 1,.int .i64 105,.int .i64 112,.int .i64 300,.int .i64 1,.int .i64 108,.int .i64 125,.int .i64 400,.int .i64 1,.int .i64 120,.int .i64 130,.int .i64 600],⟨4,74⟩,true⟩],.bool false,[]⟩
theorem mL9_20_ok:MemoOk Tryz.prog 63 mL9_20:=memo_run mixed tabt_ok 200 (by kernel_rfl) (by kernel_rfl)
def mL10_20:Memo:=⟨[.agg #[.slice (some ⟨0,0,none⟩) 4 4,.int .i64 20],.int .u64 10],[⟨[.int .i64 1,.int .i64 100,.int .i64 110,.int .i64 500,.int .i64 1,.int .i64 105,.int .i64 112,.int .i64 300,.int .i64 1,.int .i64 108,.int .i64 125,.int .i64 400,.int .i64 1,.int .i64 120,.int .i64 130,.int .i64 600],⟨4,74⟩,true⟩],.bool false,[]⟩
theorem mL10_20_ok:MemoOk Tryz.prog 63 mL10_20:=memo_run mixed tabt_ok 200 (by kernel_rfl) (by kernel_rfl)
def mL11_20:Memo:=⟨[.agg #[.slice (some ⟨0,0,none⟩) 4 4,.int .i64 20],.int .u64 11],[⟨[.int .i64 1,.int .i64 100,.int .i64 110,.int .i64 500,.int .i64 1,.int .i64 105,.int .i64 112,.int .i64 300,.int .i64 1,.int .i64 108,.int .i64 125,.int .i64 400,.int .i64 1,.int .i64 120,.int .i64 130,.int .i64 600],⟨4,74⟩,true⟩],.bool false,[]⟩
theorem mL11_20_ok:MemoOk Tryz.prog 63 mL11_20:=memo_run mixed tabt_ok 200 (by kernel_rfl) (by kernel_rfl)
def mL12_20:Memo:=⟨[.agg #[.slice (some ⟨0,0,none⟩) 4 4,.int .i64 20],.int .u64 12],[⟨[.int .i64 1,.int .i64 100,.int .i64 110,.int .i64 500,.int .i64 1,.int .i64 105,.int .i64 112,.int .i64 300,.int .i64 1,.int .i64 108,.int .i64 125,.int .i64 400,.int .i64 1,.int .i64 120,.int .i64 130,.int .i64 600],⟨4,74⟩,true⟩],.bool false,[]⟩
theorem mL12_20_ok:MemoOk Tryz.prog 63 mL12_20:=memo_run mixed tabt_ok 200 (by kernel_rfl) (by kernel_rfl)
def mL13_20:Memo:=⟨[.agg #[.slice (some ⟨0,0,none⟩) 4 4,.int .i64 20],.int .u64 13],[⟨[.int .i64 1,.int .i64 100,.int .i64 110,.int .i64 500,.int .i64 1,.int .i64 105,.int .i64 112,.int .i64 300,.int .i64 1,.int .i64 108,.int .i64 125,.int .i64 400,.int .i64 1,.int .i64 120,.int .i64 130,.int .i64 600],⟨4,74⟩,true⟩],.bool false,[]⟩
theorem mL13_20_ok:MemoOk Tryz.prog 63 mL13_20:=memo_run mixed tabt_ok 200 (by kernel_rfl) (by kernel_rfl)
def mL14_20:Memo:=⟨[.agg #[.slice (some ⟨0,0,none⟩) 4 4,.int .i64 20],.int .u64 14],[⟨[.int .i64 1,.int .i64 100,.int .i64 110,.int .i64 500,.int .i64 1,.int .i64 105,.int .i64 112,.int .i64 300,.int .i64 1,.int .i64 108,.int .i64 125,.int .i64 400,.int .i64 1,.int .i64 120,.int .i64 130,.int .i64 600],⟨4,74⟩,true⟩],.bool false,[]⟩
theorem mL14_20_ok:MemoOk Tryz.prog 63 mL14_20:=memo_run mixed tabt_ok 200 (by kernel_rfl) (by kernel_rfl)
def mL15_20:Memo:=⟨[.agg #[.slice (some ⟨0,0,none⟩) 4 4,.int .i64 20],.int .u64 15],[⟨[.int .i64 1,.int .i64 100,.int .i64 110,.int .i64 500,.int .i64 1,.int .i64 105,.int .i64 112,.int .i64 300,.int .i64 1,.int .i64 108,.int .i64 125,.int .i64 400,.int .i64 1,.int .i64 120,.int .i64 130,.int .i64 600],⟨4,74⟩,true⟩],.bool false,[]⟩
theorem mL15_20_ok:MemoOk Tryz.prog 63 mL15_20:=memo_run mixed tabt_ok 200 (by kernel_rfl) (by kernel_rfl)
def mL1_25:Memo:=⟨[.agg #[.slice (some ⟨0,0,none⟩) 4 4,.int .i64 25],.int .u64 1],[⟨[.int .i64 1,.int .i64 100,.int .i64 110,.int .i64 500,.int .i64 1,.int .i64 105,.int .i64 112,.int .i64 300,.int .i64 1,.int .i64 108,.int .i64 125,.int .i64 400,.int .i64 1,.int .i64 120,.int .i64 130,.int .i64 600],⟨4,74⟩,true⟩],.bool true,[]⟩
theorem mL1_25_ok:MemoOk Tryz.prog 63 mL1_25:=memo_run mixed tabt_ok 200 (by kernel_rfl) (by kernel_rfl)
def mL2_25:Memo:=⟨[.agg #[.slice (some ⟨0,0,none⟩) 4 4,.int .i64 25],.int .u64 2],[⟨[.int .i64 1,.int .i64 100,.int .i64 110,.int .i64 500,.int .i64 1,.int .i64 105,.int .i64 112,.int .i64 300,.int .i64 1,.int .i64 108,.int .i64 125,.int .i64 400,.int .i64 1,.int .i64 120,.int .i64 130,.int .i64 600],⟨4,74⟩,true⟩],.bool true,[]⟩
theorem mL2_25_ok:MemoOk Tryz.prog 63 mL2_25:=memo_run mixed tabt_ok 200 (by kernel_rfl) (by kernel_rfl)
def mL3_25:Memo:=⟨[.agg #[.slice (some ⟨0,0,none⟩) 4 4,.int .i64 25],.int .u64 3],[⟨[.int .i64 1,.int .i64 100,.int .i64 110,.int .i64 500,.int .i64 1,.int .i64 105,.int .i64 112,.int .i64 300,.int .i64 1,.int .i64 108,.int .i64 125,.int .i64 400,.int .i64 1,.int .i64 120,.int .i64 130,.int .i64 600],⟨4,74⟩,true⟩],.bool true,[]⟩
theorem mL3_25_ok:MemoOk Tryz.prog 63 mL3_25:=memo_run mixed tabt_ok 200 (by kernel_rfl) (by kernel_rfl)
def mL4_25:Memo:=⟨[.agg #[.slice (some ⟨0,0,none⟩) 4 4,.int .i64 25],.int .u64 4],[⟨[.int .i64 1,.int .i64 100,.int .i64 110,.int .i64 500,.int .i64 1,.int .i64 105,.int .i64 112,.int .i64 300,.int .i64 1,.int .i64 108,.int .i64 125,.int .i64 400,.int .i64 1,.int .i64 120,.int .i64 130,.int .i64 600],⟨4,74⟩,true⟩],.bool true,[]⟩
theorem mL4_25_ok:MemoOk Tryz.prog 63 mL4_25:=memo_run mixed tabt_ok 200 (by kernel_rfl) (by kernel_rfl)
def mL5_25:Memo:=⟨[.agg #[.slice (some ⟨0,0,none⟩) 4 4,.int .i64 25],.int .u64 5],[⟨[.int .i64 1,.int .i64 100,.int .i64 110,.int .i64 500,.int .i64 1,.int .i64 105,.int .i64 112,.int .i64 300,.int .i64 1,.int .i64 108,.int .i64 125,.int .i64 400,.int .i64 1,.int .i64 120,.int .i64 130,.int .i64 600],⟨4,74⟩,true⟩],.bool true,[]⟩
theorem mL5_25_ok:MemoOk Tryz.prog 63 mL5_25:=memo_run mixed tabt_ok 200 (by kernel_rfl) (by kernel_rfl)
def mL6_25:Memo:=⟨[.agg #[.slice (some ⟨0,0,none⟩) 4 4,.int .i64 25],.int .u64 6],[⟨[.int .i64 1,.int .i64 100,.int .i64 110,.int .i64 500,.int .i64 1,.int .i64 105,.int .i64 112,.int .i64 300,.int .i64 1,.int .i64 108,.int .i64 125,.int .i64 400,.int .i64 1,.int .i64 120,.int .i64 130,.int .i64 600],⟨4,74⟩,true⟩],.bool true,[]⟩
theorem mL6_25_ok:MemoOk Tryz.prog 63 mL6_25:=memo_run mixed tabt_ok 200 (by kernel_rfl) (by kernel_rfl)
def mL8_25:Memo:=⟨[.agg #[.slice (some ⟨0,0,none⟩) 4 4,.int .i64 25],.int .u64 8],[⟨[.int .i64 1,.int .i64 100,.int .i64 110,.int .i64 500,.int .i64 1,.int .i64 105,.int .i64 112,.int .i64 300,.int .i64 1,.int .i64 108,.int .i64 125,.int .i64 400,.int .i64 1,.int .i64 120,.int .i64 130,.int .i64 600],⟨4,74⟩,true⟩],.bool true,[]⟩
theorem mL8_25_ok:MemoOk Tryz.prog 63 mL8_25:=memo_run mixed tabt_ok 200 (by kernel_rfl) (by kernel_rfl)
def mL9_25:Memo:=⟨[.agg #[.slice (some ⟨0,0,none⟩) 4 4,.int .i64 25],.int .u64 9],[⟨[.int .i64 1,.int .i64 100,.int .i64 110,.int .i64 500,.int .i64 1,.int .i64 105,.int .i64 112,.int .i64 300,.int .i64 1,.int .i64 108,.int .i64 125,.int .i64 400,.int .i64 1,.int .i64 120,.int .i64 130,.int .i64 600],⟨4,74⟩,true⟩],.bool false,[]⟩
theorem mL9_25_ok:MemoOk Tryz.prog 63 mL9_25:=memo_run mixed tabt_ok 200 (by kernel_rfl) (by kernel_rfl)
def mL10_25:Memo:=⟨[.agg #[.slice (some ⟨0,0,none⟩) 4 4,.int .i64 25],.int .u64 10],[⟨[.int .i64 1,.int .i64 100,.int .i64 110,.int .i64 500,.int .i64 1,.int .i64 105,.int .i64 112,.int .i64 300,.int .i64 1,.int .i64 108,.int .i64 125,.int .i64 400,.int .i64 1,.int .i64 120,.int .i64 130,.int .i64 600],⟨4,74⟩,true⟩],.bool true,[]⟩
theorem mL10_25_ok:MemoOk Tryz.prog 63 mL10_25:=memo_run mixed tabt_ok 200 (by kernel_rfl) (by kernel_rfl)
def mL12_25:Memo:=⟨[.agg #[.slice (some ⟨0,0,none⟩) 4 4,.int .i64 25],.int .u64 12],[⟨[.int .i64 1,.int .i64 100,.int .i64 110,.int .i64 500,.int .i64 1,.int .i64 105,.int .i64 112,.int .i64 300,.int .i64 1,.int .i64 108,.int .i64 125,.int .i64 400,.int .i64 1,.int .i64 120,.int .i64 130,.int .i64 600],⟨4,74⟩,true⟩],.bool true,[]⟩
theorem mL12_25_ok:MemoOk Tryz.prog 63 mL12_25:=memo_run mixed tabt_ok 200 (by kernel_rfl) (by kernel_rfl)
def mL1_16:Memo:=⟨[.agg #[.slice (some ⟨0,0,none⟩) 4 4,.int .i64 16],.int .u64 1],[⟨[.int .i64 1,.int .i64 100,.int .i64 110,.int .i64 500,.int .i64 1,.int .i64 105,.int .i64 112,.int .i64 300,.int .i64 1,.int .i64 108,.int .i64 125,.int .i64 400,.int .i64 1,.int .i64 120,.int .i64 130,.int .i64 600],⟨4,74⟩,true⟩],.bool true,[]⟩
theorem mL1_16_ok:MemoOk Tryz.prog 63 mL1_16:=memo_run mixed tabt_ok 200 (by kernel_rfl) (by kernel_rfl)
def mL2_16:Memo:=⟨[.agg #[.slice (some ⟨0,0,none⟩) 4 4,.int .i64 16],.int .u64 2],[⟨[.int .i64 1,.int .i64 100,.int .i64 110,.int .i64 500,.int .i64 1,.int .i64 105,.int .i64 112,.int .i64 300,.int .i64 1,.int .i64 108,.int .i64 125,.int .i64 400,.int .i64 1,.int .i64 120,.int .i64 130,.int .i64 600],⟨4,74⟩,true⟩],.bool true,[]⟩
theorem mL2_16_ok:MemoOk Tryz.prog 63 mL2_16:=memo_run mixed tabt_ok 200 (by kernel_rfl) (by kernel_rfl)
def mL4_16:Memo:=⟨[.agg #[.slice (some ⟨0,0,none⟩) 4 4,.int .i64 16],.int .u64 4],[⟨[.int .i64 1,.int .i64 100,.int .i64 110,.int .i64 500,.int .i64 1,.int .i64 105,.int .i64 112,.int .i64 300,.int .i64 1,.int .i64 108,.int .i64 125,.int .i64 400,.int .i64 1,.int .i64 120,.int .i64 130,.int .i64 600],⟨4,74⟩,true⟩],.bool false,[]⟩
theorem mL4_16_ok:MemoOk Tryz.prog 63 mL4_16:=memo_run mixed tabt_ok 200 (by kernel_rfl) (by kernel_rfl)
def mL8_16:Memo:=⟨[.agg #[.slice (some ⟨0,0,none⟩) 4 4,.int .i64 16],.int .u64 8],[⟨[.int .i64 1,.int .i64 100,.int .i64 110,.int .i64 500,.int .i64 1,.int .i64 105,.int .i64 112,.int .i64 300,.int .i64 1,.int .i64 108,.int .i64 125,.int .i64 400,.int .i64 1,.int .i64 120,.int .i64 130,.int .i64 600],⟨4,74⟩,true⟩],.bool true,[]⟩
theorem mL8_16_ok:MemoOk Tryz.prog 63 mL8_16:=memo_run mixed tabt_ok 200 (by kernel_rfl) (by kernel_rfl)
end Go.Proofs.Tryz
namespace Go.Proofs.Tryz
open Go Go.V
def mG1:Memo:=⟨[.agg #[.slice (some ⟨0,0,none⟩) 4 4,.int .i64 20],.int .u64 1],[⟨[.int .i64 1,.int .i64 100,.int .i64 110,.int .i64 500,.int .i64 1,.int .i64 105,.int .i64 112,.int .i64 300,.int .i64 1,.int .i64 108,.int .i64 125,.int .i64 400,.int .i64 1,.int .i64 120,.int .i64 130,.int .i64 600],⟨4,74⟩,true⟩],.int .i64 500,[]⟩
theorem mG1_ok:MemoOk Tryz.prog 62 mG1:=memo_run mixed tabt_ok 200 (by kernel_rfl) (by kernel_rfl)
def mG2:Memo:=⟨[.agg #[.slice (some ⟨0,0,none⟩) 4 4,.int .i64 20],.int .u64 2],[⟨[.int .i64 1,.int .i64 100,.int .i64 110,.int .i64 500,.int .i64 1,.int .i64 105,.int .i64 112,.int .i64 300,.int .i64 1,.int .i64 108,.int .i64 125,.int .i64 400,.int .i64 1,.int .i64 120,.int .i64 130,.int .i64 600],⟨4,74⟩,true⟩],.int .i64 300,[]⟩
theorem mG2_ok:MemoOk Tryz.prog 62 mG2:=memo_run mixed tabt_ok 200 (by kernel_rfl) (by kernel_rfl)
def mG3:Memo:=⟨[.agg #[.slice (some ⟨0,0,none⟩) 4 4,.int .i64 20],.int .u64 3],[⟨[.int .i64 1,.int .i64 100,.int .i64 110,.int .i64 500,.int .i64 1,.int .i64 105,.int .i64 112,.int .i64 300,.int .i64 1,.int .i64 108,.int .i64 125,.int .i64 400,.int .i64 1,.int .i64 120,.int .i64 130,.int .i64 600],⟨4,74⟩,true⟩],.int .i64 800,[]⟩
theorem mG3_ok:MemoOk Tryz.prog 62 mG3:=memo_run mixed tabt_ok 200 (by kernel_rfl) (by kernel_rfl)
def mG4:Memo:=⟨[.agg #[.slice (some ⟨0,0,none⟩) 4 4,.int .i64 20],.int .u64 4],[⟨[.int .i64 1,.int .i64 100,.int .i64 110,.int .i64 500,.int .i64 1,.int .i64 105,.int .i64 112,.int .i64 300,.int .i64 1,.int .i64 108,.int .i64 125,.int .i64 400,.int .i64 1,.int .i64 120,.int .i64 130,.int .i64 600],⟨4,74⟩,true⟩],.int .i64 400,[]⟩
theorem mG4_ok:MemoOk Tryz.prog 62 mG4:=memo_run mixed tabt_ok 200 (by kernel_rfl) (by kernel_rfl)
def mG5:Memo:=⟨[.agg #[.slice (some ⟨0,0,none⟩) 4 4,.int .i64 20],.int .u64 5],[⟨[.int .i64 1,.int .i64 100,.int .i64 110,.int .i64 500,.int .i64 1,.int .i64 105,.int .i64 112,.int .i64 300,.int .i64 1,.int .i64 108,.int .i64 125,.int .i64 400,.int .i64 1,.int .i64 120,.int .i64 130,.int .i64 600],⟨4,74⟩,true⟩],.int .i64 900,[]⟩
theorem mG5_ok:MemoOk Tryz.prog 62 mG5:=memo_run mixed tabt_ok 200 (by kernel_rfl) (by kernel_rfl)
def mG6:Memo:=⟨[.agg #[.slice (some ⟨0,0,none⟩) 4 4,.int .i64 20],.int .u64 6],[⟨[.int .i64 1,.int .i64 100,.int .i64 110,.int .i64 500,.int .i64 1,.int .i64 105,.int .i64 112,.int .i64 300,.int .i64 1,.int .i64 108,.int .i64 125,.int .i64 400,.int .i64 1,.int .i64 120,.int .i64 130,.int .i64 600],⟨4,74⟩,true⟩],.int .i64 700,[]⟩
theorem mG6_ok:MemoOk Tryz.prog 62 mG6:=memo_run mixed tabt_ok 200 (by kernel_rfl) (by kernel_rfl)
def mG7:Memo:=⟨[.agg #[.slice (some ⟨0,0,none⟩) 4 4,.int .i64 20],.int .u64 7],[⟨[.int .i64 1,.int .i64 100,.int .i64 110,.int .i64 500,.int .i64 1,.int .i64 105,.int .i64 112,.int .i64 300,.int .i64 1,.int .i64 108,.int .i64 125,.int .i64 400,.int .i64 1,.int .i64 120,.int .i64 130,.int .i64 600],⟨4,74⟩,true⟩],.int .i64 1200,[]⟩
theorem mG7_ok:MemoOk Tryz.prog 62 mG7:=memo_run mixed tabt_ok 200 (by kernel_rfl) (by kernel_rfl)
def mG8:Memo:=⟨[.agg #[.slice (some ⟨0,0,none⟩) 4 4,.int .i64 20],.int .u64 8],[⟨[.int .i64 1,.int .i64 100,.int .i64 110,.int .i64 500,.int .i64 1,.int .i64 105,.int .i64 112,.int .i64 300,.int .i64 1,.int .i64 108,.int .i64 125,.int .i64 400,.int .i64 1,.int .i64 120,.int .i64 130,.int .i64 600],⟨4,74⟩,true⟩],.int .i64 600,[]⟩
theorem mG8_ok:MemoOk Tryz.prog 62 mG8:=memo_run mixed tabt_ok 200 (by kernel_rfl) (by kernel_rfl)
def mG9:Memo:=⟨[.agg #[.slice (some ⟨0,0,none⟩) 4 4,.int .i64 20],.int .u64 9],[⟨[.int .i64 1,.int .i64 100,.int .i64 110,.int .i64 500,.int .i64 1,.int .i64 105,.int .i64 112,.int .i64 300,.int .i64 1,.int .i64 108,.int .i64 125,.int .i64 400,.int .i64 1,.int .i64 120,.int .i64 130,.int .i64 600],⟨4,74⟩,true⟩],.int .i64 1100,[]⟩
theorem mG9_ok:MemoOk Tryz.prog 62 mG9:=memo_run mixed tabt_ok 200 (by kernel_rfl) (by kernel_rfl)
def mG10:Memo:=⟨[.agg #[.slice (some ⟨0,0,none⟩) 4 4,.int .i64 20],.int .u64 10],[⟨[.int .i64 1,.int .i64 100,.int .i64 110,.int .i64 500,.int .i64 1,.int .i64 105,.int .i64 112,.int .i64 300,.int .i64 1,.int .i64 108,.int .i64 125,.int .i64 400,.int .i64 1,.int .i64 120,.int .i64 130,.int .i64 600],⟨4,74⟩,true⟩],.int .i64 900,[]⟩
theorem mG10_ok:MemoOk Tryz.prog 62 mG10:=memo_run mixed tabt_ok 200 (by kernel_rfl) (by kernel_rfl)
def mG11:Memo:=⟨[.agg #[.slice (some ⟨0,0,none⟩) 4 4,.int .i64 20],.int .u64 11],[⟨[.int .i64 1,.int .i64 100,.int .i64 110,.int .i64 500,.int .i64 1,.int .i64 105,.int .i64 112,.int .i64 300,.int .i64 1,.int .i64 108,.int .i64 125,.int .i64 400,.int .i64 1,.int .i64 120,.int .i64 130,.int .i64 600],⟨4,74⟩,true⟩],.int .i64 1400,[]⟩
theorem mG11_ok:MemoOk Tryz.prog 62 mG11:=memo_run mixed tabt_ok 200 (by kernel_rfl) (by kernel_rfl)
def mG12:Memo:=⟨[.agg #[.slice (some ⟨0,0,none⟩) 4 4,.int .i64 20],.int .u64 12],[⟨[.int .i64 1,.int .i64 100,.int .i64 110,.int .i64 500,.int .i64 1,.int .i64 105,.int .i64 112,.int .i64 300,.int .i64 1,.int .i64 108,.int .i64 125,.int .i64 400,.int .i64 1,.int .i64 120,.int .i64 130,.int .i64 600],⟨4,74⟩,true⟩],.int .i64 1000,[]⟩
theorem mG12_ok:MemoOk Tryz.prog 62 mG12:=memo_run mixed tabt_ok 200 (by kernel_rfl) (by kernel_rfl)
def mG13:Memo:=⟨[.agg #[.slice (some ⟨0,0,none⟩) 4 4,.int .i64 20],.int .u64 13],[⟨[.int .i64 1,.int .i64 100,.int .i64 110,.int .i64 500,.int .i64 1,.int .i64 105,.int .i64 112,.int .i64 300,.int .i64 1,.int .i64 108,.int .i64 125,.int .i64 400,.int .i64 1,.int .i64 120,.int .i64 130,.int .i64 600],⟨4,74⟩,true⟩],.int .i64 1500,[]⟩
theorem mG13_ok:MemoOk Tryz.prog 62 mG13:=memo_run mixed tabt_ok 200 (by kernel_rfl) (by kernel_rfl)
def mG14:Memo:=⟨[.agg #[.slice (some ⟨0,0,none⟩) 4 4,.int .i64 20],.int .u64 14],[⟨[.int .i64 1,.int .i64 100,.int .i64 110,.int .i64 500,.int .i64 1,.int .i64 105,.int .i64 112,.int .i64 300,.int .i64 1,.int .i64 108,.int .i64 125,.int .i64 400,.int .i64 1,.int .i64 120,.int .i64 130,.int .i64 600],⟨4,74⟩,true⟩],.int .i64 1300,[]⟩
theorem mG14_ok:MemoOk Tryz.prog 62 mG14:=memo_run mixed tabt_ok 200 (by kernel_rfl) (by kernel_rfl)
def mG15:Memo:=⟨[.agg #[.slice (some ⟨0,0,none⟩) 4 4,.int .i64 20],.int .u64 15],[⟨[.int .i64 1,.int .i64 100,.int .i64 110,.int .i64 500,.int .i64 1,.int .i64 105,.int .i64 112,.int .i64 300,.int .i64 1,.int .i64 108,.int .i64 125,.int .i64 400,.int .i64 1,.int .i64 120,.int .i64 130,.int .i64 600],⟨4,74⟩,true⟩],.int .i64 1800,[]⟩
theorem mG15_ok:MemoOk Tryz.prog 62 mG15:=memo_run mixed tabt_ok 200 (by kernel_rfl) (by kernel_rfl)
end Go.Proofs.Tryz
namespace Go.Proofs.Tryz
open Go Go.V
def memos1:List Memo:=[mA1,mA2,mA3,mA4,mA5,mA6,mA7,mA8,mA9,mA10,mA11,mA12,mA13,mA14,mA15]
theorem memos1_ok:∀ m ∈ memos1,MemoOk Tryz.prog 51 m:=by
 intro m hm
 simp only [memos1,List.mem_cons,List.not_mem_nil,or_false] at hm
 rcases hm with rfl | rfl | rfl | rfl | rfl | rfl | rfl | rfl | rfl | rfl | rfl | rfl | rfl | rfl | rfl
 ·exact mA1_ok
 ·exact mA2_ok
 ·exact mA3_ok
 ·exact mA4_ok
 ·exact mA5_ok
 ·exact mA6_ok
 ·exact mA7_ok
 ·exact mA8_ok
 ·exact mA9_ok
 ·exact mA10_ok
 ·exact mA11_ok
 ·exact mA12_ok
 ·exact mA13_ok
 ·exact mA14_ok
 ·exact mA15_ok
def memos2:List Memo:=[mL1_20,mL2_20,mL3_20,mL4_20,mL5_20,mL6_20,mL7_20,mL8_20,mL9_20,mL10_20,mL11_20,mL12_20,mL13_20,mL14_20,mL15_20,mL1_25,mL2_25,mL3_25,mL4_25,mL5_25,mL6_25,mL8_25,mL9_25,mL10_25,mL12_25,mL1_16,mL2_16,mL4_16,mL8_16]
theorem memos2_ok:∀ m ∈ memos2,MemoOk Tryz.prog 63 m:=by
 intro m hm
 simp only [memos2,List.mem_cons,List.not_mem_nil,or_false] at hm
 rcases hm with rfl | rfl | rfl | rfl | rfl | rfl | rfl | rfl | rfl | rfl | rfl | rfl | rfl | rfl | rfl | rfl | rfl | rfl | rfl | rfl | rfl | rfl | rfl | rfl | rfl | rfl | rfl | rfl | rfl
 ·exact mL1_20_ok
 ·exact mL2_20_ok
 ·exact mL3_20_ok
 ·exact mL4_20_ok
 ·exact mL5_20_ok
 ·exact mL6_20_ok
 ·exact mL7_20_ok
 ·exact mL8_20_ok
 ·exact mL9_20_ok
 ·exact mL10_20_ok
 ·exact mL11_20_ok
 ·exact mL12_20_ok
 ·exact mL13_20_ok
 ·exact mL14_20_ok
 ·exact mL15_20_ok
 ·exact mL1_25_ok
 ·exact mL2_25_ok
 ·exact mL3_25_ok
 ·exact mL4_25_ok
 ·exact mL5_25_ok
 ·exact mL6_25_ok
 ·exact mL8_25_ok
 ·exact mL9_25_ok
 ·exact mL10_25_ok
 ·exact mL12_25_ok
 ·exact mL1_16_ok
 ·exact mL2_16_ok
 ·exact mL4_16_ok
 ·exact mL8_16_ok
def memos3:List Memo:=[mG1,mG2,mG3,mG4,mG5,mG6,mG7,mG8,mG9,mG10,mG11,mG12,mG13,mG14,mG15]
theorem memos3_ok:∀ m ∈ memos3,MemoOk Tryz.prog 62 m:=by
 intro m hm
 simp only [memos3,List.mem_cons,List.not_mem_nil,or_false] at hm
 rcases hm with rfl | rfl | rfl | rfl | rfl | rfl | rfl | rfl | rfl | rfl | rfl | rfl | rfl | rfl | rfl
 ·exact mG1_ok
 ·exact mG2_ok
 ·exact mG3_ok
 ·exact mG4_ok
 ·exact mG5_ok
 ·exact mG6_ok
 ·exact mG7_ok
 ·exact mG8_ok
 ·exact mG9_ok
 ·exact mG10_ok
 ·exact mG11_ok
 ·exact mG12_ok
 ·exact mG13_ok
 ·exact mG14_ok
 ·exact mG15_ok
noncomputable def tabL:List (Option FEnt):=[
 none,
 none,
 some (.code c2 [] 1),
 some (.code c3 [.tmp 4] 125),
 some (.code c4 [.tmp 4] 115),
 some (.code c5 [.tmp 4] 139),
 some (.code c6 [.tmp 0] 193),
 some (.code c7 [.tmp 2] 6),
 some (.code c8 [.tmp 2] 6),
 some (.code c9 [.tmp 2] 10),
 some (.codeJ c10 [.cell 4 true 2,.tmp 5] 52),
 some (.code c11 [.tmp 4] 26),
 some (.code c12 [.tmp 4] 26),
 some (.code c13 [.tmp 2] 44),
 some (.code c14 [.tmp 6] 15),
 some (.code c15 [.cell 4 true 2] 51),
 some (.code c16 [.tmp 2] 6),
 some (.codeJ c17 [.tmp 4,.tmp 5] 23),
 some (.code c18 [.tmp 6] 41),
 some (.codeJ c19 [.cell 6 true 2,.tmp 7,.tmp 8] 37),
 some (.code c20 [.tmp 2,.tmp 3,.tmp 4,.tmp 5,.tmp 6] 105),
 some (.codeJ c21 [.cell 8 true 2,.tmp 9] 103),
 some (.code c22 [.cell 10 true 2,.tmp 11] 97),
 some (.code c23 [.tmp 0] 10),
 some (.codeJ c24 [.tmp 4,.tmp 5] 15),
 some (.codeJ c25 [.tmp 4,.tmp 5] 18),
 some (.codeJ c26 [.tmp 6,.tmp 7] 29),
 some (.codeJ c27 [.tmp 4,.tmp 5,.tmp 6] 73),
 some (.code c28 [.tmp 2] 9),
 some (.code c29 [.cell 4 true 2] 8),
 some (.code c30 [.tmp 4] 9),
 some (.code c31 [.tmp 2] 6),
 some (.code c32 [.tmp 2] 32),
 some (.code c33 [.tmp 6] 11),
 some (.code c34 [.cell 2 true 2] 61),
 some (.code c35 [.tmp 4] 20),
 some (.code c36 [.tmp 4] 20),
 some (.code c37 [.cell 6 true 3,.tmp 7] 33),
 some (.code c38 [.tmp 4] 26),
 some (.code c39 [.tmp 4] 17),
 some (.codeJ c40 [.tmp 2,.tmp 3] 41),
 some (.code c41 [.cell 0 true 2] 2),
 some (.code c42 [.tmp 2] 4),
 some (.code c43 [.cell 6 true 2] 44),
 some (.code c44 [.cell 4 true 2] 16),
 some (.code c45 [.cell 4 true 2] 17),
 some (.code c46 [.tmp 4,.tmp 5,.tmp 6] 29),
 some (.code c47 [.cell 4 true 2,.tmp 5] 21),
 some (.code c48 [.tmp 2] 13),
 some (.codeJ c49 [.tmp 4,.tmp 5] 62),
 some (.code c50 [.tmp 4] 63),
 some (.codeM c51 [.tmp 2] 15 memos1),
 some (.codeJ c52 [.tmp 6] 21),
 some (.code c53 [.tmp 4] 19),
 some (.code c54 [.tmp 4] 9),
 some (.code c55 [.tmp 4] 13),
 some (.code c56 [.tmp 2] 15),
 some (.code c57 [.tmp 4] 9),
 some (.code c58 [.cell 6 true 2] 44),
 some (.code c59 [] 19),
 some (.codeJ c60 [.tmp 2] 16),
 some (.code c61 [.tmp 2,.tmp 3] 64),
 some (.codeM c62 [.tmp 4] 24 memos3),
 some (.codeM c63 [.tmp 4] 38 memos2),
 some (.code c64 [.tmp 2] 18),
 some (.code c65 [.tmp 4] 20),
 some (.code c66 [.tmp 4] 36),
 some (.code c67 [.tmp 2] 8),
 some (.code c68 [.tmp 4] 19),
 some (.code c69 [.tmp 4] 19),
 some (.code c70 [] 9),
 some (.code c71 [.tmp 5] 36),
 some (.code c72 [] 11),
 some (.code c73 [] 14),
 some (.code c74 [.tmp 3] 11),
 some (.code c75 [.tmp 2] 6),
 some (.code c76 [.tmp 2] 14),
 some (.code c77 [.tmp 2] 14),
 some (.code c78 [] 63),
 some (.code c79 [] 134),
 some (.code c80 [.tmp 2] 8),
 some (.code c81 [] 148),
 some (.code c82 [] 53),
 some (.code c83 [] 220),
 some (.code c84 [] 49),
 some (.code c85 [] 56),
 some (.code c86 [] 65),
 some (.code c87 [.tmp 6,.tmp 7] 57),
 some (.code c88 [] 32),
 some (.code c89 [.tmp 6] 133),
 some (.code c90 [.tmp 4] 17),
 some (.code c91 [.tmp 8] 84),
 some (.code c92 [.tmp 8,.tmp 9] 168),
 some (.code c93 [.tmp 2] 19),
 some (.code c94 [.tmp 2] 25),
 some (.code c95 [] 53),
 some (.code c96 [] 60),
 some (.code c97 [] 67),
 some (.code c98 [.tmp 8,.tmp 9] 63),
 some (.code c99 [] 34),
 some (.code c100 [.tmp 8] 141),
 some (.code c101 [.tmp 10] 90),
 some (.code c102 [.tmp 10,.tmp 11] 178),
 some (.code c103 [] 58),
 some (.code c104 [] 76),
 some (.code c105 [.tmp 2] 7),
 some (.code c106 [.tmp 2] 33),
 some (.code c107 [.tmp 6] 15),
 some (.code c108 [.tmp 10] 36),
 some (.code c109 [] 82),
 some (.code c110 [.tmp 8] 18),
 some (.code c111 [.tmp 12] 41),
 some (.code c112 [] 38),
 some (.code c113 [.tmp 8,.tmp 9] 28),
 some (.code c114 [.tmp 10,.tmp 11] 32)]
noncomputable def tab:Tab:=fun f=>(tabL[f]?).join
theorem tabL_ok:EntsOk Tryz.prog 0 tabL:=⟨trivial,trivial,fun2,fun3,fun4,fun5,fun6,fun7,fun8,fun9,fun10,fun11,fun12,fun13,fun14,fun15,fun16,fun17,fun18,fun19,fun20,fun21,fun22,fun23,fun24,fun25,fun26,fun27,fun28,fun29,fun30,fun31,fun32,fun33,fun34,fun35,fun36,fun37,fun38,fun39,fun40,fun41,fun42,fun43,fun44,fun45,fun46,fun47,fun48,fun49,fun50,⟨fun51,memos1_ok⟩,fun52,fun53,fun54,fun55,fun56,fun57,fun58,fun59,fun60,fun61,⟨fun62,memos3_ok⟩,⟨fun63,memos2_ok⟩,fun64,fun65,fun66,fun67,fun68,fun69,fun70,fun71,fun72,fun73,fun74,fun75,fun76,fun77,fun78,fun79,fun80,fun81,fun82,fun83,fun84,fun85,fun86,fun87,fun88,fun89,fun90,fun91,fun92,fun93,fun94,fun95,fun96,fun97,fun98,fun99,fun100,fun101,fun102,fun103,fun104,fun105,fun106,fun107,fun108,fun109,fun110,fun111,fun112,fun113,fun114,trivial⟩
theorem tab_ok:TabOk Tryz.prog tab:=tabOk_of tabL_ok
theorem known_run:veval tab 300 boolOps [] c6 none (ET.of [] 193) CH.empty (eend false [.tmp 0] fun v _=>isTrue v)=true:=by kernel_rfl
theorem known_ok {σ:Heap} {K:Value→Heap→Prop} (hK:K (.bool true) σ):VCalled Tryz.prog 6 [] σ K:=run_true mixed tab_ok 300 fun6 (by decide) known_run hK
end Go.Proofs.Tryz
set_option linter.unusedVariables false
namespace Go.Proofs.Tryz
open Go Go.V Go.Proofs
def al_law09_known:AL (Unit):=.nil
def pre_law09_known (d:Unit):Prop:=True
def res_law09_known (d:Unit):SV:=.val .bo true
def obs_law09_known (d:Unit):List OB:=[]
def s_law09_known:CSp:=mkSp al_law09_known pre_law09_known res_law09_known obs_law09_known
abbrev Ok_law09_known:Prop:=OkC Tryz.prog 6 s_law09_known
theorem ok_law09_known:Ok_law09_known:=okC_true fun _ _ h=>known_ok h
end Go.Proofs.Tryz
set_option linter.unusedVariables false
namespace Go.Proofs.Tryz
open Go Go.V Go.Proofs
def al_law09_through:AL (Int × Int × (List (Int × Int)) × Int × Int):=(.cons (.k (.i .i64)) (.cons (.k (.i .i64)) (.cons (.k (.list (.pair (.i .i64) (.i .i64)))) (.cons (.k (.i .i64)) (.one (.k (.i .i64)))))))
def pre_law09_through (d:Int × Int × (List (Int × Int)) × Int × Int):Prop:=bookOk d.1 d.2.1 d.2.2.1∧-1 ≤ d.2.2.2.2∧d.2.2.2.2 ≤ 10001∧0 ≤ d.2.2.2.1∧d.2.2.2.1 < d.2.2.1.length
def res_law09_through (d:Int × Int × (List (Int × Int)) × Int × Int):SV:=.tup [.agg [.val (.i .i64) ((thrU d.1 d.2.1 d.2.2.1 d.2.2.2.1 d.2.2.2.2).1.1),.val (.i .i64) ((thrU d.1 d.2.1 d.2.2.1 d.2.2.2.1 d.2.2.2.2).1.2)],.val .bo ((thrU d.1 d.2.1 d.2.2.1 d.2.2.2.1 d.2.2.2.2).2)]
def obs_law09_through (d:Int × Int × (List (Int × Int)) × Int × Int):List OB:=[]
def s_law09_through:CSp:=mkSp al_law09_through pre_law09_through res_law09_through obs_law09_through
def vc_law09_through (g:Int) (s:Int) (l:List (Int × Int)) (ei:Int) (t:Int):Prop :=
 (True)∧∃ (e3:Unit) (d30:Int × Int × Int),((s=s∧l=l∧ei=ei∧t=t∧True∧True∧(0:Int)=d30.2.2∧True)∧(((0:Int)=(0:Int)∧(0:Int)=(0:Int)∧(([]:List SV)=[]))∧(g=d30.1∧g=d30.2.1∧(([]:List SV)=[]))∧True)) ∧
 LoopP (fun (d3:Int × Int × Int) (q3:(Int × Int × Int)→Prop) =>
  ((decide (d3.2.2 < (lI l)))=true →
   (0 ≤ d3.2.2)∧(d3.2.2 < (List.length l))∧(I64 ((gD l d3.2.2 (0,0)).2 - s))∧(0 ≤ d3.2.2)∧(d3.2.2 < (List.length l))∧(I64 ((gD l d3.2.2 (0,0)).2 + s))∧((d3.2.2 == ei)=true →
    ((decide ((gmax (gmax (0:Int) ((gD l d3.2.2 (0,0)).2 - s)) t) > (gmin ((gD l d3.2.2 (0,0)).2 + s) t)))=true →
     (((d3.1=((thrU g s l ei t).1.1)∧d3.2.1=((thrU g s l ei t).1.2)∧(([]:List SV)=[]))∧false=((thrU g s l ei t).2)∧(([]:List SV)=[]))∧(True))) ∧
    ((decide ((gmax (gmax (0:Int) ((gD l d3.2.2 (0,0)).2 - s)) t) > (gmin ((gD l d3.2.2 (0,0)).2 + s) t)))=false →
     (0 ≤ d3.2.2)∧(d3.2.2 < (List.length l))∧(((gD l d3.2.2 (0,0)).1 == (1:Int))=true →
      (I64 (d3.1 - (gmin ((gD l d3.2.2 (0,0)).2 + s) t)))∧(I64 (d3.2.1 - (gmax (gmax (0:Int) ((gD l d3.2.2 (0,0)).2 - s)) t)))∧(True)∧((decide ((gmax (0:Int) (d3.1 - (gmin ((gD l d3.2.2 (0,0)).2 + s) t))) > (d3.2.1 - (gmax (gmax (0:Int) ((gD l d3.2.2 (0,0)).2 - s)) t))))=true →
       ((((gmax (0:Int) (d3.1 - (gmin ((gD l d3.2.2 (0,0)).2 + s) t)))=((thrU g s l ei t).1.1)∧(d3.2.1 - (gmax (gmax (0:Int) ((gD l d3.2.2 (0,0)).2 - s)) t))=((thrU g s l ei t).1.2)∧(([]:List SV)=[]))∧false=((thrU g s l ei t).2)∧(([]:List SV)=[]))∧(True))) ∧
      ((decide ((gmax (0:Int) (d3.1 - (gmin ((gD l d3.2.2 (0,0)).2 + s) t))) > (d3.2.1 - (gmax (gmax (0:Int) ((gD l d3.2.2 (0,0)).2 - s)) t))))=false →
       (I64 (d3.2.2 + (1:Int)))∧(∃ d4:Int × Int × Int,((s=s∧l=l∧ei=ei∧t=t∧True∧True∧(d3.2.2 + (1:Int))=d4.2.2∧True)∧(((0:Int)=(0:Int)∧(0:Int)=(0:Int)∧(([]:List SV)=[]))∧((gmax (0:Int) (d3.1 - (gmin ((gD l d3.2.2 (0,0)).2 + s) t)))=d4.1∧(d3.2.1 - (gmax (gmax (0:Int) ((gD l d3.2.2 (0,0)).2 - s)) t))=d4.2.1∧(([]:List SV)=[]))∧True))∧q3 d4))) ∧
     (((gD l d3.2.2 (0,0)).1 == (1:Int))=false →
      (((gD l d3.2.2 (0,0)).1 == (2:Int))=true →
       (I64 (d3.1 + (gmax (gmax (0:Int) ((gD l d3.2.2 (0,0)).2 - s)) t)))∧(I64 (d3.2.1 + (gmin ((gD l d3.2.2 (0,0)).2 + s) t)))∧(True)∧((decide ((d3.1 + (gmax (gmax (0:Int) ((gD l d3.2.2 (0,0)).2 - s)) t)) > (d3.2.1 + (gmin ((gD l d3.2.2 (0,0)).2 + s) t))))=true →
        ((((d3.1 + (gmax (gmax (0:Int) ((gD l d3.2.2 (0,0)).2 - s)) t))=((thrU g s l ei t).1.1)∧(d3.2.1 + (gmin ((gD l d3.2.2 (0,0)).2 + s) t))=((thrU g s l ei t).1.2)∧(([]:List SV)=[]))∧false=((thrU g s l ei t).2)∧(([]:List SV)=[]))∧(True))) ∧
       ((decide ((d3.1 + (gmax (gmax (0:Int) ((gD l d3.2.2 (0,0)).2 - s)) t)) > (d3.2.1 + (gmin ((gD l d3.2.2 (0,0)).2 + s) t))))=false →
        (I64 (d3.2.2 + (1:Int)))∧(∃ d5:Int × Int × Int,((s=s∧l=l∧ei=ei∧t=t∧True∧True∧(d3.2.2 + (1:Int))=d5.2.2∧True)∧(((0:Int)=(0:Int)∧(0:Int)=(0:Int)∧(([]:List SV)=[]))∧((d3.1 + (gmax (gmax (0:Int) ((gD l d3.2.2 (0,0)).2 - s)) t))=d5.1∧(d3.2.1 + (gmin ((gD l d3.2.2 (0,0)).2 + s) t))=d5.2.1∧(([]:List SV)=[]))∧True))∧q3 d5))) ∧
      (((gD l d3.2.2 (0,0)).1 == (2:Int))=false →
       (True)∧((decide ((gmax d3.1 (gmax (gmax (0:Int) ((gD l d3.2.2 (0,0)).2 - s)) t)) > (gmin d3.2.1 (gmin ((gD l d3.2.2 (0,0)).2 + s) t))))=true →
        ((((gmax d3.1 (gmax (gmax (0:Int) ((gD l d3.2.2 (0,0)).2 - s)) t))=((thrU g s l ei t).1.1)∧(gmin d3.2.1 (gmin ((gD l d3.2.2 (0,0)).2 + s) t))=((thrU g s l ei t).1.2)∧(([]:List SV)=[]))∧false=((thrU g s l ei t).2)∧(([]:List SV)=[]))∧(True))) ∧
       ((decide ((gmax d3.1 (gmax (gmax (0:Int) ((gD l d3.2.2 (0,0)).2 - s)) t)) > (gmin d3.2.1 (gmin ((gD l d3.2.2 (0,0)).2 + s) t))))=false →
        (I64 (d3.2.2 + (1:Int)))∧(∃ d6:Int × Int × Int,((s=s∧l=l∧ei=ei∧t=t∧True∧True∧(d3.2.2 + (1:Int))=d6.2.2∧True)∧(((0:Int)=(0:Int)∧(0:Int)=(0:Int)∧(([]:List SV)=[]))∧((gmax d3.1 (gmax (gmax (0:Int) ((gD l d3.2.2 (0,0)).2 - s)) t))=d6.1∧(gmin d3.2.1 (gmin ((gD l d3.2.2 (0,0)).2 + s) t))=d6.2.1∧(([]:List SV)=[]))∧True))∧q3 d6)))))) ∧
   ((d3.2.2 == ei)=false →
    ((decide ((gmax (0:Int) ((gD l d3.2.2 (0,0)).2 - s)) > ((gD l d3.2.2 (0,0)).2 + s)))=true →
     (((d3.1=((thrU g s l ei t).1.1)∧d3.2.1=((thrU g s l ei t).1.2)∧(([]:List SV)=[]))∧false=((thrU g s l ei t).2)∧(([]:List SV)=[]))∧(True))) ∧
    ((decide ((gmax (0:Int) ((gD l d3.2.2 (0,0)).2 - s)) > ((gD l d3.2.2 (0,0)).2 + s)))=false →
     (0 ≤ d3.2.2)∧(d3.2.2 < (List.length l))∧(((gD l d3.2.2 (0,0)).1 == (1:Int))=true →
      (I64 (d3.1 - ((gD l d3.2.2 (0,0)).2 + s)))∧(I64 (d3.2.1 - (gmax (0:Int) ((gD l d3.2.2 (0,0)).2 - s))))∧(True)∧((decide ((gmax (0:Int) (d3.1 - ((gD l d3.2.2 (0,0)).2 + s))) > (d3.2.1 - (gmax (0:Int) ((gD l d3.2.2 (0,0)).2 - s)))))=true →
       ((((gmax (0:Int) (d3.1 - ((gD l d3.2.2 (0,0)).2 + s)))=((thrU g s l ei t).1.1)∧(d3.2.1 - (gmax (0:Int) ((gD l d3.2.2 (0,0)).2 - s)))=((thrU g s l ei t).1.2)∧(([]:List SV)=[]))∧false=((thrU g s l ei t).2)∧(([]:List SV)=[]))∧(True))) ∧
      ((decide ((gmax (0:Int) (d3.1 - ((gD l d3.2.2 (0,0)).2 + s))) > (d3.2.1 - (gmax (0:Int) ((gD l d3.2.2 (0,0)).2 - s)))))=false →
       (I64 (d3.2.2 + (1:Int)))∧(∃ d7:Int × Int × Int,((s=s∧l=l∧ei=ei∧t=t∧True∧True∧(d3.2.2 + (1:Int))=d7.2.2∧True)∧(((0:Int)=(0:Int)∧(0:Int)=(0:Int)∧(([]:List SV)=[]))∧((gmax (0:Int) (d3.1 - ((gD l d3.2.2 (0,0)).2 + s)))=d7.1∧(d3.2.1 - (gmax (0:Int) ((gD l d3.2.2 (0,0)).2 - s)))=d7.2.1∧(([]:List SV)=[]))∧True))∧q3 d7))) ∧
     (((gD l d3.2.2 (0,0)).1 == (1:Int))=false →
      (((gD l d3.2.2 (0,0)).1 == (2:Int))=true →
       (I64 (d3.1 + (gmax (0:Int) ((gD l d3.2.2 (0,0)).2 - s))))∧(I64 (d3.2.1 + ((gD l d3.2.2 (0,0)).2 + s)))∧(True)∧((decide ((d3.1 + (gmax (0:Int) ((gD l d3.2.2 (0,0)).2 - s))) > (d3.2.1 + ((gD l d3.2.2 (0,0)).2 + s))))=true →
        ((((d3.1 + (gmax (0:Int) ((gD l d3.2.2 (0,0)).2 - s)))=((thrU g s l ei t).1.1)∧(d3.2.1 + ((gD l d3.2.2 (0,0)).2 + s))=((thrU g s l ei t).1.2)∧(([]:List SV)=[]))∧false=((thrU g s l ei t).2)∧(([]:List SV)=[]))∧(True))) ∧
       ((decide ((d3.1 + (gmax (0:Int) ((gD l d3.2.2 (0,0)).2 - s))) > (d3.2.1 + ((gD l d3.2.2 (0,0)).2 + s))))=false →
        (I64 (d3.2.2 + (1:Int)))∧(∃ d8:Int × Int × Int,((s=s∧l=l∧ei=ei∧t=t∧True∧True∧(d3.2.2 + (1:Int))=d8.2.2∧True)∧(((0:Int)=(0:Int)∧(0:Int)=(0:Int)∧(([]:List SV)=[]))∧((d3.1 + (gmax (0:Int) ((gD l d3.2.2 (0,0)).2 - s)))=d8.1∧(d3.2.1 + ((gD l d3.2.2 (0,0)).2 + s))=d8.2.1∧(([]:List SV)=[]))∧True))∧q3 d8))) ∧
      (((gD l d3.2.2 (0,0)).1 == (2:Int))=false →
       (True)∧((decide ((gmax d3.1 (gmax (0:Int) ((gD l d3.2.2 (0,0)).2 - s))) > (gmin d3.2.1 ((gD l d3.2.2 (0,0)).2 + s))))=true →
        ((((gmax d3.1 (gmax (0:Int) ((gD l d3.2.2 (0,0)).2 - s)))=((thrU g s l ei t).1.1)∧(gmin d3.2.1 ((gD l d3.2.2 (0,0)).2 + s))=((thrU g s l ei t).1.2)∧(([]:List SV)=[]))∧false=((thrU g s l ei t).2)∧(([]:List SV)=[]))∧(True))) ∧
       ((decide ((gmax d3.1 (gmax (0:Int) ((gD l d3.2.2 (0,0)).2 - s))) > (gmin d3.2.1 ((gD l d3.2.2 (0,0)).2 + s))))=false →
        (I64 (d3.2.2 + (1:Int)))∧(∃ d9:Int × Int × Int,((s=s∧l=l∧ei=ei∧t=t∧True∧True∧(d3.2.2 + (1:Int))=d9.2.2∧True)∧(((0:Int)=(0:Int)∧(0:Int)=(0:Int)∧(([]:List SV)=[]))∧((gmax d3.1 (gmax (0:Int) ((gD l d3.2.2 (0,0)).2 - s)))=d9.1∧(gmin d3.2.1 ((gD l d3.2.2 (0,0)).2 + s))=d9.2.1∧(([]:List SV)=[]))∧True))∧q3 d9))))))) ∧
  ((decide (d3.2.2 < (lI l)))=false →
   (((d3.1=((thrU g s l ei t).1.1)∧d3.2.1=((thrU g s l ei t).1.2)∧(([]:List SV)=[]))∧true=((thrU g s l ei t).2)∧(([]:List SV)=[]))∧(True)))) d30
def cx_law09_through:Cx:=⟨[],[(29,s_law09_span)],97,[],0,[],[],[],[],false,[],[],[]⟩
def lp_law09_through (g:Int) (s:Int) (l:List (Int × Int)) (ei:Int) (t:Int):List (Nat × LoopAnn):=[(0,⟨Unit,Int × Int × Int,[1,2,3,4,10,12,13],fun e x=>[.val (.i .i64) s,.val (.list (.pair (.i .i64) (.i .i64))) l,.val (.i .i64) ei,.val (.i .i64) t,.box 10 0,.box 12 0,.val (.i .i64) x.2.2],fun e x=>[(10,.slot 10,.cells [.val (.i .i64) (0:Int),.val (.i .i64) (0:Int)] (some 30)),(12,.slot 12,.cells [.val (.i .i64) x.1,.val (.i .i64) x.2.1] (some 30))]⟩)]
set_option maxRecDepth 100000 in
theorem vq_law09_through (d:Int × Int × (List (Int × Int)) × Int × Int):gwp (cx_law09_through) (lp_law09_through d.1 d.2.1 d.2.2.1 d.2.2.2.1 d.2.2.2.2) c22 0 (gend [.cell 10 true 2,.tmp 11] (res_law09_through d) (obs_law09_through d)) (gstart 97 (AL.can al_law09_through d))=vc_law09_through d.1 d.2.1 d.2.2.1 d.2.2.2.1 d.2.2.2.2:=by kernel_rfl
abbrev Ok_law09_through:Prop:=OkC Tryz.prog 22 s_law09_through
theorem mk_law09_through (h:∀ (g:Int) (s:Int) (l:List (Int × Int)) (ei:Int) (t:Int),(bookOk g s l∧-1 ≤ t∧t ≤ 10001∧0 ≤ ei∧ei < l.length)→vc_law09_through g s l ei t):OkC Tryz.prog 22 s_law09_through :=
 okC_vc fun22 mixed (C:=cx_law09_through) (V:=fun (d:Int × Int × (List (Int × Int)) × Int × Int)=>vc_law09_through d.1 d.2.1 d.2.2.1 d.2.2.2.1 d.2.2.2.2) ⟨(.cons ok_law09_span .nil),XsOk.nil,ItsOk.nil,YlOk.nil,IysOk.nil⟩ (vq_law09_through) fun d hp=>h d.1 d.2.1 d.2.2.1 d.2.2.2.1 d.2.2.2.2 hp
end Go.Proofs.Tryz
set_option linter.unusedVariables false
namespace Go.Proofs.Tryz
open Go Go.V Go.Proofs
theorem ok_law09_through:Ok_law09_through:=mk_law09_through fun g s l ei t h=>by
 obtain ⟨hb,t1,t2,e1,e2⟩:=h
 obtain ⟨e,rfl⟩:=Int.eq_ofNat_of_zero_le e1
 obtain ⟨b1,b2,b3,b4,b5,b6⟩:=hb
 unfold vc_law09_through; (try delta lI gD sT I64)
 simp only [decide_eq_true_eq,decide_eq_false_iff_not,beq_iff_eq,beq_eq_false_iff_ne,ne_eq]
 refine ⟨trivial,(),(g,g,0),(by and_intros <;> first | rfl | trivial | simp),?_⟩
 refine LoopP.count3 l.length (fun k p1 p2=>thGo s e t (l.drop k) (k:Int) (p1,p2)=thrU g s l e t∧-(1000000 + 12002000 * (k:Int)) ≤ p1∧p1 ≤ 1000000 + 12002000 * (k:Int)∧-(1000000 + 12002000 * (k:Int)) ≤ p2∧p2 ≤ 1000000 + 12002000 * (k:Int)) ⟨rfl,by omega,by omega,by omega,by omega⟩ fun k p1 p2 hk hJ q hq=>?_
 obtain ⟨hJ,q1,q2,q3,q4⟩:=hJ
 dsimp only
 simp only [Int.toNat_natCast]
 have hc:(((k + 1:Nat)):Int)=(k:Int) + 1:=by omega
 refine ⟨fun hlt=>?_,fun hge=>?_⟩
 ·have hkl:k < l.length:=by omega
  obtain ⟨x1,x2,x3,x4⟩:=b6 _ (List.getElem_mem hkl)
  rw [List.drop_eq_getElem_cons hkl] at hJ
  simp only [thGo] at hJ
  rw [getD_nat hkl]
  generalize l[k]=x at *
  have m1:=gmax_eq 0 (x.2 - s)
  have m2:=gmax_eq (gmax 0 (x.2 - s)) t
  have m3:=gmin_eq (x.2 + s) t
  refine ⟨by omega,hlt,by rw [InK_i64]; omega,by omega,hlt,by rw [InK_i64]; omega,fun hke=>?_,fun hke=>?_⟩
  ·have hr:thR s x k e t=(gmax (gmax 0 (x.2 - s)) t,gmin (x.2 + s) t):=by unfold thR realB; rw [if_pos hke]
   have hr1:-1 ≤ gmax (gmax 0 (x.2 - s)) t∧gmax (gmax 0 (x.2 - s)) t ≤ 12001000∧-1 ≤ gmin (x.2 + s) t∧gmin (x.2 + s) t ≤ 12001000:=by omega
   generalize gmax (gmax 0 (x.2 - s)) t=r1 at *
   generalize gmin (x.2 + s) t=r2 at *
   rw [hr] at hJ
   have n1:=gmax_eq 0 (p1 - r2)
   have n2:=gmax_eq p1 r1
   have n3:=gmin_eq p2 r2
   refine ⟨fun h1=>?_,fun h1=>⟨by omega,hlt,fun k1=>?_,fun k1=>⟨fun k2=>?_,fun k2=>?_⟩⟩⟩
   ·rw [if_pos h1] at hJ
    rw [←hJ]; exact (by and_intros <;> first | rfl | trivial | simp)
   ·have hA:thA (p1,p2) (r1,r2) x=(gmax 0 (p1 - r2),p2 - r1):=by unfold thA; rw [if_pos k1]
    rw [if_neg h1,hA] at hJ
    refine ⟨by rw [InK_i64]; omega,by rw [InK_i64]; omega,trivial,fun h2=>?_,fun h2=>⟨by rw [InK_i64]; omega,(gmax 0 (p1 - r2),p2 - r1,(k:Int) + 1),(by and_intros <;> first | rfl | trivial | simp),hq _ _ hkl ⟨?_,by omega,by omega,by omega,by omega⟩⟩⟩
    ·rw [if_pos h2] at hJ; rw [←hJ]; exact (by and_intros <;> first | rfl | trivial | simp)
    ·rw [if_neg h2] at hJ; rw [hc]; exact hJ
   ·have hA:thA (p1,p2) (r1,r2) x=(p1 + r1,p2 + r2):=by unfold thA; rw [if_neg k1,if_pos k2]
    rw [if_neg h1,hA] at hJ
    refine ⟨by rw [InK_i64]; omega,by rw [InK_i64]; omega,trivial,fun h2=>?_,fun h2=>⟨by rw [InK_i64]; omega,(p1 + r1,p2 + r2,(k:Int) + 1),(by and_intros <;> first | rfl | trivial | simp),hq _ _ hkl ⟨?_,by omega,by omega,by omega,by omega⟩⟩⟩
    ·rw [if_pos h2] at hJ; rw [←hJ]; exact (by and_intros <;> first | rfl | trivial | simp)
    ·rw [if_neg h2] at hJ; rw [hc]; exact hJ
   ·have hA:thA (p1,p2) (r1,r2) x=(gmax p1 r1,gmin p2 r2):=by unfold thA; rw [if_neg k1,if_neg k2]
    rw [if_neg h1,hA] at hJ
    refine ⟨trivial,fun h2=>?_,fun h2=>⟨by rw [InK_i64]; omega,(gmax p1 r1,gmin p2 r2,(k:Int) + 1),(by and_intros <;> first | rfl | trivial | simp),hq _ _ hkl ⟨?_,by omega,by omega,by omega,by omega⟩⟩⟩
    ·rw [if_pos h2] at hJ; rw [←hJ]; exact (by and_intros <;> first | rfl | trivial | simp)
    ·rw [if_neg h2] at hJ; rw [hc]; exact hJ
  ·have hr:thR s x k e t=(gmax 0 (x.2 - s),x.2 + s):=by unfold thR realB; rw [if_neg hke]
   have hr1:-1 ≤ gmax 0 (x.2 - s)∧gmax 0 (x.2 - s) ≤ 12001000∧-1 ≤ x.2 + s∧x.2 + s ≤ 12001000:=by omega
   clear m2 m3
   generalize gmax 0 (x.2 - s)=r1 at *
   generalize x.2 + s=r2 at *
   rw [hr] at hJ
   have n1:=gmax_eq 0 (p1 - r2)
   have n2:=gmax_eq p1 r1
   have n3:=gmin_eq p2 r2
   refine ⟨fun h1=>?_,fun h1=>⟨by omega,hlt,fun k1=>?_,fun k1=>⟨fun k2=>?_,fun k2=>?_⟩⟩⟩
   ·rw [if_pos h1] at hJ
    rw [←hJ]; exact (by and_intros <;> first | rfl | trivial | simp)
   ·have hA:thA (p1,p2) (r1,r2) x=(gmax 0 (p1 - r2),p2 - r1):=by unfold thA; rw [if_pos k1]
    rw [if_neg h1,hA] at hJ
    refine ⟨by rw [InK_i64]; omega,by rw [InK_i64]; omega,trivial,fun h2=>?_,fun h2=>⟨by rw [InK_i64]; omega,(gmax 0 (p1 - r2),p2 - r1,(k:Int) + 1),(by and_intros <;> first | rfl | trivial | simp),hq _ _ hkl ⟨?_,by omega,by omega,by omega,by omega⟩⟩⟩
    ·rw [if_pos h2] at hJ; rw [←hJ]; exact (by and_intros <;> first | rfl | trivial | simp)
    ·rw [if_neg h2] at hJ; rw [hc]; exact hJ
   ·have hA:thA (p1,p2) (r1,r2) x=(p1 + r1,p2 + r2):=by unfold thA; rw [if_neg k1,if_pos k2]
    rw [if_neg h1,hA] at hJ
    refine ⟨by rw [InK_i64]; omega,by rw [InK_i64]; omega,trivial,fun h2=>?_,fun h2=>⟨by rw [InK_i64]; omega,(p1 + r1,p2 + r2,(k:Int) + 1),(by and_intros <;> first | rfl | trivial | simp),hq _ _ hkl ⟨?_,by omega,by omega,by omega,by omega⟩⟩⟩
    ·rw [if_pos h2] at hJ; rw [←hJ]; exact (by and_intros <;> first | rfl | trivial | simp)
    ·rw [if_neg h2] at hJ; rw [hc]; exact hJ
   ·have hA:thA (p1,p2) (r1,r2) x=(gmax p1 r1,gmin p2 r2):=by unfold thA; rw [if_neg k1,if_neg k2]
    rw [if_neg h1,hA] at hJ
    refine ⟨trivial,fun h2=>?_,fun h2=>⟨by rw [InK_i64]; omega,(gmax p1 r1,gmin p2 r2,(k:Int) + 1),(by and_intros <;> first | rfl | trivial | simp),hq _ _ hkl ⟨?_,by omega,by omega,by omega,by omega⟩⟩⟩
    ·rw [if_pos h2] at hJ; rw [←hJ]; exact (by and_intros <;> first | rfl | trivial | simp)
    ·rw [if_neg h2] at hJ; rw [hc]; exact hJ
 ·have:k=l.length:=by omega
  subst this
  rw [List.drop_length] at hJ
  simp only [thGo] at hJ
  rw [←hJ]
  exact (by and_intros <;> first | rfl | trivial | simp)
end Go.Proofs.Tryz
set_option linter.unusedVariables false
namespace Go.Proofs.Tryz
open Go Go.V Go.Proofs
def al_law09_Scales_told:AL (Int × Int × (List (Int × Int)) × List Int):=(.one (.agg (.cons (.k (.i .u8)) (.cons (.k (.i .u8)) (.cons (.k (.list (.pair (.i .u8) (.i .u8)))) (.one (.k (.list (.i .i8)))))))))
def pre_law09_Scales_told (d:Int × Int × (List (Int × Int)) × List Int):Prop:=0 ≤ d.1∧d.1 ≤ 255∧0 ≤ d.2.1∧d.2.1 ≤ 255∧esOk d.2.2.1∧wrOk d.2.2.2
def res_law09_Scales_told (d:Int × Int × (List (Int × Int)) × List Int):SV:=.tup [.val (.i .i64) (1 + 4 * d.1),.val (.i .i64) (Int.tmod d.2.1 30),.lst 0,.lst 1,.val (.i .i64) (toldV (1 + 4 * d.1) d.2.2.1)]
def obs_law09_Scales_told (d:Int × Int × (List (Int × Int)) × List Int):List OB:=[.lst 44 (.pair (.i .i64) (.i .i64)) (toldL (1 + 4 * d.1) (Int.tmod d.2.1 30) d.2.2.1 d.2.2.2) false,.lst 3 (.i .i64) (toldW (1 + 4 * d.1) d.2.2.1) false]
def s_law09_Scales_told:CSp:=mkSp al_law09_Scales_told pre_law09_Scales_told res_law09_Scales_told obs_law09_Scales_told
def vc_law09_Scales_told (bg:Int) (bs:Int) (es:List (Int × Int)) (wr:List Int):Prop :=
 (I64 bg)∧(I64 ((4:Int) * bg))∧(I64 ((1:Int) + ((4:Int) * bg)))∧(I64 bs)∧((30:Int) ≠ 0)∧((True∧((1:Int) + ((4:Int) * bg))=((1:Int) + ((4:Int) * bg))∧(Int.tmod bs (30:Int))=(Int.tmod bs (30:Int))∧True∧True∧True)∧((bg=bg∧bs=bs∧es=es∧wr=wr∧(([]:List SV)=[]))∧(([]:List (Int × Int))=([]:List (Int × Int))∧false=false)∧(([]:List Int)=([]:List Int)∧false=false)∧True))∧((I64 bg)∧(I64 ((4:Int) * bg))∧(I64 ((1:Int) + ((4:Int) * bg)))∧(I64 bs)∧((30:Int) ≠ 0)∧((True∧((1:Int) + ((4:Int) * bg))=((1:Int) + ((4:Int) * bg))∧(Int.tmod bs (30:Int))=(Int.tmod bs (30:Int))∧True∧True∧True)∧((bg=bg∧bs=bs∧es=es∧wr=wr∧(([]:List SV)=[]))∧(([]:List (Int × Int))=([]:List (Int × Int))∧false=false)∧(([]:List Int)=([]:List Int)∧false=false)∧True)))∧∃ (e3:Unit) (d30:(List (Int × Int)) × (List Int) × Int × Int),((True∧((1:Int) + ((4:Int) * bg))=((1:Int) + ((4:Int) * bg))∧(Int.tmod bs (30:Int))=(Int.tmod bs (30:Int))∧True∧True∧((1:Int) + ((4:Int) * bg))=d30.2.2.1∧(0:Int)=d30.2.2.2∧True)∧((bg=bg∧bs=bs∧es=es∧wr=wr∧(([]:List SV)=[]))∧(([]:List (Int × Int))=d30.1∧false=false)∧(([]:List Int)=d30.2.1∧false=false)∧True)) ∧
 LoopP (fun (d3:(List (Int × Int)) × (List Int) × Int × Int) (q3:((List (Int × Int)) × (List Int) × Int × Int)→Prop) =>
  (((decide (d3.2.2.2 < (lI es))) && (decide (d3.2.2.2 < (12:Int))))=true →
   (0 ≤ d3.2.2.2)∧(d3.2.2.2 < (List.length es))∧((3:Int) ≠ 0)∧(InK .u8 ((1:Int) + (Int.tmod (gD es d3.2.2.2 (0,0)).1 (3:Int))))∧(I64 ((1:Int) + (Int.tmod (gD es d3.2.2.2 (0,0)).1 (3:Int))))∧(I64 (gD es d3.2.2.2 (0,0)).2)∧((((1:Int) + (Int.tmod (gD es d3.2.2.2 (0,0)).1 (3:Int))) == (1:Int))=true →
    (I64 (d3.2.2.1 - (gmin (gD es d3.2.2.2 (0,0)).2 d3.2.2.1)))∧((decide ((lI wr) > (0:Int)))=true →
     ((lI wr) ≠ 0)∧(0 ≤ (Int.tmod d3.2.2.2 (lI wr)))∧((Int.tmod d3.2.2.2 (lI wr)) < (List.length wr))∧(I64 (gD wr (Int.tmod d3.2.2.2 (lI wr)) 0))∧(I64 ((Int.tmod bs (30:Int)) + (1:Int)))∧(((Int.tmod bs (30:Int)) + (1:Int)) ≠ 0)∧(I64 ((gmin (gD es d3.2.2.2 (0,0)).2 d3.2.2.1) + (Int.tmod (gD wr (Int.tmod d3.2.2.2 (lI wr)) 0) ((Int.tmod bs (30:Int)) + (1:Int)))))∧(((List.length d3.1) + (List.length [(((1:Int) + (Int.tmod (gD es d3.2.2.2 (0,0)).1 (3:Int))),(gmax (0:Int) ((gmin (gD es d3.2.2.2 (0,0)).2 d3.2.2.1) + (Int.tmod (gD wr (Int.tmod d3.2.2.2 (lI wr)) 0) ((Int.tmod bs (30:Int)) + (1:Int))))))])) * 16 ≤ 70368744177664)∧(((List.length d3.2.1) + (List.length [(gmin (gD es d3.2.2.2 (0,0)).2 d3.2.2.1)])) * 8 ≤ 70368744177664)∧(I64 (d3.2.2.2 + (1:Int)))∧(∃ d4:(List (Int × Int)) × (List Int) × Int × Int,((True∧((1:Int) + ((4:Int) * bg))=((1:Int) + ((4:Int) * bg))∧(Int.tmod bs (30:Int))=(Int.tmod bs (30:Int))∧True∧True∧(d3.2.2.1 - (gmin (gD es d3.2.2.2 (0,0)).2 d3.2.2.1))=d4.2.2.1∧(d3.2.2.2 + (1:Int))=d4.2.2.2∧True)∧((bg=bg∧bs=bs∧es=es∧wr=wr∧(([]:List SV)=[]))∧((d3.1++[(((1:Int) + (Int.tmod (gD es d3.2.2.2 (0,0)).1 (3:Int))),(gmax (0:Int) ((gmin (gD es d3.2.2.2 (0,0)).2 d3.2.2.1) + (Int.tmod (gD wr (Int.tmod d3.2.2.2 (lI wr)) 0) ((Int.tmod bs (30:Int)) + (1:Int))))))])=d4.1∧false=false)∧((d3.2.1++[(gmin (gD es d3.2.2.2 (0,0)).2 d3.2.2.1)])=d4.2.1∧false=false)∧True))∧q3 d4)) ∧
    ((decide ((lI wr) > (0:Int)))=false →
     (I64 ((gmin (gD es d3.2.2.2 (0,0)).2 d3.2.2.1) + (0:Int)))∧(((List.length d3.1) + (List.length [(((1:Int) + (Int.tmod (gD es d3.2.2.2 (0,0)).1 (3:Int))),(gmax (0:Int) ((gmin (gD es d3.2.2.2 (0,0)).2 d3.2.2.1) + (0:Int))))])) * 16 ≤ 70368744177664)∧(((List.length d3.2.1) + (List.length [(gmin (gD es d3.2.2.2 (0,0)).2 d3.2.2.1)])) * 8 ≤ 70368744177664)∧(I64 (d3.2.2.2 + (1:Int)))∧(∃ d5:(List (Int × Int)) × (List Int) × Int × Int,((True∧((1:Int) + ((4:Int) * bg))=((1:Int) + ((4:Int) * bg))∧(Int.tmod bs (30:Int))=(Int.tmod bs (30:Int))∧True∧True∧(d3.2.2.1 - (gmin (gD es d3.2.2.2 (0,0)).2 d3.2.2.1))=d5.2.2.1∧(d3.2.2.2 + (1:Int))=d5.2.2.2∧True)∧((bg=bg∧bs=bs∧es=es∧wr=wr∧(([]:List SV)=[]))∧((d3.1++[(((1:Int) + (Int.tmod (gD es d3.2.2.2 (0,0)).1 (3:Int))),(gmax (0:Int) ((gmin (gD es d3.2.2.2 (0,0)).2 d3.2.2.1) + (0:Int))))])=d5.1∧false=false)∧((d3.2.1++[(gmin (gD es d3.2.2.2 (0,0)).2 d3.2.2.1)])=d5.2.1∧false=false)∧True))∧q3 d5))) ∧
   ((((1:Int) + (Int.tmod (gD es d3.2.2.2 (0,0)).1 (3:Int))) == (1:Int))=false →
    ((((1:Int) + (Int.tmod (gD es d3.2.2.2 (0,0)).1 (3:Int))) == (2:Int))=true →
     (I64 (d3.2.2.1 + (gD es d3.2.2.2 (0,0)).2))∧((decide ((lI wr) > (0:Int)))=true →
      ((lI wr) ≠ 0)∧(0 ≤ (Int.tmod d3.2.2.2 (lI wr)))∧((Int.tmod d3.2.2.2 (lI wr)) < (List.length wr))∧(I64 (gD wr (Int.tmod d3.2.2.2 (lI wr)) 0))∧(I64 ((Int.tmod bs (30:Int)) + (1:Int)))∧(((Int.tmod bs (30:Int)) + (1:Int)) ≠ 0)∧(I64 ((gD es d3.2.2.2 (0,0)).2 + (Int.tmod (gD wr (Int.tmod d3.2.2.2 (lI wr)) 0) ((Int.tmod bs (30:Int)) + (1:Int)))))∧(((List.length d3.1) + (List.length [(((1:Int) + (Int.tmod (gD es d3.2.2.2 (0,0)).1 (3:Int))),(gmax (0:Int) ((gD es d3.2.2.2 (0,0)).2 + (Int.tmod (gD wr (Int.tmod d3.2.2.2 (lI wr)) 0) ((Int.tmod bs (30:Int)) + (1:Int))))))])) * 16 ≤ 70368744177664)∧(((List.length d3.2.1) + (List.length [(gD es d3.2.2.2 (0,0)).2])) * 8 ≤ 70368744177664)∧(I64 (d3.2.2.2 + (1:Int)))∧(∃ d6:(List (Int × Int)) × (List Int) × Int × Int,((True∧((1:Int) + ((4:Int) * bg))=((1:Int) + ((4:Int) * bg))∧(Int.tmod bs (30:Int))=(Int.tmod bs (30:Int))∧True∧True∧(d3.2.2.1 + (gD es d3.2.2.2 (0,0)).2)=d6.2.2.1∧(d3.2.2.2 + (1:Int))=d6.2.2.2∧True)∧((bg=bg∧bs=bs∧es=es∧wr=wr∧(([]:List SV)=[]))∧((d3.1++[(((1:Int) + (Int.tmod (gD es d3.2.2.2 (0,0)).1 (3:Int))),(gmax (0:Int) ((gD es d3.2.2.2 (0,0)).2 + (Int.tmod (gD wr (Int.tmod d3.2.2.2 (lI wr)) 0) ((Int.tmod bs (30:Int)) + (1:Int))))))])=d6.1∧false=false)∧((d3.2.1++[(gD es d3.2.2.2 (0,0)).2])=d6.2.1∧false=false)∧True))∧q3 d6)) ∧
     ((decide ((lI wr) > (0:Int)))=false →
      (I64 ((gD es d3.2.2.2 (0,0)).2 + (0:Int)))∧(((List.length d3.1) + (List.length [(((1:Int) + (Int.tmod (gD es d3.2.2.2 (0,0)).1 (3:Int))),(gmax (0:Int) ((gD es d3.2.2.2 (0,0)).2 + (0:Int))))])) * 16 ≤ 70368744177664)∧(((List.length d3.2.1) + (List.length [(gD es d3.2.2.2 (0,0)).2])) * 8 ≤ 70368744177664)∧(I64 (d3.2.2.2 + (1:Int)))∧(∃ d7:(List (Int × Int)) × (List Int) × Int × Int,((True∧((1:Int) + ((4:Int) * bg))=((1:Int) + ((4:Int) * bg))∧(Int.tmod bs (30:Int))=(Int.tmod bs (30:Int))∧True∧True∧(d3.2.2.1 + (gD es d3.2.2.2 (0,0)).2)=d7.2.2.1∧(d3.2.2.2 + (1:Int))=d7.2.2.2∧True)∧((bg=bg∧bs=bs∧es=es∧wr=wr∧(([]:List SV)=[]))∧((d3.1++[(((1:Int) + (Int.tmod (gD es d3.2.2.2 (0,0)).1 (3:Int))),(gmax (0:Int) ((gD es d3.2.2.2 (0,0)).2 + (0:Int))))])=d7.1∧false=false)∧((d3.2.1++[(gD es d3.2.2.2 (0,0)).2])=d7.2.1∧false=false)∧True))∧q3 d7))) ∧
    ((((1:Int) + (Int.tmod (gD es d3.2.2.2 (0,0)).1 (3:Int))) == (2:Int))=false →
     ((decide ((lI wr) > (0:Int)))=true →
      ((lI wr) ≠ 0)∧(0 ≤ (Int.tmod d3.2.2.2 (lI wr)))∧((Int.tmod d3.2.2.2 (lI wr)) < (List.length wr))∧(I64 (gD wr (Int.tmod d3.2.2.2 (lI wr)) 0))∧(I64 ((Int.tmod bs (30:Int)) + (1:Int)))∧(((Int.tmod bs (30:Int)) + (1:Int)) ≠ 0)∧(I64 (d3.2.2.1 + (Int.tmod (gD wr (Int.tmod d3.2.2.2 (lI wr)) 0) ((Int.tmod bs (30:Int)) + (1:Int)))))∧(((List.length d3.1) + (List.length [(((1:Int) + (Int.tmod (gD es d3.2.2.2 (0,0)).1 (3:Int))),(gmax (0:Int) (d3.2.2.1 + (Int.tmod (gD wr (Int.tmod d3.2.2.2 (lI wr)) 0) ((Int.tmod bs (30:Int)) + (1:Int))))))])) * 16 ≤ 70368744177664)∧(((List.length d3.2.1) + (List.length [d3.2.2.1])) * 8 ≤ 70368744177664)∧(I64 (d3.2.2.2 + (1:Int)))∧(∃ d8:(List (Int × Int)) × (List Int) × Int × Int,((True∧((1:Int) + ((4:Int) * bg))=((1:Int) + ((4:Int) * bg))∧(Int.tmod bs (30:Int))=(Int.tmod bs (30:Int))∧True∧True∧d3.2.2.1=d8.2.2.1∧(d3.2.2.2 + (1:Int))=d8.2.2.2∧True)∧((bg=bg∧bs=bs∧es=es∧wr=wr∧(([]:List SV)=[]))∧((d3.1++[(((1:Int) + (Int.tmod (gD es d3.2.2.2 (0,0)).1 (3:Int))),(gmax (0:Int) (d3.2.2.1 + (Int.tmod (gD wr (Int.tmod d3.2.2.2 (lI wr)) 0) ((Int.tmod bs (30:Int)) + (1:Int))))))])=d8.1∧false=false)∧((d3.2.1++[d3.2.2.1])=d8.2.1∧false=false)∧True))∧q3 d8)) ∧
     ((decide ((lI wr) > (0:Int)))=false →
      (I64 (d3.2.2.1 + (0:Int)))∧(((List.length d3.1) + (List.length [(((1:Int) + (Int.tmod (gD es d3.2.2.2 (0,0)).1 (3:Int))),(gmax (0:Int) (d3.2.2.1 + (0:Int))))])) * 16 ≤ 70368744177664)∧(((List.length d3.2.1) + (List.length [d3.2.2.1])) * 8 ≤ 70368744177664)∧(I64 (d3.2.2.2 + (1:Int)))∧(∃ d9:(List (Int × Int)) × (List Int) × Int × Int,((True∧((1:Int) + ((4:Int) * bg))=((1:Int) + ((4:Int) * bg))∧(Int.tmod bs (30:Int))=(Int.tmod bs (30:Int))∧True∧True∧d3.2.2.1=d9.2.2.1∧(d3.2.2.2 + (1:Int))=d9.2.2.2∧True)∧((bg=bg∧bs=bs∧es=es∧wr=wr∧(([]:List SV)=[]))∧((d3.1++[(((1:Int) + (Int.tmod (gD es d3.2.2.2 (0,0)).1 (3:Int))),(gmax (0:Int) (d3.2.2.1 + (0:Int))))])=d9.1∧false=false)∧((d3.2.1++[d3.2.2.1])=d9.2.1∧false=false)∧True))∧q3 d9))))) ∧
  (((decide (d3.2.2.2 < (lI es))) && (decide (d3.2.2.2 < (12:Int))))=false →
   ((((1:Int) + ((4:Int) * bg))=(1 + 4 * bg)∧(Int.tmod bs (30:Int))=(Int.tmod bs 30)∧True∧True∧d3.2.2.1=(toldV (1 + 4 * bg) es)∧(([]:List SV)=[]))∧((d3.1=(toldL (1 + 4 * bg) (Int.tmod bs 30) es wr)∧false=false)∧(d3.2.1=(toldW (1 + 4 * bg) es)∧false=false)∧True)))) d30
def cx_law09_Scales_told:Cx:=⟨[(3,(.i .i64)),(44,(.pair (.i .i64) (.i .i64)))],[],105,[],0,[],[],[],[1,7,8,9,27],false,[],[],[]⟩
def lp_law09_Scales_told (bg:Int) (bs:Int) (es:List (Int × Int)) (wr:List Int):List (Nat × LoopAnn):=[(0,⟨Unit,(List (Int × Int)) × (List Int) × Int × Int,[1,7,8,9,10,11,12],fun e x=>[.box 1 0,.val (.i .i64) ((1:Int) + ((4:Int) * bg)),.val (.i .i64) (Int.tmod bs (30:Int)),.lst 26,.lst 27,.val (.i .i64) x.2.2.1,.val (.i .i64) x.2.2.2],fun e x=>[(1,.slot 1,.cells [.val (.i .u8) bg,.val (.i .u8) bs,.val (.list (.pair (.i .u8) (.i .u8))) es,.val (.list (.i .i8)) wr] (some 52)),(26,.slot 9,.lst 44 (.pair (.i .i64) (.i .i64)) x.1 false),(27,.slot 10,.lst 3 (.i .i64) x.2.1 false)]⟩)]
set_option maxRecDepth 100000 in
theorem vq_law09_Scales_told (d:Int × Int × (List (Int × Int)) × List Int):gwp (cx_law09_Scales_told) (lp_law09_Scales_told d.1 d.2.1 d.2.2.1 d.2.2.2) c20 0 (gend [.tmp 2,.tmp 3,.tmp 4,.tmp 5,.tmp 6] (res_law09_Scales_told d) (obs_law09_Scales_told d)) (gstart 105 (AL.can al_law09_Scales_told d))=vc_law09_Scales_told d.1 d.2.1 d.2.2.1 d.2.2.2:=by kernel_rfl
abbrev Ok_law09_Scales_told:Prop:=OkC Tryz.prog 20 s_law09_Scales_told
theorem mk_law09_Scales_told (h:∀ (bg:Int) (bs:Int) (es:List (Int × Int)) (wr:List Int),(0 ≤ bg∧bg ≤ 255∧0 ≤ bs∧bs ≤ 255∧esOk es∧wrOk wr)→vc_law09_Scales_told bg bs es wr):OkC Tryz.prog 20 s_law09_Scales_told :=
 okC_vc fun20 mixed (C:=cx_law09_Scales_told) (V:=fun (d:Int × Int × (List (Int × Int)) × List Int)=>vc_law09_Scales_told d.1 d.2.1 d.2.2.1 d.2.2.2) ⟨.nil,XsOk.nil,ItsOk.nil,YlOk.nil,IysOk.nil⟩ (vq_law09_Scales_told) fun d hp=>h d.1 d.2.1 d.2.2.1 d.2.2.2 hp
end Go.Proofs.Tryz
set_option linter.unusedVariables false
namespace Go.Proofs.Tryz
open Go Go.V Go.Proofs
theorem ok_law09_Scales_told:Ok_law09_Scales_told:=mk_law09_Scales_told fun bg bs es wr h=>by
 obtain ⟨p1,p2,p3,p4,he,hw⟩:=h
 unfold vc_law09_Scales_told; (try delta lI gD sT I64)
 have s1:=Int.tmod_nonneg 30 p3
 have s2:=Int.tmod_lt_of_pos bs (show (0:Int) < 30 by omega)
 simp only [Bool.and_eq_true,Bool.and_eq_false_iff,decide_eq_true_eq,decide_eq_false_iff_not,beq_iff_eq,beq_eq_false_iff_ne,ne_eq]
 generalize Int.tmod bs 30=s at s1 s2 ⊢
 have g1:1 ≤ 1 + 4 * bg∧1 + 4 * bg ≤ 1021:=by omega
 have k4:InK .i64 (4 * bg):=by rw [InK_i64]; omega
 generalize 1 + 4 * bg=g at g1 ⊢
 refine ⟨by rw [InK_i64]; omega,k4,by rw [InK_i64]; omega,by rw [InK_i64]; omega,by decide,(by and_intros <;> first | rfl | trivial | simp),⟨by rw [InK_i64]; omega,k4,by rw [InK_i64]; omega,by rw [InK_i64]; omega,by decide,(by and_intros <;> first | rfl | trivial | simp)⟩,(),([],[],g,0),(by and_intros <;> first | rfl | trivial | simp),?_⟩
 refine LoopP.count4 (toldN es) (fun k L W v=>L=tLk g s es wr k∧W=tWk g es k∧v=tG g es k) ⟨rfl,rfl,rfl⟩ fun k L W v hk hJ q hq=>?_
 obtain ⟨rfl,rfl,rfl⟩:=hJ
 dsimp only
 have hN:toldN es=min 12 es.length:=rfl
 have hb:=tG_bd (g:=g) (by omega) he k
 have hv:=es_at he k
 have h3:=Int.tmod_nonneg 3 hv.1
 have h4:=Int.tmod_lt_of_pos (es.getD k (0,0)).1 (show (0:Int) < 3 by omega)
 have hLl:=tLk_len g s es wr k
 have hWl:=tWk_len g es k
 have htm:Int.tmod (k:Int) (wr.length:Int)=((k % wr.length:Nat):Int):=rfl
 simp only [Int.toNat_natCast,InK_i64,InK_u8,hLl,hWl,List.length_cons,List.length_nil]
 refine ⟨fun hlt=>?_,fun hge=>?_⟩
 ·have fin:∀ t w left:Int,t=tW g es k→w=wrT s wr k→left=tG g es (k + 1)→q (tLk g s es wr k++[(1 + Int.tmod (es.getD k (0,0)).1 3,gmax 0 (t + w))],tWk g es k++[t],left,(k:Int) + 1):=by
   rintro _ _ _ rfl rfl rfl
   exact hq _ _ _ (by omega) ⟨(tLk_succ g s es wr k).symm,(tWk_succ g es k).symm,rfl⟩
  have hwn:0 < (wr.length:Int)→-128 ≤ wr.getD (k % wr.length) 0∧wr.getD (k % wr.length) 0 ≤ 127:=fun h0=>by
   have hm:=Nat.mod_lt k (show 0 < wr.length by omega)
   rw [getD_nat hm]; exact hw _ (List.getElem_mem hm)
  have hw1:0 < (wr.length:Int)→Int.tmod (wr.getD (k % wr.length) 0) (s + 1)=wrT s wr k:=fun h0=>by unfold wrT; rw [if_neg (by omega)]
  have hw2:¬ 0 < (wr.length:Int)→0=wrT s wr k:=fun h0=>by unfold wrT; rw [if_pos (by omega)]
  have hwd:=wrT_bd (wr:=wr) s1 k
  rw [htm,Int.toNat_natCast]
  have hgm:gmin (es.getD k (0,0)).2 (tG g es k)=min (es.getD k (0,0)).2 (tG g es k):=gmin_eq _ _
  have hk1:1 + Int.tmod (es.getD k (0,0)).1 3=kT (es.getD k (0,0)):=rfl
  have hW:tW g es k=gT (es.getD k (0,0)) (tG g es k):=rfl
  have hG:tG g es (k + 1)=stepT (tG g es k) (kT (es.getD k (0,0)),0) (gT (es.getD k (0,0)) (tG g es k)):=rfl
  refine ⟨by omega,by omega,by decide,by omega,by omega,by omega,fun e1=>⟨by omega,?_⟩,fun e1=>⟨fun e2=>⟨by omega,?_⟩,fun e2=>?_⟩⟩
  ·have ht:gmin (es.getD k (0,0)).2 (tG g es k)=tW g es k:=by rw [hW]; unfold gT; rw [if_pos (hk1 ▸ e1)]
   have hl:tG g es k - gmin (es.getD k (0,0)).2 (tG g es k)=tG g es (k + 1):=by rw [hG,←hW,←ht]; unfold stepT; dsimp only; rw [if_pos (hk1 ▸ e1)]
   exact ⟨fun h0=>⟨by omega,by omega,by have:=Nat.mod_lt k (show 0 < wr.length by omega); omega,by have:=hwn h0; omega,by omega,by omega,by have:=hw1 h0; omega,by omega,by omega,by omega,(tLk g s es wr k++[(1 + Int.tmod (es.getD k (0,0)).1 3,gmax 0 (gmin (es.getD k (0,0)).2 (tG g es k) + Int.tmod (wr.getD (k % wr.length) 0) (s + 1)))],tWk g es k++[gmin (es.getD k (0,0)).2 (tG g es k)],tG g es k - gmin (es.getD k (0,0)).2 (tG g es k),(k:Int) + 1),(by and_intros <;> first | rfl | trivial | simp),fin _ _ _ ht (hw1 h0) hl⟩,fun h0=>⟨by omega,by omega,by omega,by omega,(tLk g s es wr k++[(1 + Int.tmod (es.getD k (0,0)).1 3,gmax 0 (gmin (es.getD k (0,0)).2 (tG g es k) + 0))],tWk g es k++[gmin (es.getD k (0,0)).2 (tG g es k)],tG g es k - gmin (es.getD k (0,0)).2 (tG g es k),(k:Int) + 1),(by and_intros <;> first | rfl | trivial | simp),fin _ _ _ ht (hw2 h0) hl⟩⟩
  ·have ht:(es.getD k (0,0)).2=tW g es k:=by rw [hW]; unfold gT; rw [if_neg (hk1 ▸ e1),if_pos (hk1 ▸ e2)]
   have hl:tG g es k + (es.getD k (0,0)).2=tG g es (k + 1):=by rw [hG,←hW,←ht]; unfold stepT; dsimp only; rw [if_neg (hk1 ▸ e1),if_pos (hk1 ▸ e2)]
   exact ⟨fun h0=>⟨by omega,by omega,by have:=Nat.mod_lt k (show 0 < wr.length by omega); omega,by have:=hwn h0; omega,by omega,by omega,by have:=hw1 h0; omega,by omega,by omega,by omega,(tLk g s es wr k++[(1 + Int.tmod (es.getD k (0,0)).1 3,gmax 0 ((es.getD k (0,0)).2 + Int.tmod (wr.getD (k % wr.length) 0) (s + 1)))],tWk g es k++[(es.getD k (0,0)).2],tG g es k + (es.getD k (0,0)).2,(k:Int) + 1),(by and_intros <;> first | rfl | trivial | simp),fin _ _ _ ht (hw1 h0) hl⟩,fun h0=>⟨by omega,by omega,by omega,by omega,(tLk g s es wr k++[(1 + Int.tmod (es.getD k (0,0)).1 3,gmax 0 ((es.getD k (0,0)).2 + 0))],tWk g es k++[(es.getD k (0,0)).2],tG g es k + (es.getD k (0,0)).2,(k:Int) + 1),(by and_intros <;> first | rfl | trivial | simp),fin _ _ _ ht (hw2 h0) hl⟩⟩
  ·have ht:tG g es k=tW g es k:=by rw [hW]; unfold gT; rw [if_neg (hk1 ▸ e1),if_neg (hk1 ▸ e2)]
   have hl:tG g es k=tG g es (k + 1):=by rw [hG]; unfold stepT; dsimp only; rw [if_neg (hk1 ▸ e1),if_neg (hk1 ▸ e2)]
   exact ⟨fun h0=>⟨by omega,by omega,by have:=Nat.mod_lt k (show 0 < wr.length by omega); omega,by have:=hwn h0; omega,by omega,by omega,by have:=hw1 h0; omega,by omega,by omega,by omega,(tLk g s es wr k++[(1 + Int.tmod (es.getD k (0,0)).1 3,gmax 0 (tG g es k + Int.tmod (wr.getD (k % wr.length) 0) (s + 1)))],tWk g es k++[tG g es k],tG g es k,(k:Int) + 1),(by and_intros <;> first | rfl | trivial | simp),fin _ _ _ ht (hw1 h0) hl⟩,fun h0=>⟨by omega,by omega,by omega,by omega,(tLk g s es wr k++[(1 + Int.tmod (es.getD k (0,0)).1 3,gmax 0 (tG g es k + 0))],tWk g es k++[tG g es k],tG g es k,(k:Int) + 1),(by and_intros <;> first | rfl | trivial | simp),fin _ _ _ ht (hw2 h0) hl⟩⟩
 ·have:k=toldN es:=by omega
  subst this
  exact (by and_intros <;> first | rfl | trivial | simp)
end Go.Proofs.Tryz
set_option linter.unusedVariables false
namespace Go.Proofs.Tryz
open Go Go.V Go.Proofs
def al_law09_ShadeReached:AL ((Int × Int × (List (Int × Int)) × List Int) × Int):=(.cons (.agg (.cons (.k (.i .u8)) (.cons (.k (.i .u8)) (.cons (.k (.list (.pair (.i .u8) (.i .u8)))) (.one (.k (.list (.i .i8)))))))) (.one (.k (.i .u8))))
def pre_law09_ShadeReached (d:(Int × Int × (List (Int × Int)) × List Int) × Int):Prop:=0 ≤ d.1.1∧d.1.1 ≤ 255∧0 ≤ d.1.2.1∧d.1.2.1 ≤ 255∧esOk d.1.2.2.1∧wrOk d.1.2.2.2∧0 ≤ d.2∧d.2 ≤ 255
def res_law09_ShadeReached (d:(Int × Int × (List (Int × Int)) × List Int) × Int):SV:=.val .bo true
def obs_law09_ShadeReached (d:(Int × Int × (List (Int × Int)) × List Int) × Int):List OB:=[]
def s_law09_ShadeReached:CSp:=mkSp al_law09_ShadeReached pre_law09_ShadeReached res_law09_ShadeReached obs_law09_ShadeReached
def vc_law09_ShadeReached (bg:Int) (bs:Int) (es:List (Int × Int)) (wr:List Int) (wh:Int):Prop :=
 (0 ≤ bg∧bg ≤ 255∧0 ≤ bs∧bs ≤ 255∧esOk es∧wrOk wr)∧∀ (y1:Bool),y1=((lI (toldL (1 + 4 * bg) (Int.tmod bs 30) es wr)) == (0:Int))→(y1=true →
  (True)∧(true=true∧(True))) ∧
 (y1=false →
  (I64 wh)∧((lI (toldL (1 + 4 * bg) (Int.tmod bs 30) es wr)) ≠ 0)∧∀ (y2:Int),y2=(Int.tmod wh (lI (toldL (1 + 4 * bg) (Int.tmod bs 30) es wr)))→((toldL (1 + 4 * bg) (Int.tmod bs 30) es wr).length ≤ 1000)∧((toldL (1 + 4 * bg) (Int.tmod bs 30) es wr).length ≤ 1000)∧((toldL (1 + 4 * bg) (Int.tmod bs 30) es wr).length ≤ 1000)∧((toldL (1 + 4 * bg) (Int.tmod bs 30) es wr).length ≤ 1000)∧∀ (y3:Bool),y3=((wasErr (1 + 4 * bg) (Int.tmod bs 30) (toldL (1 + 4 * bg) (Int.tmod bs 30) es wr) y2) != (0:Int))→∀ (y4:Bool),y4=((bookErr (1 + 4 * bg) (Int.tmod bs 30) (toldL (1 + 4 * bg) (Int.tmod bs 30) es wr)) != (0:Int))→∀ (y5:Bool),y5=(y3 || y4)→∀ (y6:Bool),y6=(decide (((wasSp (1 + 4 * bg) (Int.tmod bs 30) (toldL (1 + 4 * bg) (Int.tmod bs 30) es wr) y2).1) > ((wasSp (1 + 4 * bg) (Int.tmod bs 30) (toldL (1 + 4 * bg) (Int.tmod bs 30) es wr) y2).2)))→∀ (y7:Bool),y7=(y5 || y6)→∀ (y8:Bool),y8=(decide (((wasSp (1 + 4 * bg) (Int.tmod bs 30) (toldL (1 + 4 * bg) (Int.tmod bs 30) es wr) y2).1) < (0:Int)))→∀ (y9:Bool),y9=(y7 || y8)→∀ (y10:Bool),y10=(decide (((wasSp (1 + 4 * bg) (Int.tmod bs 30) (toldL (1 + 4 * bg) (Int.tmod bs 30) es wr) y2).2) > (10000:Int)))→∀ (y11:Bool),y11=(y9 || y10)→∀ (y12:Bool),y12=(decide (((bookSp (1 + 4 * bg) (Int.tmod bs 30) (toldL (1 + 4 * bg) (Int.tmod bs 30) es wr)).1) > ((bookSp (1 + 4 * bg) (Int.tmod bs 30) (toldL (1 + 4 * bg) (Int.tmod bs 30) es wr)).2)))→∀ (y13:Bool),y13=(y11 || y12)→(y13=true →
   (false=true∧(True))) ∧
  (y13=false →
   (I64 (((wasSp (1 + 4 * bg) (Int.tmod bs 30) (toldL (1 + 4 * bg) (Int.tmod bs 30) es wr) y2).1) - (1:Int)))∧∃ (e3:Int × Int × Int) (d30:Bool × Int),(((1 + 4 * bg)=(1 + 4 * bg)∧(Int.tmod bs 30)=(Int.tmod bs 30)∧True∧y2=e3.1∧True∧True∧false=d30.1∧(((wasSp (1 + 4 * bg) (Int.tmod bs 30) (toldL (1 + 4 * bg) (Int.tmod bs 30) es wr) y2).1) - (1:Int))=d30.2∧True)∧(((toldL (1 + 4 * bg) (Int.tmod bs 30) es wr)=(toldL (1 + 4 * bg) (Int.tmod bs 30) es wr)∧false=false)∧(((wasSp (1 + 4 * bg) (Int.tmod bs 30) (toldL (1 + 4 * bg) (Int.tmod bs 30) es wr) y2).1)=e3.2.1∧((wasSp (1 + 4 * bg) (Int.tmod bs 30) (toldL (1 + 4 * bg) (Int.tmod bs 30) es wr) y2).2)=e3.2.2∧(([]:List SV)=[]))∧(((bookSp (1 + 4 * bg) (Int.tmod bs 30) (toldL (1 + 4 * bg) (Int.tmod bs 30) es wr)).1)=((bookSp (1 + 4 * bg) (Int.tmod bs 30) (toldL (1 + 4 * bg) (Int.tmod bs 30) es wr)).1)∧((bookSp (1 + 4 * bg) (Int.tmod bs 30) (toldL (1 + 4 * bg) (Int.tmod bs 30) es wr)).2)=((bookSp (1 + 4 * bg) (Int.tmod bs 30) (toldL (1 + 4 * bg) (Int.tmod bs 30) es wr)).2)∧(([]:List SV)=[]))∧True)) ∧
   LoopP (fun (d3:Bool × Int) (q3:(Bool × Int)→Prop) =>
    (I64 (e3.2.2 + (1:Int)))∧∀ (y34:Bool),y34=(decide (d3.2 ≤ (e3.2.2 + (1:Int))))→(y34=true →
     (bookOk (1 + 4 * bg) (Int.tmod bs 30) (toldL (1 + 4 * bg) (Int.tmod bs 30) es wr)∧-1 ≤ d3.2∧d3.2 ≤ 10001∧0 ≤ e3.1∧e3.1 < (toldL (1 + 4 * bg) (Int.tmod bs 30) es wr).length)∧∀ (y35:Bool),y35=(decide (d3.2 ≥ e3.2.1))→∀ (y36:Bool),y36=(decide (d3.2 ≤ e3.2.2))→∀ (y37:Bool),y37=(y35 && y36)→∀ (y38:Bool),y38=(!(((thrU (1 + 4 * bg) (Int.tmod bs 30) (toldL (1 + 4 * bg) (Int.tmod bs 30) es wr) e3.1 d3.2).2) == y37))→(y38=true →
      (false=true∧(True))) ∧
     (y38=false →
      ∀ (y39:Bool),y39=(decide (((thrU (1 + 4 * bg) (Int.tmod bs 30) (toldL (1 + 4 * bg) (Int.tmod bs 30) es wr) e3.1 d3.2).1.1) < ((bookSp (1 + 4 * bg) (Int.tmod bs 30) (toldL (1 + 4 * bg) (Int.tmod bs 30) es wr)).1)))→∀ (y40:Bool),y40=(decide (((thrU (1 + 4 * bg) (Int.tmod bs 30) (toldL (1 + 4 * bg) (Int.tmod bs 30) es wr) e3.1 d3.2).1.2) > ((bookSp (1 + 4 * bg) (Int.tmod bs 30) (toldL (1 + 4 * bg) (Int.tmod bs 30) es wr)).2)))→∀ (y41:Bool),y41=(y39 || y40)→∀ (y42:Bool),y42=(((thrU (1 + 4 * bg) (Int.tmod bs 30) (toldL (1 + 4 * bg) (Int.tmod bs 30) es wr) e3.1 d3.2).2) && y41)→(y42=true →
       (false=true∧(True))) ∧
      (y42=false →
       ∀ (y43:Bool),y43=(d3.1 || ((thrU (1 + 4 * bg) (Int.tmod bs 30) (toldL (1 + 4 * bg) (Int.tmod bs 30) es wr) e3.1 d3.2).2))→(I64 (d3.2 + (1:Int)))∧(∃ d4:Bool × Int,(((1 + 4 * bg)=(1 + 4 * bg)∧(Int.tmod bs 30)=(Int.tmod bs 30)∧True∧e3.1=e3.1∧True∧True∧y43=d4.1∧(d3.2 + (1:Int))=d4.2∧True)∧(((toldL (1 + 4 * bg) (Int.tmod bs 30) es wr)=(toldL (1 + 4 * bg) (Int.tmod bs 30) es wr)∧false=false)∧(e3.2.1=e3.2.1∧e3.2.2=e3.2.2∧(([]:List SV)=[]))∧(((bookSp (1 + 4 * bg) (Int.tmod bs 30) (toldL (1 + 4 * bg) (Int.tmod bs 30) es wr)).1)=((bookSp (1 + 4 * bg) (Int.tmod bs 30) (toldL (1 + 4 * bg) (Int.tmod bs 30) es wr)).1)∧((bookSp (1 + 4 * bg) (Int.tmod bs 30) (toldL (1 + 4 * bg) (Int.tmod bs 30) es wr)).2)=((bookSp (1 + 4 * bg) (Int.tmod bs 30) (toldL (1 + 4 * bg) (Int.tmod bs 30) es wr)).2)∧(([]:List SV)=[]))∧True))∧q3 d4)))) ∧
    (y34=false →
     (d3.1=true→True)∧∀ (y44:Bool),y44=(d3.1 && true)→(y44=true∧(True)))) d30))
def cx_law09_ShadeReached:Cx:=⟨[],[(20,s_law09_Scales_told),(6,s_law09_known),(16,s_law09_entries),(21,s_shade_Was),(19,s_shade_Book),(22,s_law09_through)],139,[],0,[],[],[],[],true,[],[],[]⟩
def lp_law09_ShadeReached (bg:Int) (bs:Int) (es:List (Int × Int)) (wr:List Int) (wh:Int):List (Nat × LoopAnn):=[(0,⟨Int × Int × Int,Bool × Int,[5,6,7,10,11,13,16,17],fun e x=>[.val (.i .i64) (1 + 4 * bg),.val (.i .i64) (Int.tmod bs 30),.lst 22,.val (.i .i64) e.1,.box 11 0,.box 13 0,.val .bo x.1,.val (.i .i64) x.2],fun e x=>[(22,.slot 7,.lst 44 (.pair (.i .i64) (.i .i64)) (toldL (1 + 4 * bg) (Int.tmod bs 30) es wr) false),(11,.slot 11,.cells [.val (.i .i64) e.2.1,.val (.i .i64) e.2.2] (some 30)),(13,.slot 13,.cells [.val (.i .i64) ((bookSp (1 + 4 * bg) (Int.tmod bs 30) (toldL (1 + 4 * bg) (Int.tmod bs 30) es wr)).1),.val (.i .i64) ((bookSp (1 + 4 * bg) (Int.tmod bs 30) (toldL (1 + 4 * bg) (Int.tmod bs 30) es wr)).2)] (some 30))]⟩)]
set_option maxRecDepth 100000 in
theorem vq_law09_ShadeReached (d:(Int × Int × (List (Int × Int)) × List Int) × Int):gwp (cx_law09_ShadeReached) (lp_law09_ShadeReached d.1.1 d.1.2.1 d.1.2.2.1 d.1.2.2.2 d.2) c5 0 (gend [.tmp 4] (res_law09_ShadeReached d) (obs_law09_ShadeReached d)) (gstart 139 (AL.can al_law09_ShadeReached d))=vc_law09_ShadeReached d.1.1 d.1.2.1 d.1.2.2.1 d.1.2.2.2 d.2:=by kernel_rfl
abbrev Ok_law09_ShadeReached:Prop:=OkC Tryz.prog 5 s_law09_ShadeReached
theorem mk_law09_ShadeReached (h:∀ (bg:Int) (bs:Int) (es:List (Int × Int)) (wr:List Int) (wh:Int),(0 ≤ bg∧bg ≤ 255∧0 ≤ bs∧bs ≤ 255∧esOk es∧wrOk wr∧0 ≤ wh∧wh ≤ 255)→vc_law09_ShadeReached bg bs es wr wh):OkC Tryz.prog 5 s_law09_ShadeReached :=
 okC_vc fun5 mixed (C:=cx_law09_ShadeReached) (V:=fun (d:(Int × Int × (List (Int × Int)) × List Int) × Int)=>vc_law09_ShadeReached d.1.1 d.1.2.1 d.1.2.2.1 d.1.2.2.2 d.2) ⟨(.cons ok_law09_Scales_told (.cons ok_law09_known (.cons ok_law09_entries (.cons ok_shade_Was (.cons ok_shade_Book (.cons ok_law09_through .nil)))))),XsOk.nil,ItsOk.nil,YlOk.nil,IysOk.nil⟩ (vq_law09_ShadeReached) fun d hp=>h d.1.1 d.1.2.1 d.1.2.2.1 d.1.2.2.2 d.2 hp
end Go.Proofs.Tryz
set_option linter.unusedVariables false
namespace Go.Proofs.Tryz
open Go Go.V Go.Proofs
theorem ent_bd (s:Int) (p r:Sp) (x:En):0 ≤ (entB s p r x).1∧(entB s p r x).2 ≤ x.2 + s:=by
 unfold entB bothB realB
 simp only [gmax_eq,gmin_eq]; omega
theorem told_x {g s:Int} {es:List (Int × Int)} {wr:List Int} (hg:1 ≤ g∧g ≤ 1021) (hs:0 ≤ s∧s ≤ 29) (he:esOk es):∀ k,k < (toldL g s es wr).length→((toldL g s es wr).getD k (0,0)).2 ≤ 4500:=fun k hk=>by
 have hN:toldN es ≤ 12:=by unfold toldN; omega
 unfold toldL at hk ⊢
 rw [tLk_len] at hk
 rw [tLk_at hk]
 have h2:=tW_bd (g:=g) (by omega) he k
 have h3:=wrT_bd (wr:=wr) hs.1 k
 unfold tE
 rw [gmax_eq]; dsimp only; omega
theorem ok_law09_ShadeReached:Ok_law09_ShadeReached:=mk_law09_ShadeReached fun bg bs es wr wh h=>by
 obtain ⟨p1,p2,p3,p4,he,hw,w1,w2⟩:=h
 unfold vc_law09_ShadeReached; (try delta lI gD sT I64)
 have s1:=Int.tmod_nonneg 30 p3
 have s2:=Int.tmod_lt_of_pos bs (show (0:Int) < 30 by omega)
 refine ⟨⟨p1,p2,p3,p4,he,hw⟩,?_⟩
 generalize Int.tmod bs 30=s at s1 s2 ⊢
 have g1:1 ≤ 1 + 4 * bg∧1 + 4 * bg ≤ 1021:=by omega
 generalize 1 + 4 * bg=g at g1 ⊢
 have hN:toldN es ≤ 12:=by unfold toldN; omega
 have hBk:bookOk g s (toldL g s es wr):=book_told g1 ⟨s1,by omega⟩ he hN
 have hTr:Truth g s (toldL g s es wr) (toldW g es):=told_truth g1 ⟨s1,by omega⟩ he hN
 have hx2:=told_x (wr:=wr) g1 ⟨s1,show s ≤ 29 by omega⟩ he
 generalize toldL g s es wr=L at *
 generalize toldW g es=W at *
 obtain ⟨b1,b2,b3,b4⟩:=truth_book hBk hTr
 have hL40:=hBk.2.2.2.2.1
 simp only [b1,true_and,and_true,eq_self_iff_true,exists_eq_left',exists_const,decide_eq_true_eq,decide_eq_false_iff_not,beq_iff_eq,bne_iff_ne,ne_eq,beq_eq_false_iff_ne,bne_eq_false_iff_eq,Bool.not_eq_true',Bool.not_eq_false',Bool.not_eq_true,Bool.not_eq_false,Int.toNat_natCast,Int.ofNat_lt,gt_iff_lt,ge_iff_le,forall_eq,true_implies,false_implies,Bool.false_eq_true,Bool.or_self,Bool.and_self,Bool.or_false,Bool.false_or,Bool.or_true,Bool.true_or,Bool.and_false,Bool.false_and,Bool.and_true,Bool.true_and,Bool.not_true,Bool.not_false,implies_true,forall_const,decide_false,decide_true,not_false_eq_true,not_true_eq_false]
 intro hl
 have t1:=Int.tmod_nonneg (L.length:Int) w1
 have t2:=Int.tmod_lt_of_pos wh (show (0:Int) < L.length by omega)
 generalize Int.tmod wh (L.length:Int)=kI at t1 t2 ⊢
 obtain ⟨k,rfl⟩:=Int.eq_ofNat_of_zero_le t1
 have hk:k < L.length:=by omega
 obtain ⟨c1,c2,c3⟩:=truth_wasOf hBk hTr hk
 have hR:=fun t=>reach hBk hTr hk (t:=t)
 have hlo:=ent_bd s (stB g s L k) (restB s (L.drop (k + 1))) (L.getD k (0,0))
 have hwk:wasK g s L k=entB s (stB g s L k) (restB s (L.drop (k + 1))) (L.getD k (0,0)):=rfl
 have hxk:=hx2 k hk
 rw [←hwk] at hlo
 rw [c2] at c3
 rw [←b2] at hR
 simp only [c1,c2]
 unfold InB at c3 b3 hR
 generalize wasK g s L k=w at *
 generalize bookSp g s L=B at *
 obtain ⟨lo,hi⟩:=w
 obtain ⟨B1,B2⟩:=B
 dsimp only at c3 b3 hR hlo ⊢
 refine ⟨by rw [InK_i64]; omega,hl,by omega,by omega,by omega,by omega,fun h=>?_,fun _=>⟨by rw [InK_i64]; omega,((k:Int),lo,hi),(false,lo - 1),⟨⟨rfl,rfl,rfl⟩,rfl,rfl⟩,?_⟩⟩
 ·simp at h; omega
 dsimp only
 refine ⟨fun d=>lo - 1 ≤ d.2∧d.2 ≤ hi + 2∧(lo < d.2→d.1=true),fun d=>(hi + 2 - d.2).toNat,⟨by dsimp only; omega,by dsimp only; omega,fun h=>by dsimp only at h; omega⟩,?_⟩
 rintro ⟨sm,t⟩ ⟨i1,i2,i3⟩
 dsimp only at i1 i2 i3 ⊢
 obtain ⟨r1,r2⟩:=hR t
 have hb:(thrU g s L k t).2=(decide (lo ≤ t) && decide (t ≤ hi)):=by
  rw [Bool.eq_iff_iff,r1]; simp
 refine ⟨by rw [InK_i64]; omega,fun hlt=>⟨⟨hBk,by omega,by omega,by omega,by omega⟩,fun h=>h hb,fun _=>⟨fun h=>?_,fun _=>⟨by rw [InK_i64]; omega,(sm || (thrU g s L k t).2,t + 1),⟨rfl,rfl⟩,⟨by dsimp only; omega,by dsimp only; omega,fun h=>?_⟩,by dsimp only; omega⟩⟩⟩,fun hge=>i3 (by omega)⟩
 ·simp only [Bool.and_eq_true,Bool.or_eq_true,decide_eq_true_eq] at h
  have:=r2 h.1
  unfold Sub at this
  dsimp only at this
  omega
 ·dsimp only at h ⊢
  by_cases h6:lo < t
  ·rw [i3 h6]; rfl
  ·have:(thrU g s L k t).2=true:=r1.2 (by omega)
   rw [this,Bool.or_true]
end Go.Proofs.Tryz
set_option linter.unusedVariables false
namespace Go.Proofs.Tryz
open Go Go.V Go.Proofs
theorem esOk_of {l:List (Int × Int)} (h:KWf (.list (.pair (.i .u8) (.i .u8))) l):esOk l:=fun x hx=>by
 obtain ⟨h1,h2⟩:=h.2 x hx
 have h1:=(InK_u8 x.1).1 h1
 have h2:=(InK_u8 x.2).1 h2
 exact ⟨h1.1,h1.2,h2.1,h2.2⟩
theorem wrOk_of {l:List Int} (h:KWf (.list (.i .i8)) l):wrOk l:=fun x hx=>by
 have:=h.2 x hx
 exact ⟨this.1,this.2⟩
theorem vatPre_of {x:(Int × Int × List (Int × Int) × List Int) × Int} (h:AWf [.pair (.i .u8) (.pair (.i .u8) (.pair (.list (.pair (.i .u8) (.i .u8))) (.list (.i .i8)))),.i .u8] x):0 ≤ x.1.1∧x.1.1 ≤ 255∧0 ≤ x.1.2.1∧x.1.2.1 ≤ 255∧esOk x.1.2.2.1∧wrOk x.1.2.2.2∧0 ≤ x.2∧x.2 ≤ 255:=by
 obtain ⟨⟨h1,h2,h3,h4⟩,h5⟩:=h
 have h1:=(InK_u8 x.1.1).1 h1
 have h2:=(InK_u8 x.1.2.1).1 h2
 have h5:=(InK_u8 x.2).1 h5
 exact ⟨h1.1,h1.2,h2.1,h2.2,esOk_of h3,wrOk_of h4,h5.1,h5.2⟩
end Go.Proofs.Tryz