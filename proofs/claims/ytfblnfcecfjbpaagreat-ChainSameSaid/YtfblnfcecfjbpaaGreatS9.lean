/- A framework for walks, contracts of functions, and their proofs: part 9. -/
import Derived.Laws.Closers25b
import Derived.Test.YtfblnfcecfjbpaaGreatS8
namespace Go.V
open Go
inductive Kind where
 |i (k:IntKind)
 |bo
 |st
 |list (k:Kind)
 |pair (a b:Kind)
 deriving DecidableEq,Inhabited
abbrev Kind.T:Kind->Type
 |.i _=>Int
 |.bo=>Bool
 |.st=>List UInt8
 |.list k=>List k.T
 |.pair a b=>a.T×b.T
def Kind.size:Kind->Nat
 |.pair a b=>a.size+b.size
 |_=>1
def Kind.dflt:(k:Kind)->k.T
 |.i _=>(0:Int)
 |.bo=>false
 |.st=>([]:List UInt8)
 |.list _=>[]
 |.pair a b=>(a.dflt,b.dflt)
def Kind.one:Kind->Bool
 |.pair _ _=>false
 |_=>true
theorem Kind.size_pos:∀ k:Kind,0<k.size
 |.pair a b=>by have:=a.size_pos;simp only[Kind.size];omega
 |.i _|.bo|.st|.list _=>by simp[Kind.size]
theorem Kind.q1s:∀ {k:Kind},k.one=true->k.size=1
 |.pair _ _,h=>by cases h
 |.i _,_|.bo,_|.st,_|.list _,_=>rfl
def Kind.prim:Kind->Bool
 |.i _|.bo|.st=>true
 |_=>false
def Kind.keyk:Kind->Bool
 |.pair a b=>a.keyk&&b.keyk
 |k=>k.prim
abbrev AT:List Kind->Type
 |[]=>Unit
 |[k]=>k.T
 |k::k'::ks=>k.T×AT (k'::ks)
structure Gd where
 id:Nat
 want:Bool
 c:Bool
inductive DW where
 |out
 |el (i:Int) (off sz:Nat)
 |row (k:Kind) (x:List k.T) (i:Int)
 |rowp (k:Kind) (x:List k.T) (i j:Int) (off:Nat)
 |inn (k:Kind) (x:List k.T)
 |inp (k:Kind) (l:List k.T) (j:Int) (off:Nat)
 |dat
 |obx (c:Bool)
 |yv
inductive SV where
 |dd (o:Nat) (w:DW)
 |any
 |val (k:Kind) (x:k.T)
 |bid (n:Nat) (c:Bool)
 |grd (gs:List Gd) (v:SV)
 |nilS
 |nilP
 |nilM
 |nilF
 |lst (o:Nat)
 |sub (o:Nat) (lo n sz:Nat)
 |elp (o:Nat) (i:Int) (off sz:Nat)
 |rop (k:Kind) (l:List k.T) (i:Int) (off:Nat)
 |box (o:Nat) (off:Nat)
 |cp (l:List SV) (off:Nat)
 |map (o:Nat)
 |agg (l:List SV)
 |tup (l:List SV)
 |fn (f:Nat) (first dE:List SV)
 |pf (ks:List Kind) (r:Kind) (cT:AT ks->Prop) (p:AT ks->r.T)
structure LpD where
 i:Nat
 vals:List Value
 r:Loop
inductive LpS where
 |busy
 |rdy
 |ret
 |exit (id:Nat)
def LpS.st:LpS->LoopState
 |.busy=>.busy
 |.rdy=>.ready
 |.ret=>.done
 |.exit _=>.done
def LpS.pend:LpS->Option Code
 |.busy=>none
 |.rdy=>none
 |.ret=>some .ret
 |.exit id=>some (.exit id)
def LpS.live:LpS->Bool
 |.busy=>false
 |_=>true
inductive OB where
 |dead
 |lst (ty:Nat) (k:Kind) (xs:List k.T) (nl:Bool)
 |cells (l:List SV) (u:Option Nat)
 |map (kk vk:Kind) (m:List (kk.T×vk.T))
 |stk (l:List SV) (vals:List Value)
 |deep (ty:Nat) (q:Option Nat) (k:Kind) (xs:List k.T) (nl:Bool) (hole:Option Nat)
 |iter (kk vk:Kind) (m:List (kk.T×vk.T)) (dn:List Nat)
 |mapE (kk vk:Kind) (m:List (kk.T×vk.T)) (key:kk.T) (n:Int)
 |lpf (l:List SV) (q:LpD) (s:LpS)
instance:Inhabited SV:=⟨.any⟩
instance:Inhabited OB:=⟨.dead⟩
inductive Rows {α:Type}(R:α->List Value->Prop):List α->List Value->Prop
 |nil:Rows R [] []
 |cons {x:α}{xs:List α}{c cs:List Value}(h:R x c) (t:Rows R xs cs):Rows R (x::xs) (c++cs)
def SlRel (h:Heap) (sz:Nat) {α:Type}(R:α->List Value->Prop) (l:List α) (v:Value):Prop :=
 (l=[]/\v=.slice none 0 0)\/∃ i o cap c e wr t,v=.slice (some ⟨i,o,none⟩) l.length cap/\l.length<=cap/\h.get i=some (.cells c e wr t)/\e.sz=sz/\o+l.length*sz<=c.length/\Rows R l ((c.drop o).take (l.length*sz))
def KC (h:Heap):(k:Kind)->k.T->List Value->Prop
 |.i ik,x,cs=>cs=[.int ik x]
 |.bo,x,cs=>cs=[.bool x]
 |.st,x,cs=>cs=[.string ⟨x.toArray⟩]
 |.list k,l,cs=>∃ v,cs=[v]/\SlRel h k.size (λx c=>KC h k x c) l v
 |.pair a b,x,cs=>∃ c1 c2,cs=c1++c2/\KC h a x.1 c1/\KC h b x.2 c2
theorem Rows.length {α:Type}{R:α->List Value->Prop}{n:Nat}(hR:∀ x c,R x c->c.length=n) {xs:List α}{cs:List Value}(h:Rows R xs cs):cs.length=xs.length*n:=by
 induction h with
 |nil=>simp
 |cons h _ ih=>simp only[zJ,hR _ _ h,ih,zS,zO,xJ];omega
theorem Rows.mono {α:Type}{R R':α->List Value->Prop}(hR:∀ x c,R x c->R' x c) {xs:List α}{cs:List Value}(h:Rows R xs cs):Rows R' xs cs:=by
 induction h with
 |nil=>exact .nil
 |cons h _ ih=>exact .cons (hR _ _ h) ih
theorem Rows.append {α:Type}{R:α->List Value->Prop}{xs ys:List α}{cs ds:List Value}(h:Rows R xs cs) (h':Rows R ys ds):Rows R (xs++ys) (cs++ds):=by
 induction h with
 |nil=>exact h'
 |cons h _ ih=>rw[xh];exact .cons h ih
theorem Rows.at {α:Type}{R:α->List Value->Prop}{n:Nat}(hR:∀ x c,R x c->c.length=n) {xs:List α}{cs:List Value}(h:Rows R xs cs) {k:Nat}(hk:k<xs.length):R xs[k] ((cs.drop (k*n)).take n):=by
 induction h generalizing k with
 |nil=>simp at hk
 |@cons x xs c cs h t ih =>
  have hc:=hR _ _ h;cases k with
  |zero=>simp only[Nat.zero_mul,x8,List.getElem_cons_zero];rw[<-hc,List.take_left];exact h
  |succ k =>
   have:=ih (k:=k) (by simpa using hk);rw[List.getElem_cons_succ,zO,xJ];have e:(c++cs).drop (k*n+n)=cs.drop (k*n):=by rw[List.drop_append,hc];rw[List.drop_eq_nil_of_le (by omega)];simp
   rw[e];exact this
theorem Rows.take {α:Type}{R:α->List Value->Prop}{n:Nat}(hR:∀ x c,R x c->c.length=n) {xs:List α}{cs:List Value}(h:Rows R xs cs) (k:Nat):Rows R (xs.take k) (cs.take (k*n)):=by
 induction h generalizing k with
 |nil=>simp;exact .nil
 |@cons x xs c cs h t ih =>
  have hc:=hR _ _ h;cases k with
  |zero=>simp;exact .nil
  |succ k =>have e1:c.take ((k+1)*n)=c:=zN (by rw[hc,zO];omega);rw[wu,List.take_append,hc,show (k+1)*n-n=k*n by rw[zO];omega,e1];exact .cons h (ih k)
theorem Rows.drop {α:Type}{R:α->List Value->Prop}{n:Nat}(hR:∀ x c,R x c->c.length=n) {xs:List α}{cs:List Value}(h:Rows R xs cs) (k:Nat):Rows R (xs.drop k) (cs.drop (k*n)):=by
 induction h generalizing k with
 |nil=>simp;exact .nil
 |@cons x xs c cs h t ih =>
  have hc:=hR _ _ h;cases k with
  |zero=>simp;exact .cons h t
  |succ k =>have e1:c.drop ((k+1)*n)=[]:=List.drop_eq_nil_of_le (by rw[hc,zO];omega);rw[wC,List.drop_append,hc,show (k+1)*n-n=k*n by rw[zO];omega,e1,xk];exact ih k
theorem Rows.set {α:Type}{R:α->List Value->Prop}{n:Nat}(hR:∀ x c,R x c->c.length=n) {xs:List α}{cs:List Value}(h:Rows R xs cs) {k:Nat}(hk:k<xs.length) {y:α}{d:List Value}(hd:R y d):Rows R (xs.set k y) (cs.take (k*n)++d++cs.drop (k*n+n)):=by
 have e:xs.set k y=xs.take k++([y]++xs.drop (k+1)):=by rw[List.set_eq_take_append_cons_drop,z7 hk];rfl
 rw[e,xh];have h2:=h.drop hR (k+1);rw[zO,xJ] at h2;exact(h.take hR k).append ((show Rows R [y] d by simpa using Rows.cons hd .nil).append h2)
theorem Rows.replicate {α:Type}{R:α->List Value->Prop}{x:α}{c:List Value}(h:R x c):∀ n,Rows R (List.replicate n x) (List.replicate n c).flatten
 |0=>by simp;exact .nil
 |n+1=>by simp only[xC,List.flatten_cons];exact .cons h (Rows.replicate h n)
theorem KC.length {h:Heap}:∀ {k:Kind}{x:k.T}{cs:List Value},KC h k x cs->cs.length=k.size
 |.i _,_,_,e|.bo,_,_,e|.st,_,_,e=>by simp only[KC] at e;subst e;rfl
 |.list k,l,cs,e=>by obtain⟨v,rfl,_⟩:=e;rfl
 |.pair a b,x,cs,e=>by obtain⟨c1,c2,rfl,h1,h2⟩:=e;simp only[zJ,KC.length h1,KC.length h2,Kind.size]
theorem SlRel.mono {h h':Heap}(hl:h.Le h') {sz:Nat}{α:Type}{R R':α->List Value->Prop}(hR:∀ x c,R x c->R' x c) {l:List α}{v:Value}(hs:SlRel h sz R l v):SlRel h' sz R' l v:=by
 rcases hs with hs|⟨i,o,cap,c,e,wr,t,h1,h2,h3,h4,h5,h6⟩
 .exact .inl hs
 .exact .inr ⟨i,o,cap,c,e,wr,t,h1,h2,hl.2 _ _ h3,h4,h5,h6.mono hR⟩
theorem KC.mono {h h':Heap}(hl:h.Le h'):∀ {k:Kind}{x:k.T}{cs:List Value},KC h k x cs->KC h' k x cs
 |.i _,_,_,e|.bo,_,_,e|.st,_,_,e=>e
 |.list k,l,cs,e=>by obtain⟨v,hv,hs⟩:=e;exact⟨v,hv,hs.mono hl λx c hx=>KC.mono (k:=k) hl hx⟩
 |.pair a b,x,cs,e=>by obtain⟨c1,c2,hc,h1,h2⟩:=e;exact⟨c1,c2,hc,KC.mono hl h1,KC.mono hl h2⟩
theorem KC.cellOk {h:Heap}:∀ {k:Kind}{x:k.T}{cs:List Value},KC h k x cs->cs.all cellOk=true
 |.i _,_,_,e|.bo,_,_,e|.st,_,_,e=>by simp only[KC] at e;subst e;rfl
 |.list k,l,cs,e=>by obtain⟨v,rfl,hs⟩:=e;rcases hs with⟨_,rfl⟩|⟨i,o,cap,c,e,wr,t,rfl,_⟩<;>rfl
 |.pair a b,x,cs,e=>by obtain⟨c1,c2,rfl,h1,h2⟩:=e;rw[List.all_append,KC.cellOk h1,KC.cellOk h2];rfl
def M3:(k:Kind)->k.T->List SV
 |.pair a b,x=>M3 a x.1++M3 b x.2
 |.i k,x=>[.val (.i k) x]
 |.bo,x=>[.val .bo x]
 |.st,x=>[.val .st x]
 |.list k,x=>[.val (.list k) x]
def FO:(k:Kind)->k.T->SV
 |.pair a b,x=>.agg (M3 (.pair a b) x)
 |.i k,x=>.val (.i k) x
 |.bo,x=>.val .bo x
 |.st,x=>.val .st x
 |.list k,x=>.val (.list k) x
inductive RowsO {α:Type}(R:α->List Value->List Nat->Prop):List α->List Value->List Nat->Prop
 |nil:RowsO R [] [] []
 |cons {x:α}{xs:List α}{c cs:List Value}{is js:List Nat}(h:R x c is) (t:RowsO R xs cs js):RowsO R (x::xs) (c++cs) (is++js)
def KO (H:Heap):(q:Option Nat)->(k:Kind)->k.T->List Value->List Nat->Prop
 |_,.i ik,x,cs,is=>cs=[.int ik x]/\is=[]
 |_,.bo,x,cs,is=>cs=[.bool x]/\is=[]
 |_,.st,x,cs,is=>cs=[.string ⟨x.toArray⟩]/\is=[]
 |q,.list k,l,cs,is=>(l=[]/\cs=[.slice none 0 0]/\is=[])\/∃ i cap c e t js,cs=[.slice (some ⟨i,0,none⟩) l.length cap]/\is=i::js/\l.length<=cap/\H.get i=some (.cells c e true t)/\e.sz=k.size/\(∀ ty,q=some ty->e.ty=ty)/\cap*k.size<=c.length /\
   RowsO (λx c is=>KO H none k x c is) l (c.take (l.length*k.size)) js
 |_,.pair a b,x,cs,is=>∃ c1 c2 i1 i2,cs=c1++c2/\is=i1++i2/\KO H none a x.1 c1 i1/\KO H none b x.2 c2 i2
def Z62 (i:Nat):Blk->Value
 |.cells c e _ t=>.tuple #[.int .i64 (i:Nat),.agg c.toArray,.int .i64 (e.sz:Nat),.int .i64 (e.ty:Nat),.bool t]
 |_=>.bool true
def Z5t:Value->Option (Nat×Blk)
 |.tuple ⟨[.int _ i,.agg c,.int _ sz,.int _ ty,.bool t]⟩=>some (i.toNat,.cells c.toList ⟨sz.toNat,ty.toNat⟩ true t)
 |_=>none
def Q8i:List Value->List (Nat×Blk)
 |[]=>[]
 |v::vs=>match Z5t v with|some p=>p::Q8i vs|none=>Q8i vs
def RX:List (Nat×Blk)->Nat->Option Blk
 |[],_=>none
 |(j,b)::r,i=>if i=j then some b else RX r i
def Q7g:List (Nat×Blk)->Nat
 |[]=>0
 |(j,_)::r=>max (j+1) (Q7g r)
theorem Lz:∀ (l:List (Nat×Blk)) (i:Nat),Q7g l<=i->RX l i=none
 |[],_,_=>rfl
 |(j,b)::r,i,h=>by
  simp only[Q7g] at h;have:¬ i=j:=by omega
  simp only[RX,z1 this];exact Lz r i (by omega)
def listH (l:List (Nat×Blk)):Heap:=⟨RX l,Q7g l,λi h=>Lz l i h⟩
def phd:Value->Value
 |.tuple ⟨v::_⟩=>v
 |v=>v
def Xz:Value->Heap
 |.tuple ⟨_::vs⟩=>listH (Q8i vs)
 |_=>listH []
def DR (p:Value):DW->Value->Prop
 |.out,v=>v=phd p/\∃ a n c,v=.slice a n c
 |.el i off sz,v=>∃ b len cap,phd p=.slice (some ⟨b,0,none⟩) len cap/\0<=i/\i<len/\v=.pointer (some ⟨b,i.toNat*sz+off,none⟩)
 |.row k x i,v=>KC (Xz p) (.list k) x [v]/\(∀ a n c,v=.slice (some a) n c->a.off=0)/\∃ b len cap c e t,phd p=.slice (some ⟨b,0,none⟩) len cap/\0<=i/\i<len/\(Xz p).get b=some (.cells c e true t)/\c[i.toNat]?=some v
 |.rowp k x i j off,v=>∃ b len cap c e t r rl rc bL re rt,phd p=.slice (some ⟨b,0,none⟩) len cap/\0<=i/\i<len/\(Xz p).get b=some (.cells c e true t)/\c[i.toNat]?=some (.slice (some ⟨r,0,none⟩) rl rc)/\0<=j/\j<rl/\x.length=rl/\(Xz p).get r=some (.cells bL re true rt)/\rl*k.size<=bL.length/\Rows (KC (Xz p) k) x (bL.take (rl*k.size))/\v=.pointer (some ⟨r,j.toNat*k.size+off,none⟩)
 |.inn k x,v=>KC (Xz p) (.list k) x [v]
 |.inp k l j off,v=>∃ b o c e wr t,0<=j/\j<l.length/\(Xz p).get b=some (.cells c e wr t)/\v=.pointer (some ⟨b,o+j.toNat*k.size+off,none⟩)/\o+l.length*k.size<=c.length/\Rows (KC (Xz p) k) l ((c.drop o).take (l.length*k.size))
 |.dat,v=>(phd p=.slice none 0 0/\v=.pointer none)\/∃ b n cap,phd p=.slice (some ⟨b,0,none⟩) n cap/\0<n/\v=.pointer (some ⟨b,0,none⟩)
 |.yv,v=>∃ i,p=.pointer (some ⟨i,0,none⟩)/\v=.func (.yield i) #[] #[]
 |.obx c,v=>(c=false/\v=.pointer none)\/(c=true/\∃ b,phd p=.pointer (some ⟨b,0,none⟩)/\v=.pointer (some ⟨b,0,none⟩))
def KV (h:Heap) (k:Kind) (x:k.T) (v:Value):Prop:=(k.one=true/\KC h k x [v])\/(k.one=false/\∃ cs,v=.agg cs.toArray/\KC h k x cs)
theorem KV.mono {h h':Heap}(hl:h.Le h') {k:Kind}{x:k.T}{v:Value}(e:KV h k x v):KV h' k x v:=by
 rcases e with⟨ho,e⟩|⟨ho,cs,hv,e⟩
 .exact .inl ⟨ho,e.mono hl⟩
 .exact .inr ⟨ho,cs,hv,e.mono hl⟩
def Rg (h:Heap):(ks:List Kind)->AT ks->List Value->Prop
 |[],_,vs=>vs=[]
 |[k],x,vs=>∃ v,vs=[v]/\KV h k x v
 |k::k'::ks,x,vs=>∃ v vs',vs=v::vs'/\KV h k x.1 v/\Rg h (k'::ks) x.2 vs'
def gtb (tb:Nat->Option Bool):SV->Prop
 |.bid n c=>tb n=some c
 |_=>True
section
variable (P:Program)
def PfRel (B:Heap) (ks:List Kind) (r:Kind) (cT:AT ks->Prop) (p:AT ks->r.T) (v:Value):Prop :=
 ∃ g first cap,v=.func (.func g) first cap/\∀ x,cT x->∀ U vs,B.Le U->Rg U ks x vs->VCalled P g (first.toList++vs++cap.toList) U λv' U'=>U'=U/\KV U r (p x) v'
mutual
def SR (B:Heap) (pl:Nat->Value) (tb:Nat->Option Bool):SV->Value->Prop
 |.any,_=>True
 |.val k x,v=>KC B k x [v]
 |.bid n c,v=>v=.bool c/\tb n=some c
 |.grd gs v,u=>((∀ g∈gs,tb g.id=some g.c)/\gtb tb v)/\((∀ g∈gs,g.c=g.want)->SR B pl tb v u)/\((∃ g∈gs,g.c≠g.want)->u=undef)
 |.nilS,v=>v=.slice none 0 0
 |.nilP,v=>v=.pointer none
 |.nilM,v=>v=.map none
 |.nilF,v=>v=.nilFunc
 |.lst o,v=>v=pl o/\∃ a n c,v=.slice a n c
 |.sub o lo n sz,v=>(lo=0/\n=0/\v=.slice none 0 0/\pl o=.slice none 0 0)\/∃ i len cap aw,pl o=.slice (some ⟨i,0,none⟩) len cap/\lo+n<=len/\n<=aw/\v=.slice (some ⟨i,lo*sz,none⟩) n aw
 |.elp o i off sz,v=>∃ b len cap,pl o=.slice (some ⟨b,0,none⟩) len cap/\0<=i/\i<len/\v=.pointer (some ⟨b,i.toNat*sz+off,none⟩)
 |.rop k l i off,v=>∃ b o c e wr t,0<=i/\i<l.length/\B.get b=some (.cells c e wr t)/\v=.pointer (some ⟨b,o+i.toNat*k.size+off,none⟩)/\o+l.length*k.size<=c.length/\Rows (KC B k) l ((c.drop o).take (l.length*k.size))
 |.box o off,v=>∃ b,pl o=.pointer (some ⟨b,0,none⟩)/\v=.pointer (some ⟨b,off,none⟩)
 |.cp l off,v=>∃ b c e wr t,B.get b=some (.cells c e wr t)/\v=.pointer (some ⟨b,off,none⟩)/\SRs B pl tb l c
 |.map o,v=>v=pl o/\∃ m,v=.map m
 |.agg l,v=>∃ cs,v=.agg cs.toArray/\SRs B pl tb l cs
 |.tup l,v=>∃ cs,v=.tuple cs.toArray/\SRs B pl tb l cs
 |.dd o w,v=>DR (pl o) w v
 |.fn f first dE,v=>∃ a b,v=.func (.func f) a.toArray b.toArray/\SRs B pl tb first a/\SRs B pl tb dE b
 |.pf ks r cT p,v=>PfRel P B ks r cT p v
def SRs (B:Heap) (pl:Nat->Value) (tb:Nat->Option Bool):List SV->List Value->Prop
 |[],vs=>vs=[]
 |s::ss,vs=>∃ v vs',vs=v::vs'/\SR B pl tb s v/\SRs B pl tb ss vs'
end
end
end Go.V
namespace Go.V
open Go
abbrev Own:=List (Nat×OB)
def Qf:Own->Nat->OB
 |[],_=>.dead
 |(k,b)::r,d=>bif Nat.beq k d then b else Qf r d
def oset:Own->Nat->OB->Own
 |[],d,b=>[(d,b)]
 |(k,c)::r,d,b=>bif Nat.beq k d then (d,b)::r else bif Nat.blt d k then (d,b)::(k,c)::r else (k,c)::oset r d b
structure St where
 env:List SV
 own:Own
 nx:Nat
mutual
def SV.kill (o:Nat):SV->SV
 |.lst o'=>bif Nat.beq o' o then .any else .lst o'
 |.sub o' lo n sz=>bif Nat.beq o' o then .any else .sub o' lo n sz
 |.elp o' i off sz=>bif Nat.beq o' o then .any else .elp o' i off sz
 |.dd o' w=>bif Nat.beq o' o then .any else .dd o' w
 |.box o' off=>bif Nat.beq o' o then .any else .box o' off
 |.map o'=>bif Nat.beq o' o then .any else .map o'
 |.grd gs v=>.grd gs (SV.kill o v)
 |.agg l=>.agg (SVs.kill o l)
 |.tup l=>.tup (SVs.kill o l)
 |.cp l off=>.cp (SVs.kill o l) off
 |.fn f a b=>.fn f (SVs.kill o a) (SVs.kill o b)
 |.any=>.any
 |.val k x=>.val k x
 |.bid n c=>.bid n c
 |.nilS=>.nilS
 |.nilP=>.nilP
 |.nilM=>.nilM
 |.nilF=>.nilF
 |.rop k l i off=>.rop k l i off
 |.pf ks r cT p=>.pf ks r cT p
def SVs.kill (o:Nat):List SV->List SV
 |[]=>[]
 |s::ss=>SV.kill o s::SVs.kill o ss
end
def OB.kill (o:Nat):OB->OB
 |.cells l u=>.cells (SVs.kill o l) u
 |.dead=>.dead
 |.lst ty k xs nl=>.lst ty k xs nl
 |.map kk vk m=>.map kk vk m
 |.stk l vals=>.stk (SVs.kill o l) vals
 |.deep ty q k xs nl h=>.deep ty q k xs nl h
 |.iter kk vk m dn=>.iter kk vk m dn
 |.mapE kk vk m key n=>.mapE kk vk m key n
 |.lpf l q s=>.lpf (SVs.kill o l) q s
def Ek (o:Nat):Own->Own
 |[]=>[]
 |(k,b)::r=>bif Nat.beq k o then Ek o r else (k,b.kill o)::Ek o r
def St.kill (s:St) (o:Nat):St:=⟨SVs.kill o s.env,Ek o s.own,s.nx⟩
def St.make (s:St) (o:Nat) (b:OB):St:=⟨(s.kill o).env,oset (s.kill o).own o b,s.nx⟩
def St.put (s:St) (d:Option Nat) (v:SV):St:=match d with
 |some d=>⟨s.env.set d v,s.own,s.nx⟩
 |none=>s
def cvp:Value->SV
 |.bool b=>.val .bo b
 |.int k x=>.val (.i k) x
 |.string s=>.val .st s.data.toList
 |.pointer none=>.nilP
 |.slice none 0 0=>.nilS
 |.map none=>.nilM
 |.nilFunc=>.nilF
 |_=>.any
def cv:Value->SV
 |.agg cs=>.agg (cs.toList.map cvp)
 |v=>cvp v
def Q5a:List Gd->List Gd->Bool
 |[],_=>true
 |_::_,[]=>false
 |a::l,b::m=>bif Nat.beq a.id b.id&&(a.want==b.want) then Q5a l m else Q5a (a::l) m
def FK (gs:List Gd):SV->SV
 |.grd g v=>bif Q5a g gs then v else .any
 |v=>v
def gev (gs:List Gd) (env:List SV):Operand->SV
 |.tmp t=>FK gs (env.getD t .any)
 |.const v=>cv v
 |.func f=>.fn f [] []
 |.global _=>.any
def UC {k:Kind}(l:List k.T) (k':Kind):Option (List k'.T):=if h:k=k' then some (h▸l) else none
def OQ {k:Kind}(x:k.T) (k':Kind):Option k'.T:=if h:k=k' then some (h▸x) else none
def asB:SV->Option Bool
 |.val .bo b=>some b
 |.bid _ c=>some c
 |_=>none
def asI:SV->Option (IntKind×Int)
 |.val (.i k) x=>some (k,x)
 |_=>none
def asS:SV->Option (List UInt8)
 |.val .st x=>some x
 |_=>none
def Kind.flat:Kind->Bool
 |.list _=>false
 |.pair a b=>a.flat&&b.flat
 |_=>true
def view (own:Own) (k:Kind):SV->Option (List k.T)
 |.nilS=>some []
 |.val (.list _k') l=>UC l k
 |.lst o=>match Qf own o with|.lst _ _k' xs _=>UC xs k|_=>none
 |.sub o lo n sz=>match Qf own o with|.lst _ k' xs _=>if sz=k'.size then (UC xs k).map λxs=>(xs.drop lo).take n else none|_=>none
 |.dd o w=>bif k.flat then (match Qf own o with
  |.deep _ _ _ xs _ h=>(match w with
   |.out=>(match h with|none=>UC xs k|some _=>none)
   |.inn _ l=>UC l k
   |.row _ l _=>UC l k
   |_=>none)
  |_=>none) else none
 |_=>none
def Z25 (own:Own):SV->Option Nat
 |.nilS=>some 0
 |.val (.list _) l=>some l.length
 |.lst o=>match Qf own o with|.lst _ _ xs _=>some xs.length|_=>none
 |.sub _ _ n _=>some n
 |.dd o w=>(match Qf own o with
  |.deep _ _ _ xs _ h=>(match w with
   |.out=>(match h with|none=>some xs.length|some _=>none)
   |.inn _ l=>some l.length
   |.row _ l _=>some l.length
   |_=>none)
  |_=>none)
 |_=>none
def SV.solid:SV->Bool
 |.agg _|.tup _|.any|.grd _ _=>false
 |_=>true
def MF:SV->Option (List SV)
 |.agg l=>bif l.all SV.solid then some l else none
 |.tup _=>none
 |.any=>none
 |.grd _ _=>none
 |v=>some [v]
def Tr:(k:Kind)->List SV->Option k.T
 |.i ik,[v]=>match v with|.val (.i r4) x=>if ik=r4 then some x else none|_=>none
 |.bo,[v]=>asB v
 |.st,[v]=>asS v
 |.list k,[v]=>match v with|.nilS=>some []|.val (.list _k') l=>UC l k|_=>none
 |.pair a b,l=>match Tr a (l.take a.size),Tr b (l.drop a.size) with
  |some x,some y=>some (x,y)
  |_,_=>none
 |_,_=>none
def dkV (k:Kind) (v:SV):Option k.T:=bif k.one then Tr k [v] else match v with|.agg l=>Tr k l|_=>none
def Ak (k:Kind) (z:Value):List Value:=bif k.one then [z] else match z with|.agg a=>a.toList|_=>[]
def Q94:(k:Kind)->Nat->SV->k.T->Option k.T
 |.pair a b,off,v,x=>bif Nat.blt off a.size then (Q94 a off v x.1).map λy=>(y,x.2) else (Q94 b (off-a.size) v x.2).map λy=>(x.1,y)
 |.i ik,_,v,_=>Tr (.i ik) [v]
 |.bo,_,v,_=>Tr .bo [v]
 |.st,_,v,_=>Tr .st [v]
 |.list k,_,v,_=>Tr (.list k) [v]
def KW:Kind->List Value->Bool
 |.i ik,[.int k x]=>decide (ik=k)&&(x==0)
 |.bo,[.bool b]=>!b
 |.st,[.string s]=>s.data.toList.isEmpty
 |.list _,[.slice none 0 0]=>true
 |.pair a b,l=>KW a (l.take a.size)&&KW b (l.drop a.size)
 |_,_=>false
def InK (k:IntKind) (x:Int):Prop:=k.min<=x/\x<=k.max
def Q7s:List Gd->Prop->Prop
 |[],p=>p
 |g::gs,p=>g.c=g.want->Q7s gs p
def Cc (gs:List Gd):List Prop->Prop->Prop
 |[],q=>q
 |c::cs,q=>Q7s gs c/\Cc gs cs q
abbrev CSp:=(SV->List SV->Option (Prop×SV))->List SV->Option (Prop×SV×List OB)
abbrev XSp:=Nat->List SV->St->(SV->St->Prop)->Prop
abbrev ISp:=List SV->Option (Prop×Nat×Nat×(Nat->List SV))
abbrev YSp:=List SV->St->(SV->St->Prop)->Prop
abbrev Q7p:=Nat->List SV->Nat×YSp->St->(St->Prop)->Prop
structure Cx where
 kt:List (Nat×Kind)
 cs:List (Nat×CSp)
 nt:Nat
 raw:List Nat
 off:Nat
 xs:List (Nat×XSp)
 it:List (Nat×ISp)
 el:List (Nat×Nat):=[]
 jn:List Nat:=[]
 nm:Bool:=false
 yl:List (Nat×YSp):=[]
 iy:List (Nat×Q7p):=[]
 spl:List Nat:=[]
 xf:List (Nat×Nat):=[]
def QO {α:Type _}:List (Nat×α)->Nat->Option α
 |[],_=>none
 |(k,x)::r,d=>bif Nat.beq k d then some x else QO r d
mutual
def PX (own:Own) (bx:List SV->Nat->SV):SV->SV
 |.lst o=>match Qf own o with|.lst _ k xs _=>.val (.list k) xs|_=>.any
 |.sub o lo n sz=>match Qf own o with|.lst _ k xs _=>if sz=k.size then .val (.list k) ((xs.drop lo).take n) else .any|_=>.any
 |.box o off=>match Qf own o with|.cells l _=>bx l off|_=>.any
 |.agg l=>.agg (H3 own bx l)
 |.fn f a b=>.fn f (H3 own bx a) (H3 own bx b)
 |.bid _ c=>.val .bo c
 |.val k x=>.val k x
 |.nilS=>.nilS
 |.nilP=>.nilP
 |.nilM=>.nilM
 |.nilF=>.nilF
 |.rop k l i off=>.rop k l i off
 |.cp l off=>.cp (H3 own bx l) off
 |.pf ks r cT p=>.pf ks r cT p
 |.any=>.any
 |.grd _ _=>.any
 |.elp _ _ _ _=>.any
 |.dd o w=>(match Qf own o with
  |.deep _ _ k xs _ h=>(match w with
   |.out=>(match h with|none=>.val (.list k) xs|some _=>.any)
   |.inn k x=>.val (.list k) x
   |.row k x _=>.val (.list k) x
   |_=>.any)
  |_=>.any)
 |.map _=>.any
 |.tup _=>.any
def H3 (own:Own) (bx:List SV->Nat->SV):List SV->List SV
 |[]=>[]
 |s::ss=>PX own bx s::H3 own bx ss
end
def Z5q (own:Own) (l:List SV):List SV:=H3 own (λ_ _=>.any) l
def Z5w (own:Own) (l:List SV):List SV:=H3 own (λc off=>.cp (Z5q own c) off) l
def Z5b (own:Own) (l:List SV):List SV:=H3 own (λc off=>.cp (Z5w own c) off) l
def BM (own:Own) (l:List SV):List SV:=Z5b own l
def PA:BinOp->Int->Int->Int
 |.add,a,b=>a+b
 |.sub,a,b=>a-b
 |_,a,b=>a*b
def Hl (a b:Int):Int:=if b > a then b else a
def Z4z (a b:Int):Int:=if b<a then b else a
def Xh (k:IntKind) (x y:Int):Int:=x*2 ^ (Nat.min y.toNat k.bits)
def YJ (k:IntKind) (x y:Int):Int:=x.fdiv (2 ^ (Nat.min y.toNat k.bits))
def gfill (c:List SV):List (Nat×Nat×SV)->Option (List SV)
 |[]=>some c
 |(o,sz,v)::rest=>match MF v with
  |some vs=>if vs.length=sz/\o+sz<=c.length then gfill (setS c o vs) rest else none
  |none=>none
 where setS (c:List SV) (o:Nat):List SV->List SV
 |[]=>c
 |v::vs=>setS (c.set o v) (o+1) vs
def BS (agg:Bool) (size:Nat) (l:List SV) (off:Nat):Option SV :=
 bif agg then (if off+size<=l.length then some (.agg ((l.drop off).take size)) else none) else l[off]?
def MT (o:Nat):(k:Kind)->k.T->List SV
 |.pair a b,x=>MT o a x.1++MT o b x.2
 |.list k,x=>[.dd o (.inn k x)]
 |.i k,x=>[.val (.i k) x]
 |.bo,x=>[.val .bo x]
 |.st,x=>[.val .st x]
def Z4c (o:Nat) (i:Int):(k:Kind)->k.T->List SV
 |.list k,x=>[.dd o (.row k x i)]
 |.pair a b,x=>MT o (.pair a b) x
 |.i k,x=>[.val (.i k) x]
 |.bo,x=>[.val .bo x]
 |.st,x=>[.val .st x]
def Q0p (own:Own) (agg:Bool) (size:Nat):SV->Option SV
 |.box o off=>match Qf own o with|.cells l _=>BS agg size l off|_=>none
 |.cp l off=>BS agg size l off
 |.elp o i off sz=>match Qf own o with|.lst _ k xs _=>if sz=k.size/\off+size<=sz then BS agg size (M3 k (xs.getD i.toNat k.dflt)) off else none|_=>none
 |.rop k l i off=>if off+size<=k.size then BS agg size (M3 k (l.getD i.toNat k.dflt)) off else none
 |.dd o w=>(match Qf own o with
  |.deep _ _ k xs _ h=>(match h with
   |none=>(match w with
    |.el i off sz=>if sz=k.size/\off+size<=sz then BS agg size (Z4c o i k (xs.getD i.toNat k.dflt)) off else none
    |.rowp k' x _ j off=>if off+size<=k'.size then BS agg size (MT o k' (x.getD j.toNat k'.dflt)) off else none
    |.inp k' l j off=>if off+size<=k'.size then BS agg size (MT o k' (l.getD j.toNat k'.dflt)) off else none
    |_=>none)
   |some _=>none)
  |_=>none)
 |_=>none
def WD (ev:Operand->SV):Option Operand->Int->Option Int
 |none,d=>some d
 |some x,_=>(asI (ev x)).map (·.2)
def En (k:MK) (a b:SV):Option Bool:=match k with
 |.int q=>(match asI a,asI b with|some (q1,x),some (q2,y)=>if q1=q/\q2=q then some (x==y) else none|_,_=>none)
 |.bool=>(match asB a,asB b with|some x,some y=>some (x==y)|_,_=>none)
 |.string=>(match asS a,asS b with|some x,some y=>some (x==y)|_,_=>none)
 |.agg _=>none
def HG:List MK->List SV->List SV->Option Bool
 |[],_,_=>none
 |k::ks,a::l,b::m=>(match ks with
  |[]=>(match l,m with|[],[]=>En k a b|_,_=>none)
  |k'::ks=>(match En k a b,HG (k'::ks) l m with|some x,some y=>some (x&&y)|_,_=>none))
 |_::_,_,_=>none
def Q3h (xs:List Int):List UInt8:=xs.map λx=>x.toNat.toUInt8
def gq (_kt:List (Nat×Kind)) (raw:Bool) (o:VOp) (ev:Operand->SV) (own:Own):Option (List Prop×SV) :=
 match o with
 |.move x=>some ([],ev x)
 |.arith op x y=>match asI (ev x),asI (ev y) with
  |some (k,a),some (k',b)=>if k=k' then (bif raw then some ([],.val (.i k) (k.wrap (PA op a b))) else some ([InK k (PA op a b)],.val (.i k) (PA op a b))) else none
  |_,_=>none
 |.div op x y=>match asI (ev x),asI (ev y) with
  |some (k,a),some (k',b)=>if k=k' then (match op with
   |.quo=>some ([b≠0,InK k (a.tdiv b)],.val (.i k) (a.tdiv b))
   |_=>some ([b≠0],.val (.i k) (a.tmod b))) else none
  |_,_=>none
 |.bits op x y=>match asI (ev x),asI (ev y) with
  |some (k,a),some (k',b)=>if k=k' then some ([],.val (.i k) (Qd op k a b)) else none
  |_,_=>none
 |.shift op x y=>match asI (ev x),asI (ev y) with
  |some (k,a),some (_,b)=>(match op with
   |.shl=>bif raw then some ([0<=b],.val (.i k) (k.wrap (Xh k a b))) else some ([0<=b,InK k (Xh k a b)],.val (.i k) (Xh k a b))
   |_=>some ([0<=b],.val (.i k) (YJ k a b)))
  |_,_=>none
 |.cmp op x y=>match asI (ev x),asI (ev y) with
  |some (k,a),some (k',b)=>if k=k' then some ([],.val .bo (Z1o op a b)) else none
  |_,_=>none
 |.str op x y=>match asS (ev x),asS (ev y) with
  |some a,some b=>(match op with
   |.add=>some ([a.length+b.length<=4611686018427387904],.val .st (a++b))
   |.eql=>some ([],.val .bo (a==b))
   |.neq=>some ([],.val .bo (!(a==b)))
   |.lss=>some ([],.val .bo (Op.bytesLess a b))
   |_=>none)
  |_,_=>none
 |.eqB neg x y=>match asB (ev x),asB (ev y) with
  |some a,some b=>some ([],.val .bo (if neg then !(a==b) else (a==b)))
  |_,_=>none
 |.un op x=>match op with
  |.not=>match asB (ev x) with|some b=>some ([],.val .bo (!b))|none=>none
  |.neg=>match asI (ev x) with|some (k,n)=>some ([InK k (0-n)],.val (.i k) (0-n))|none=>none
  |.xor=>match asI (ev x) with|some (k,n)=>some ([],.val (.i k) (Qd .xor k (if k.signed then -1 else k.max) n))|none=>none
  |_=>none
 |.convI k x=>match asI (ev x) with
  |some (_,n)=>bif raw then some ([],.val (.i k) (k.wrap n)) else some ([InK k n],.val (.i k) n)
  |none=>none
 |.convS x=>match asS (ev x) with|some s=>some ([],.val .st s)|none=>none
 |.build z parts=>match gfill (z.map cvp) (parts.map λp=>(p.1,p.2.1,ev p.2.2)) with|some l=>some ([],.agg l)|none=>none
 |.load agg size a=>bif Nat.blt 0 size then (Q0p own agg size (ev a)).map λv=>([],v) else none
 |.fieldAddr off a=>match ev a with
  |.box o f=>some ([],.box o (f+off))
  |.cp l f=>some ([],.cp l (f+off))
  |.elp o i f sz=>some ([],.elp o i (f+off) sz)
  |.dd o w=>(match w with
   |.el i f sz=>some ([],.dd o (.el i (f+off) sz))
   |.rowp k x i j f=>some ([],.dd o (.rowp k x i j (f+off)))
   |.inp k l j f=>some ([],.dd o (.inp k l j (f+off)))
   |_=>none)
  |.rop k l i f=>some ([],.rop k l i (f+off))
  |_=>none
 |.field agg off size x=>match ev x with|.agg l=>(BS agg size l off).map λv=>([],v)|_=>none
 |.indexAddr size x i=>match ev x,asI (ev i) with
  |.lst o,some (_,j)=>(match Qf own o with|.lst _ k xs _=>if k.size=size then some ([0<=j,j<xs.length],.elp o j 0 size) else none|_=>none)
  |.dd o w,some (_,j)=>(match Qf own o with
   |.deep _ _ k xs _ h=>(match w with
    |.out=>(match h with|none=>(if k.size=size then some ([0<=j,j<xs.length],.dd o (.el j 0 size)) else none)|some _=>(if k.size=size then some ([0<=j,j<xs.length],.dd o (.el j 0 size)) else none))
    |.row k x i=>if k.size=size then some ([0<=j,j<x.length],.dd o (.rowp k x i j 0)) else none
    |.inn k l=>if k.size=size then some ([0<=j,j<l.length],.dd o (.inp k l j 0)) else none
    |_=>none)
   |_=>none)
  |.sub o lo n sz,some (_,j)=>(match Qf own o with|.lst _ k _ _=>if k.size=size/\sz=size then some ([0<=j,j<n],.elp o (lo+j) 0 size) else none|_=>none)
  |.val (.list k) l,some (_,j)=>if k.size=size then some ([0<=j,j<l.length],.rop k l j 0) else none
  |_,_=>none
 |.indexStr x i=>match asS (ev x),asI (ev i) with
  |some s,some (_,j)=>some ([0<=j,j<s.length],.val (.i .u8) ((s.getD j.toNat 0).toNat:Int))
  |_,_=>none
 |.indexArr len agg size x i=>match ev x,i with
  |.agg l,.const (.int _ (Int.ofNat j))=>if j<len then (BS agg size l (j*size)).map λv=>([],v) else none
  |_,_=>none
 |.indexAddrArr len size x i=>match ev x,i with
  |.box o f,.const (.int _ (Int.ofNat j))=>if j<len then some ([],.box o (f+j*size)) else none
  |.cp l f,.const (.int _ (Int.ofNat j))=>if j<len then some ([],.cp l (f+j*size)) else none
  |_,_=>none
 |.slice size x lo hi none=>match ev x with
  |.lst o=>(match Qf own o with
   |.lst _ k xs _=>if k.size=size then (match WD ev lo 0,WD ev hi xs.length with
    |some a,some b=>some ([0<=a,a<=b,b<=xs.length],.sub o a.toNat (b-a).toNat size)
    |_,_=>none) else none
   |_=>none)
  |.sub o l0 n sz=>(match Qf own o with
   |.lst _ k _ _=>if k.size=size/\sz=size then (match WD ev lo 0,WD ev hi n with
    |some a,some b=>some ([0<=a,a<=b,b<=n],.sub o (l0+a.toNat) (b-a).toNat size)
    |_,_=>none) else none
   |_=>none)
  |.val (.list k) l=>if k.size=size then (match WD ev lo 0,WD ev hi l.length with
   |some a,some b=>some ([0<=a,a<=b,b<=l.length],.val (.list k) ((l.drop a.toNat).take (b-a).toNat))
   |_,_=>none) else none
  |.dd o w=>(match Qf own o with
   |.deep _ _ _ _ _ _=>(match w with
    |.inn k l=>if k.size=size then (match WD ev lo 0,WD ev hi l.length with
     |some a,some b=>some ([0<=a,a<=b,b<=l.length],.dd o (.inn k ((l.drop a.toNat).take (b-a).toNat)))
     |_,_=>none) else none
    |.row k l _=>if k.size=size then (match WD ev lo 0,WD ev hi l.length with
     |some a,some b=>some ([0<=a,a<=b,b<=l.length],.dd o (.inn k ((l.drop a.toNat).take (b-a).toNat)))
     |_,_=>none) else none
    |_=>none)
   |_=>none)
  |.nilS=>(match WD ev lo 0,WD ev hi 0 with
   |some a,some b=>some ([a=0,b=0],.nilS)
   |_,_=>none)
  |_=>none
 |.sliceStr x lo hi=>match asS (ev x) with
  |some s=>(match WD ev lo 0,WD ev hi s.length with
   |some a,some b=>some ([0<=a,a<=b,b<=s.length],.val .st ((s.drop a.toNat).take (b-a).toNat))
   |_,_=>none)
  |none=>none
 |.len x=>match Z25 own (ev x) with|some n=>some ([],.val (.i .i64) (n:Nat))|none=>none
 |.lenStr x=>match asS (ev x) with|some s=>some ([],.val (.i .i64) (s.length:Nat))|none=>none
 |.max4 x y z w=>match asI (ev x),asI (ev y),asI (ev z),asI (ev w) with
  |some (k,a),some (k2,b),some (k3,c),some (k4,d)=>if k=k2/\k=k3/\k=k4 then some ([],.val (.i k) (Hl (Hl (Hl a b) c) d)) else none
  |_,_,_,_=>none
 |.max x y=>match asI (ev x),asI (ev y) with
  |some (k,a),some (k',b)=>if k=k' then some ([],.val (.i k) (Hl a b)) else none
  |_,_=>none
 |.min x y=>match asI (ev x),asI (ev y) with
  |some (k,a),some (k',b)=>if k=k' then some ([],.val (.i k) (Z4z a b)) else none
  |_,_=>none
 |.makeFunc (.func f) first cap=>some ([],.fn f (first.map ev) (cap.map ev))
 |.extract x i=>match ev x with|.tup l=>(l[i]?).map λv=>([],v)|_=>none
 |.nilCheck x=>match ev x with
  |.box o f=>some ([],.box o f)
  |.cp l f=>some ([],.cp l f)
  |.fn f a b=>some ([],.fn f a b)
  |_=>none
 |.ext (.eqNil 1 neg x y)=>match ev x,ev y with
  |.nilS,.nilS=>some ([],.val .bo (!neg))
  |.lst o,.nilS=>(match Qf own o with|.lst _ _ _ nl=>some ([],.val .bo (bif neg then !nl else nl))|_=>none)
  |.dd o .out,.nilS=>(match Qf own o with|.deep _ _ _ _ nl _=>some ([],.val .bo (bif neg then !nl else nl))|_=>none)
  |.val (.list _) l,.nilS=>some ([l≠[]],.val .bo neg)
  |_,_=>none
 |.ext (.eqNil 0 neg x y)=>match ev x,ev y with
  |.nilP,.nilP=>some ([],.val .bo (!neg))
  |.box _ _,.nilP=>some ([],.val .bo neg)
  |.cp _ _,.nilP=>some ([],.val .bo neg)
  |.dd _ (.obx c),.nilP=>some ([],.val .bo (bif neg then c else !c))
  |.dd o (.obx c),.box o' f=>(match Qf own o with
   |.cells _ _=>if o=o'/\f=0 then some ([c=true],.val .bo (!neg)) else none
   |_=>none)
  |_,_=>none
 |.ext (.eqAgg neg s x y)=>match ev x,ev y with
  |.agg l,.agg m=>(HG s l m).map λb=>([],.val .bo (bif neg then !b else b))
  |_,_=>none
 |.ext (.toUnsafe x)=>match ev x with
  |.box o f=>(match Qf own o with|.cells l _=>if f<l.length then some ([],.box o f) else none|_=>none)
  |_=>none
 |.ext (.fromUnsafe u size x)=>match ev x with
  |.box o f=>(match Qf own o with
   |.cells l (some t)=>if f=0/\t=u/\size<=l.length then some ([],.box o 0) else none
   |_=>none)
  |_=>none
 |.ext (.bytesStr x)=>match view own (.i .u8) (ev x) with
  |some xs=>some ([],.val .st (Q3h xs))
  |none=>none
 |.ext (.sliceData x)=>match ev x with
  |.nilS=>some ([],.nilP)
  |.lst o=>(match Qf own o with|.lst _ _ xs nl=>some ([nl=false->xs≠[]],.dd o .dat)|_=>none)
  |_=>none
 |.ext (.lookup mk z ok x i)=>match ev x with
  |.map o=>(match Qf own o with
   |.map kk vk m=>if mkOk mk kk=true/\KW vk (Ak vk z)=true then (match dkV kk (ev i) with
    |some key=>(if ok then some ([],.tup [FO vk (aget kk m key vk.dflt),.val .bo (ahas kk m key)]) else some ([],FO vk (aget kk m key vk.dflt)))
    |none=>none) else none
   |_=>none)
  |_=>none
 |.ext (.entry x)=>match ev x with
  |.box o f=>(match Qf own o with
   |.iter kk vk m dn=>if f=0/\kk.keyk=true/\vk.one=true then some ([dn≠[]],.tup [FO kk (m.getD (dn.getLastD 0) (kk.dflt,vk.dflt)).1,.val vk (m.getD (dn.getLastD 0) (kk.dflt,vk.dflt)).2]) else none
   |_=>none)
  |_=>none
 |.ext (.lenMap x)=>match ev x with
  |.map o=>(match Qf own o with|.map _ _ m=>some ([],.val (.i .i64) m.length)|_=>none)
  |_=>none
 |_=>none
 where
 mkP:MK->Kind->Bool
  |.int k,.i k'=>decide (k=k')
  |.string,.st=>true
  |.bool,.bo=>true
  |_,_=>false
 mkAt:Kind->List MK->Option (List MK)
  |.pair a b,l=>(match mkAt a l with|some r=>mkAt b r|none=>none)
  |k,m::r=>bif mkP m k then some r else none
  |_,[]=>none
 mkOk (m:MK) (k:Kind):Bool:=bif k.one then mkP m k else match m with
  |.agg l=>(match mkAt k l with|some []=>true|_=>false)
  |_=>false
 keq:(k:Kind)->k.T->k.T->Bool
  |.i _,(a:Int),b=>a==b
  |.bo,(a:Bool),b=>a==b
  |.st,(a:List UInt8),b=>a==b
  |.pair k l,x,y=>keq k x.1 y.1&&keq l x.2 y.2
  |_,_,_=>false
 aget (kk:Kind) {V:Type}:List (kk.T×V)->kk.T->V->V
  |[],_,d=>d
  |(k,v)::r,key,d=>if keq kk key k then v else aget kk r key d
 ahas (kk:Kind) {V:Type}:List (kk.T×V)->kk.T->Bool
  |[],_=>false
  |(k,_)::r,key=>keq kk key k||ahas kk r key
def Uo (kk:Kind) {V:Type}:List (kk.T×V)->kk.T->V->List (kk.T×V)
 |[],key,v=>[(key,v)]
 |(k,x)::r,key,v=>if gq.keq kk key k then (key,v)::r else (k,x)::Uo kk r key v
def Q0e (kk:Kind) {V:Type}:List (kk.T×V)->kk.T->List (kk.T×V)
 |[],_=>[]
 |(k,x)::r,key=>if gq.keq kk key k then r else (k,x)::Q0e kk r key
mutual
def SV.ret (n:Nat):SV->Bool
 |.val k _=>k.flat
 |.nilS|.nilP|.nilM|.nilF=>true
 |.lst j=>Nat.blt j n
 |.box j _=>Nat.blt j n
 |.map j=>Nat.blt j n
 |.dd j w=>(match w with|.out=>Nat.blt j n|_=>false)
 |.agg l=>SVs.ret n l
 |.tup l=>SVs.ret n l
 |_=>false
def SVs.ret (n:Nat):List SV->Bool
 |[]=>true
 |s::ss=>SV.ret n s&&SVs.ret n ss
end
mutual
def V8:SV->Bool
 |.val k _=>k.one
 |.box _ _=>false
 |.map _=>false
 |.dd _ _=>false
 |.agg l=>NB l
 |.tup l=>NB l
 |_=>true
def NB:List SV->Bool
 |[]=>true
 |s::ss=>V8 s&&NB ss
end
def OB.isL:OB->Bool
 |.lst _ _ _ _=>true
 |_=>false
def OB.ret:OB->Bool
 |.lst _ k _ _=>k.flat
 |.cells l _=>SVs.ret 0 l
 |.map kk vk _=>kk.flat&&vk.flat
 |.dead=>false
 |.stk _ _=>false
 |.deep _ _ _ _ _ h=>h.isNone
 |.iter _ _ _ _=>false
 |.mapE _ _ _ _ _=>false
 |.lpf _ _ _=>false
def gap (cs:List (Nat×CSp)):Nat->SV->List SV->Option (Prop×SV)
 |0,_,_=>none
 |n+1,f,args=>match f with
  |.fn g a b=>(match QO cs g with
   |some sp=>(match sp (gap cs n) (a++args++b) with
    |some (c,v,[])=>bif v.ret 0 then some (c,v) else none
    |_=>none)
   |none=>none)
  |.pf ks r cT p=>(match deca ks args with
   |some x=>bif r.flat then some (cT x,FO r (p x)) else none
   |none=>none)
  |_=>none
 where
 deca:(ks:List Kind)->List SV->Option (AT ks)
  |[],[]=>some ()
  |[k],[v]=>asV k v
  |k::k'::ks,v::vs=>match asV k v,deca (k'::ks) vs with|some x,some y=>some (x,y)|_,_=>none
  |_,_=>none
 asV (k:Kind) (v:SV):Option k.T:=bif k.one then Tr k [v] else match v with|.agg l=>Tr k l|_=>none
def Vb (cs:List (Nat×CSp)) (f:SV) (args:List SV):Option (Prop×SV×List OB) :=
 match f with
 |.fn g a b=>(match QO cs g with|some sp=>sp (gap cs 3) (a++args++b)|none=>none)
 |f=>(gap cs 3 f args).map λ(c,v)=>(c,v,[])
mutual
def SV.ren (d nt:Nat):SV->SV
 |.lst j=>.lst (d+j*nt)
 |.box j off=>.box (d+j*nt) off
 |.map j=>.map (d+j*nt)
 |.dd j w=>(match w with|.out=>.dd (d+j*nt) .out|_=>.any)
 |.agg l=>.agg (SVs.ren d nt l)
 |.tup l=>.tup (SVs.ren d nt l)
 |.any=>.any
 |.val k x=>.val k x
 |.bid _ c=>.val .bo c
 |.nilS=>.nilS
 |.nilP=>.nilP
 |.nilM=>.nilM
 |.nilF=>.nilF
 |.sub _ _ _ _|.elp _ _ _ _|.grd _ _|.cp _ _|.fn _ _ _|.rop _ _ _ _|.pf _ _ _ _=>.any
def SVs.ren (d nt:Nat):List SV->List SV
 |[]=>[]
 |s::ss=>SV.ren d nt s::SVs.ren d nt ss
end
def St.makes (s:St) (d nt:Nat):Nat->List OB->St
 |_,[]=>s
 |j,b::bs=>(s.make (d+j*nt) b).makes d nt (j+1) bs
def SQ (k:Kind) (ev:Operand->SV):List (Nat×Operand)->List k.T->Option (List k.T)
 |[],xs=>some xs
 |(j,x)::r,xs=>match MF (ev x) with
  |some l=>(match Tr k l with
   |some y=>if j<xs.length then SQ k ev r (xs.set j y) else none
   |none=>none)
  |none=>none
mutual
def nmV:SV->(SV->Prop)->Prop
 |.val k x,K=>∀ y:k.T,y=x->K (.val k y)
 |.agg l,K=>Q7m l λl'=>K (.agg l')
 |.tup l,K=>Q7m l λl'=>K (.tup l')
 |.any,K=>K .any
 |.dd o w,K=>K (.dd o w)
 |.bid n c,K=>K (.bid n c)
 |.grd gs v,K=>K (.grd gs v)
 |.nilS,K=>K .nilS
 |.nilP,K=>K .nilP
 |.nilM,K=>K .nilM
 |.nilF,K=>K .nilF
 |.lst o,K=>K (.lst o)
 |.sub o lo n sz,K=>K (.sub o lo n sz)
 |.elp o i off sz,K=>K (.elp o i off sz)
 |.rop k l i off,K=>K (.rop k l i off)
 |.box o off,K=>K (.box o off)
 |.cp l off,K=>K (.cp l off)
 |.map o,K=>K (.map o)
 |.fn f a b,K=>K (.fn f a b)
 |.pf ks r cT p,K=>K (.pf ks r cT p)
def Q7m:List SV->(List SV->Prop)->Prop
 |[],K=>K []
 |v::r,K=>nmV v λv'=>Q7m r λr'=>K (v'::r')
end
def Z55 (o:VOp) (ev:Operand->SV):Bool:=match o with
 |.load _ _ a=>(match ev a with|.elp _ _ _ _=>true|.rop _ _ _ _=>true|.dd _ _=>true|_=>false)
 |.cmp ..|.str ..|.eqB ..|.un ..|.pick ..|.indexStr ..|.bits ..|.shift ..|.div ..|.sliceStr ..|.max ..|.max4 ..|.min ..=>true
 |.ext (.lookup ..)|.ext (.eqNil ..)|.ext (.eqAgg ..)|.ext (.entry ..)=>true
 |_=>false
def gnm (C:Cx) (o:VOp) (ev:Operand->SV) (v:SV) (K:SV->Prop):Prop:=bif C.nm&&Z55 o ev then nmV v K else K v
def Ay (C:Cx) (d:Nat) (f:SV) (args:List SV) (s:St) (K:SV->St->Prop):Prop :=
 match Vb C.cs ((BM s.own [f]).getD 0 .any) (BM s.own args) with
 |some (c,v,bs)=>bif v.ret bs.length&&(bs.all OB.ret&&Nat.blt 0 C.nt) then c/\K (v.ren d C.nt) (s.makes d C.nt 0 bs) else False
 |none=>False
def TY (C:Cx) (d:Nat) (f:SV) (args:List SV) (s:St) (K:SV->St->Prop):Prop :=
 match f with
 |.fn g a b=>(match QO C.xs g with
  |some x=>x d (a++(args++b)) s K
  |none=>Ay C d (.fn g a b) args s K)
 |.dd o .yv=>(match QO C.yl o with
  |some y=>y args s K
  |none=>False)
 |f=>Ay C d f args s K
def gn (C:Cx) (d:Nat) (o:VOp) (ev:Operand->SV) (s:St) (K:SV->St->Prop):Prop :=
 match o with
 |.alloc t z=>K (.box d 0) (s.make d (.cells (z.map cvp) (some t)))
 |.box t x=>match MF (ev x) with
  |some l=>K (.box d 0) (s.make d (.cells (SVs.kill d l) (some t)))
  |none=>False
 |.buildSlice e z n parts=>match QO C.kt e.ty with
  |some k=>if k.size=e.sz/\KW k z=true then (match SQ k ev parts (List.replicate n k.dflt) with
   |some xs=>K (.lst d) (s.make d (.lst e.ty k xs false))
   |none=>False) else False
  |none=>False
 |.makeSlice e bytes z l c=>match QO C.kt e.ty,asI (ev l),asI (ev c) with
  |some k,some (_,a),some (_,b)=>if k.size=e.sz/\KW k z=true then
    Cc [] [0<=a,a<=b,b*bytes<=70368744177664,b<=70368744177664] (K (.lst d) (s.make d (.lst e.ty k (List.replicate a.toNat k.dflt) false))) else False
  |_,_,_=>False
 |.append e bytes x y=>match QO C.kt e.ty with
  |some k=>(match view s.own k (ev y) with
   |some ys=>(match ev x with
    |.nilS=>if k.size=e.sz then Cc [] [ys.length*bytes<=70368744177664] (K (.lst d) (s.make d (.lst e.ty k ys ys.isEmpty))) else False
    |.lst o=>(match Qf s.own o with
     |.lst ty _k' xs nl=>if ty=e.ty/\k.size=e.sz then (match UC xs k with
      |some xs=>Cc [] [(xs.length+ys.length)*bytes<=70368744177664] (K (.lst o) (s.make o (.lst ty k (xs++ys) (ys.isEmpty&&nl))))
      |none=>False) else False
     |_=>False)
    |_=>False)
   |none=>False)
  |none=>False
 |.store size a v=>match ev a,MF (ev v) with
  |.box o off,some vs=>(match Qf s.own o with
   |.cells l u=>if vs.length=size/\off+size<=l.length then K .any ⟨s.env,oset s.own o (.cells (gfill.setS l off vs) u),s.nx⟩ else False
   |_=>False)
  |.elp o i off sz,some vs=>(match Qf s.own o with
   |.lst ty k xs nl=>(if off=0/\size=k.size/\sz=k.size then (match Tr k vs with
     |some x=>K .any ⟨s.env,oset s.own o (.lst ty k (xs.set i.toNat x) nl),s.nx⟩
     |none=>False)
    else if size=1/\vs.length=1/\sz=k.size/\off<k.size then (match Q94 k off (vs.getD 0 .any) (xs.getD i.toNat k.dflt) with
     |some x=>K .any ⟨s.env,oset s.own o (.lst ty k (xs.set i.toNat x) nl),s.nx⟩
     |none=>False) else False)
   |_=>False)
  |_,_=>False
 |.callF f args=>TY C d (.fn f [] []) (args.map ev) s K
 |.callV f args=>TY C d (ev f) (args.map ev) s K
 |.ext (.mapUpdate mk m k v)=>match ev m with
  |.map o=>(match Qf s.own o with
   |.map kk vk l=>if gq.mkOk mk kk=true then (match dkV kk (ev k),dkV vk (ev v) with
    |some key,some x=>K .any ⟨s.env,oset s.own o (.map kk vk (Uo kk l key x)),s.nx⟩
    |_,_=>False) else False
   |_=>False)
  |_=>False
 |.ext (.delete mk m k)=>match ev m with
  |.map o=>(match Qf s.own o with
   |.map kk vk l=>if gq.mkOk mk kk=true then (match dkV kk (ev k) with
    |some key=>K .any ⟨s.env,oset s.own o (.map kk vk (Q0e kk l key)),s.nx⟩
    |none=>False) else False
   |_=>False)
  |_=>False
 |.ext (.mapEntry mk z m k)=>match ev m with
  |.map o=>(match Qf s.own o with
   |.map kk vk l=>if gq.mkOk mk kk=true/\KW vk (Ak vk z)=true then (match dkV kk (ev k) with
    |some key=>∀ n:Int,K (.tup [FO vk (gq.aget kk l key vk.dflt),.val (.i .i64) n]) ⟨s.env,oset s.own o (.mapE kk vk (Uo kk l key (gq.aget kk l key vk.dflt)) key n),s.nx⟩
    |none=>False) else False
   |_=>False)
  |_=>False
 |.ext (.entryStore m st v)=>match ev m with
  |.map o=>(match Qf s.own o with
   |.mapE kk vk l key n=>(match asI (ev st),dkV vk (ev v) with
    |some (.i64,n'),some x=>n'=n/\K .any ⟨s.env,oset s.own o (.map kk vk (Uo kk l key x)),s.nx⟩
    |_,_=>False)
   |_=>False)
  |_=>False
 |.ext (.rangeMap x)=>match ev x with
  |.map o=>(match Qf s.own o with
   |.map kk vk m=>if kk.keyk=true/\vk.one=true then K (.box d 0) (St.make ⟨s.env,oset s.own o .dead,s.nx⟩ d (.iter kk vk m [])) else False
   |_=>False)
  |_=>False
 |.ext (.nextMap x)=>match ev x with
  |.box o f=>(match Qf s.own o with
   |.iter kk vk m dn=>if f=0/\kk.keyk=true then ((∀ r:Nat,r<m.length->r∈dn)->K (.tup [.val .bo false]) s)/\∀ r:Nat,r<m.length->r∉dn->K (.tup [.val .bo true,.any,.any]) ⟨s.env,oset s.own o (.iter kk vk m (dn++[r])),s.nx⟩ else False
   |_=>False)
  |_=>False
 |_=>False
def gnd (_:Cx) (_:Nat) (_:VOp) (_:Operand->SV) (_:St) (_:SV->St->Prop):Prop:=False
def SV.thing:SV->List Nat
 |.lst o=>[o]
 |.dd o _=>[o]
 |_=>[]
def Q9v (l:List SV):List Nat:=l.flatMap SV.thing
def Lb (d:Nat) (o:VOp) (ev:Operand->SV):List Nat:=d::(match o with
 |.buildSlice _ _ _ parts=>parts.flatMap λp=>(match MF (ev p.2) with|some l=>Q9v l|none=>[])
 |.append _ _ x y=>SV.thing (ev x)++SV.thing (ev y)
 |.store _ a v=>SV.thing (ev a)++(match MF (ev v) with|some l=>Q9v l|none=>[])
 |_=>[])
def C5 (C:Cx) (d:Nat) (o:VOp) (ev:Operand->SV):Bool :=
 match o with
 |.buildSlice e _ _ _=>(match QO C.kt e.ty with|some k=>!k.flat&&!(C.raw.contains d)|none=>false)
 |.makeSlice e _ _ _ _=>(match QO C.kt e.ty with|some k=>!k.flat&&!(C.raw.contains d)|none=>false)
 |.append _ _ x y=>(match ev x with
  |.dd _ _=>true
  |_=>(match ev y with|.dd _ .out=>true|_=>false))
 |.store _ a _=>(match ev a with|.dd _ _=>true|_=>false)
 |_=>false
mutual
def SV.frz (o:Nat) (k:Kind) (xs:List k.T):SV->SV
 |.lst o'=>bif Nat.beq o' o then .val (.list k) xs else .lst o'
 |.sub o' lo n sz=>bif Nat.beq o' o then .any else .sub o' lo n sz
 |.elp o' i off sz=>bif Nat.beq o' o then .any else .elp o' i off sz
 |.dd o' w=>bif Nat.beq o' o then .any else .dd o' w
 |.box o' off=>bif Nat.beq o' o then .any else .box o' off
 |.map o'=>bif Nat.beq o' o then .any else .map o'
 |.grd gs v=>.grd gs (SV.frz o k xs v)
 |.agg l=>.agg (SVs.frz o k xs l)
 |.tup l=>.tup (SVs.frz o k xs l)
 |.cp l off=>.cp (SVs.frz o k xs l) off
 |.fn f a b=>.fn f (SVs.frz o k xs a) (SVs.frz o k xs b)
 |.any=>.any
 |.val k x=>.val k x
 |.bid n c=>.bid n c
 |.nilS=>.nilS
 |.nilP=>.nilP
 |.nilM=>.nilM
 |.nilF=>.nilF
 |.rop k l i off=>.rop k l i off
 |.pf ks r cT p=>.pf ks r cT p
def SVs.frz (o:Nat) (k:Kind) (xs:List k.T):List SV->List SV
 |[]=>[]
 |s::ss=>SV.frz o k xs s::SVs.frz o k xs ss
end
def OB.frz (o:Nat) (k:Kind) (xs:List k.T):OB->OB
 |.cells l u=>.cells (SVs.frz o k xs l) u
 |.dead=>.dead
 |.lst ty k xs nl=>.lst ty k xs nl
 |.map kk vk m=>.map kk vk m
 |.stk l vals=>.stk (SVs.frz o k xs l) vals
 |.lpf l q s=>.lpf (SVs.frz o k xs l) q s
 |.deep ty q k xs nl h=>.deep ty q k xs nl h
 |.iter kk vk m dn=>.iter kk vk m dn
 |.mapE kk vk m key n=>.mapE kk vk m key n
def Q10 (o:Nat) (k:Kind) (xs:List k.T):Own->Own
 |[]=>[]
 |(j,b)::r=>bif Nat.beq j o then Q10 o k xs r else (j,b.frz o k xs)::Q10 o k xs r
def St.frz (s:St) (o:Nat):St:=match Qf s.own o with
 |.lst _ k xs _=>⟨SVs.frz o k xs s.env,Q10 o k xs s.own,s.nx⟩
 |_=>s
def St.frzs (s:St):List Nat->St
 |[]=>s
 |o::r=>(s.frz o).frzs r
def DL:List SV->List Nat
 |[]=>[]
 |s::r=>(match s with|.lst o=>o::DL r|_=>DL r)
def Q6g (C:Cx) (d:Nat) (o:VOp) (ev:Operand->SV) (own:Own):List Nat:=match o with
 |.store _ a v=>(match ev a with
  |.elp q _ _ _=>(match Qf own q with
   |.lst _ k _ _=>bif k.flat then [] else (match MF (ev v) with|some l=>DL l|none=>[])
   |_=>[])
  |_=>[])
 |.buildSlice e _ _ parts=>(match QO C.kt e.ty with
  |some k=>bif k.flat||!(C.raw.contains d) then [] else parts.flatMap λp=>(match MF (ev p.2) with|some l=>DL l|none=>[])
  |none=>[])
 |.move x=>bif C.raw.contains (2000000+d) then DL [ev x] else []
 |_=>[]
def Bv (s:St) (j:Nat) (want:Bool):Option (List Gd×St) :=
 match s.env.getD j .any with
 |.val .bo c=>some ([⟨s.nx,want,c⟩],⟨s.env.set j (.bid s.nx c),s.own,s.nx+1⟩)
 |.bid n c=>some ([⟨n,want,c⟩],s)
 |.grd gs (.val .bo c)=>some (gs++[⟨s.nx,want,c⟩],⟨s.env.set j (.grd gs (.bid s.nx c)),s.own,s.nx+1⟩)
 |.grd gs (.bid n c)=>some (gs++[⟨n,want,c⟩],s)
 |_=>none
def gqc (C:Cx) (raw:Bool) (o:VOp) (ev:Operand->SV) (own:Own):Option (List Prop×SV) :=
 match o with
 |.callF f args=>match Vb C.cs (.fn f [] []) (BM own (args.map ev)) with
  |some (c,v,[])=>bif v.ret 0 then some ([c],v) else none
  |_=>none
 |.callV f args=>match Vb C.cs ((BM own [ev f]).getD 0 .any) (BM own (args.map ev)) with
  |some (c,v,[])=>bif v.ret 0 then some ([c],v) else none
  |_=>none
 |o=>gq C.kt raw o ev own
def AU (nt:Nat):Option (Prop×SV×List OB)->Option (Prop×SV)
 |some (c,v,bs)=>(match v,bs with
  |.lst 0,[.lst _ k xs _]=>bif k.flat&&Nat.blt 0 nt then some (c,.val (.list k) xs) else none
  |_,_=>none)
 |none=>none
def Sw (C:Cx) (o:VOp) (ev:Operand->SV) (own:Own):Option (Prop×SV) :=
 match o with
 |.callF f args=>AU C.nt (Vb C.cs (.fn f [] []) (BM own (args.map ev)))
 |.callV f args=>AU C.nt (Vb C.cs ((BM own [ev f]).getD 0 .any) (BM own (args.map ev)))
 |.buildSlice e z n parts=>(match QO C.kt e.ty with
  |some k=>if k.size=e.sz/\KW k z=true/\k.flat=true then (match SQ k ev parts (List.replicate n k.dflt) with
   |some xs=>some (True,.val (.list k) xs)
   |none=>none) else none
  |none=>none)
 |_=>none
def La (env:List SV) (x:Operand):Option Bool:=match x with
 |.tmp j=>(match env.getD j .any with
  |.grd gs v=>(match gs with
   |[]=>(match v with
    |.val k x=>(match k,x with|.bo,b=>some b|_,_=>none)
    |_=>none)
   |_=>none)
  |_=>none)
 |_=>none
def FH (env:List SV) (g:Option (Nat×Bool)):Option Bool:=match g with
 |none=>none
 |some (j,want)=>(match La env (.tmp j) with
  |some b=>some (b==want)
  |none=>none)
def Q38 (gs:List Gd) (env:List SV) (c a b:Operand):Option SV :=
 match gev gs env c with
 |.bid n t =>
  match a,b with
  |.const (.bool true),b=>(asB (gev (gs++[⟨n,false,t⟩]) env b)).map λy=>.val .bo (t||y)
  |a,.const (.bool false)=>(asB (gev (gs++[⟨n,true,t⟩]) env a)).map λx=>.val .bo (t&&x)
  |a,b=>match gev (gs++[⟨n,true,t⟩]) env a,gev (gs++[⟨n,false,t⟩]) env b with
   |.val (.i k) x,.val (.i k') y=>if k=k' then some (.val (.i k) (if t then x else y)) else none
   |.val .bo x,.val .bo y=>some (.val .bo (if t then x else y))
   |_,_=>none
 |_=>none
def Ez (gs:List Gd) (env:List SV) (c a b:Operand):Option SV:=match La env c with
 |some t=>some (bif t then gev gs env a else gev gs env b)
 |none=>Q38 gs env c a b
def Oj:VOp->Bool
 |.alloc ..|.box ..|.buildSlice ..|.makeSlice ..|.append ..|.store ..|.callF ..|.callV ..=>false
 |.ext (.makeMap)|.ext (.mapUpdate ..)|.ext (.delete ..)|.ext (.mapEntry ..)|.ext (.entryStore ..)|.ext (.copy ..)|.ext (.clear ..)|.ext (.unsafeStr ..)|.ext (.strBytes ..)|.ext (.rangeMap _)|.ext (.nextMap _)=>false
 |_=>true
def Dr:SV->SV
 |.bid _ c=>.val .bo c
 |v=>v
def Z02 (o:VOp):Option (Nat×Nat×(Nat->VOp)):=match o with
 |.indexAddrArr len size x (.tmp t)=>some (len,t,λn=>.indexAddrArr len size x (.const (.int .i64 (Int.ofNat n))))
 |.indexArr len agg size x (.tmp t)=>some (len,t,λn=>.indexArr len agg size x (.const (.int .i64 (Int.ofNat n))))
 |_=>none
def IM (j:Int) (f:Nat->Prop):Nat->Nat->Prop
 |0,_=>True
 |n+1,i=>(j=(i:Int)->f i)/\IM j f n (i+1)
def Z4y (C:Cx) (o:VOper) (s:St) (K:St->Prop):Prop :=
 (match o.op with
 |.pick c a b=>match Ez [] s.env c a b with
  |some v=>gnm C (.pick c a b) (gev [] s.env) v λv=>K (s.put o.dst v)
  |none=>False
 |op=>bif Oj op then (match gq C.kt (C.raw.contains (o.dst.getD 0)) op (gev [] s.env) s.own with
   |some (cs,v)=>Cc [] cs (gnm C op (gev [] s.env) v λv=>K (s.put o.dst v))
   |none=>False)
  else (match op with
   |.ext .makeMap=>(match QO C.kt (1000000+o.dst.getD 0) with
    |some (.pair kk vk)=>K ((s.make (C.off+o.dst.getD 0) (.map kk vk [])).put o.dst (.map (C.off+o.dst.getD 0)))
    |_=>False)
   |op=>bif C5 C (o.dst.getD 0) op (gev [] s.env) then gnd C (C.off+o.dst.getD 0) op (gev [] s.env) s λv s'=>K (s'.put o.dst v) else gn C (C.off+o.dst.getD 0) op (gev [] s.env) s λv s'=>K (s'.put o.dst v)))
def Z50 (C:Cx) (o:VOper) (s:St) (K:St->Prop):Prop :=
 match Z02 o.op with
 |some (len,i,f)=>(match asI (gev [] s.env (.tmp i)) with
  |some (_,j)=>0<=j/\j<(len:Int)/\IM j (λn=>match gq C.kt (C.raw.contains (o.dst.getD 0)) (f n) (gev [] s.env) s.own with
   |some (cs,v)=>Cc [] cs (gnm C (f n) (gev [] s.env) v λv=>K (s.put o.dst v))
   |none=>False) len 0
  |none=>False)
 |none=>Z4y C o s K
def Z1d (C:Cx) (o:VOper) (s:St) (K:St->Prop):Prop :=
 match o.guard with
 |none=>Z50 C o (s.frzs (Q6g C (o.dst.getD 0) o.op (gev [] s.env) s.own)) K
 |some (j,want)=>match Bv s j want with
  |none=>False
  |some (gs,s)=>(match o.op with
   |.pick c a b=>match Ez gs s.env c a b with
    |some v=>gnm C (.pick c a b) (gev gs s.env) v λv=>K (s.put o.dst (.grd gs (Dr v)))
    |none=>False
   |op=>(match gqc C (C.raw.contains (o.dst.getD 0)) op (gev gs s.env) s.own with
    |some (cs,v)=>Cc gs cs (gnm C op (gev gs s.env) v λv=>K (s.put o.dst (.grd gs (Dr v))))
    |none=>(match Sw C op (gev gs s.env) s.own with
     |some (c,v)=>Cc gs [c] (gnm C op (gev gs s.env) v λv=>K ((s.make (C.off+o.dst.getD 0) .dead).put o.dst (.grd gs v)))
     |none=>False)))
def gop (C:Cx) (o:VOper) (s:St) (K:St->Prop):Prop:=match FH s.env o.guard with
 |some t=>bif t then Z1d C ⟨o.dst,o.op,none⟩ s K else K (s.put o.dst .any)
 |none=>Z1d C o s K
def Q6c (d:Nat) (s:St):Option St:=match s.env.getD d .any with
 |.box o off=>bif Nat.beq off 0 then (match Qf s.own o with
  |.cells l _=>some ⟨s.env.set d (.cp l 0),oset s.own o .dead,s.nx⟩
  |_=>none) else none
 |_=>none
def Z20 (C:Cx) (d:Option Nat) (K:St->Prop) (s:St):Prop:=match d with
 |none=>K s
 |some d=>bif C.spl.contains d then (match asB (s.env.getD d .any) with
   |some t=>bif C.raw.contains (3000000+d) then (bif t then K (s.put (some d) (.grd [] (.val .bo true))) else K (s.put (some d) (.grd [] (.val .bo false))))
    else (t=true->K (s.put (some d) (.grd [] (.val .bo true))))/\(t=false->K (s.put (some d) (.grd [] (.val .bo false))))
   |none=>(match Q6c d s with
    |some s'=>K s'
    |none=>False))
  else K s
def Z1n (C:Cx):List VOper->St->(St->Prop)->Prop
 |[],s,K=>K s
 |o::r,s,K=>gop C o s (Z20 C o.dst λs'=>Z1n C r s' K)
def dv (o:DOper):VOper:=⟨o.dst,o.op,o.guard⟩
def Q2c (l:List DOper):Bool:=l.all λo=>!(o.kind==2)&&!(o.op.kind==2)
def gd1 (C:Cx) (o:DOper) (s:St) (K:St->Prop):Prop :=
 match o.guard with
 |none=>(match o.op with
  |.pick c a b=>(match Ez [] s.env c a b with
   |some v=>gnm C (.pick c a b) (gev [] s.env) v λv=>K (s.put o.dst v)
   |none=>False)
  |op=>(match gq C.kt (C.raw.contains (o.dst.getD 0)) op (gev [] s.env) s.own with
   |some (cs,v)=>Cc [] cs (gnm C op (gev [] s.env) v λv=>K (s.put o.dst v))
   |none=>False))
 |some (j,want)=>(match Bv s j want with
  |none=>False
  |some (gs,s)=>(match o.op with
   |.pick c a b=>(match Ez gs s.env c a b with
    |some v=>gnm C (.pick c a b) (gev gs s.env) v λv=>K (s.put o.dst (.grd gs (Dr v)))
    |none=>False)
   |op=>(match gq C.kt (C.raw.contains (o.dst.getD 0)) op (gev gs s.env) s.own with
    |some (cs,v)=>Cc gs cs (gnm C op (gev gs s.env) v λv=>K (s.put o.dst (.grd gs (Dr v))))
    |none=>False)))
def OB.wf:OB->Prop
 |.lst _ _ xs nl=>nl=true->xs=[]
 |_=>True
def IB:List OB->Prop->Prop
 |[],q=>q
 |b::r,q=>b.wf/\IB r q
def MI (C:Cx) (d:Nat) (f:SV) (args:List SV) (s:St) (K:List Nat->SV->St->Prop):Prop :=
 match Vb C.cs f args with
 |some (c,v,bs)=>bif v.ret bs.length&&(bs.all OB.ret&&(Nat.blt 0 C.nt&&(bs.all OB.isL&&V8 v))) then c/\IB bs (K ((List.range bs.length).map λj=>d+j*C.nt) (v.ren d C.nt) (s.makes d C.nt 0 bs)) else False
 |none=>False
def HK:VOp->Bool
 |.alloc ..|.box ..|.buildSlice ..|.makeSlice ..=>true
 |_=>false
def QY (d:Nat) (o:VOp) (ev:Operand->SV):Nat:=match o with
 |.append _ _ x _=>(match ev x with|.lst q=>q|_=>d)
 |.store _ a _=>(match ev a with|.box q _=>q|.elp q _ _ _=>q|_=>d)
 |.ext (.mapUpdate _ m _ _)=>(match ev m with|.map q=>q|_=>d)
 |.ext (.delete _ m _)=>(match ev m with|.map q=>q|_=>d)
 |.ext (.mapEntry _ _ m _)=>(match ev m with|.map q=>q|_=>d)
 |.ext (.entryStore m _ _)=>(match ev m with|.map q=>q|_=>d)
 |.ext (.copy _ a _)=>(match ev a with|.lst q=>q|.sub q _ _ _=>q|_=>d)
 |.ext (.unsafeStr _ a _)=>(match ev a with|.dd q _=>q|_=>d)
 |_=>d
def OB.here:OB->Bool
 |.dead=>false
 |.stk _ _=>false
 |.deep _ _ _ _ _ _=>false
 |.iter _ _ _ _=>false
 |.mapE _ _ _ _ _=>false
 |.lpf _ _ _=>false
 |_=>true
def stP:MK->Value->Bool
 |.agg [.int .i64,.int .i64],.int .i64 n=>n==0
 |_,_=>false
def NT (o:VOp) (ev:Operand->SV) (own:Own):Option Nat:=match o with
 |.load _ _ a=>(match ev a with
  |.box q _=>bif (Qf own q).here then some (2*q) else none
  |.elp q _ _ _=>bif (Qf own q).here then some (2*q) else none
  |_=>none)
 |.ext (.lookup mk z false x _)=>bif stP mk z then (match ev x with
  |.map q=>(match Qf own q with|.map _ _ _=>some (2*q+1)|_=>none)
  |_=>none) else none
 |.slice _ x _ _ none=>(match ev x with
  |.lst q=>(match Qf own q with
   |.lst _ _ _ nl=>bif nl then none else some (2*q)
   |_=>none)
  |_=>none)
 |_=>none
def TU:VOp->Bool
 |.ext (.mapEntry mk z _ _)=>stP mk z
 |_=>false
def Zu (A:List (Nat×Option Nat)) (j q:Nat):Bool:=A.all λa=>Nat.blt a.1 j||(match a.2 with|some t=>!(Nat.beq t q)|none=>false)
def Pr (A:List (Nat×Option Nat)) (j:Nat) (q:Option Nat):Bool:=match q with|some q=>Zu A j (q / 2)|none=>false
def TX (R:List (Nat×Option Nat)) (hl t:Nat):Bool:=R.all λr=>Nat.blt r.1 hl||(match r.2 with|some q=>!(Nat.beq (q / 2) t)|none=>false)
def Lu (R:List (Nat×Option Nat)) (hl t:Nat):Bool:=R.all λr=>Nat.blt r.1 hl||(match r.2 with|some q=>!(Nat.beq (q / 2) t)|none=>true)
def Q7u (R:List (Nat×Option Nat)) (hl t:Nat):Bool:=R.all λr=>Nat.blt r.1 hl||(match r.2 with|some q=>!(Nat.beq (q / 2) t)||Nat.beq (q % 2) 1|none=>false)
def Ej (mk:Bool) (R:List (Nat×Option Nat)) (hl:Nat) (ts:List Nat):Bool:=R.all λr=>Nat.blt r.1 hl||(match r.2 with|some q=>ts.all (λt=>!(Nat.beq (q / 2) t))|none=>mk)
def Q7w (o:VOp) (ev:Operand->SV):Bool:=match o with
 |.load _ _ a=>(match ev a with|.rop _ _ _ _=>true|.cp _ _=>true|_=>false)
 |_=>false
def Od (s:St) (j:Nat) (want:Bool) (o:VOp):Bool:=match Bv s j want with
 |some (gs,s1)=>Q7w o (gev gs s1.env)
 |none=>false
def Dp (A:List (Nat×Option Nat)) (j:Nat):Bool:=A.all λa=>Nat.blt a.1 j||a.2.isSome
def I5 (C:Cx) (f:SV) (args:List SV):Option (List Prop×SV):=match Vb C.cs f args with
 |some (c,v,bs)=>(match v,bs with
  |.lst 0,[.lst _ k xs nl]=>bif k.flat&&Nat.blt 0 C.nt then some ([c,nl=true->xs=[]],.val (.list k) xs) else none
  |_,_=>none)
 |none=>none
def F3 (env:List SV) (o:DOper):DOper:=match FH env o.guard with
 |some true=>{o with guard:=none}
 |_=>o
def Z0h (own:Own):SV->Option (List SV)
 |.box o off=>bif Nat.beq off 0 then (match Qf own o with|.cells l _=>some l|_=>none) else none
 |.cp l off=>bif Nat.beq off 0 then some l else none
 |_=>none
def Q32 (own:Own) (j:Nat):List SV->Option Nat
 |a::_=>(match Z0h own a with
  |some l=>(match l[j]? with
   |some (.map o)=>some o
   |_=>none)
  |none=>(match a with|.map o=>some o|_=>none))
 |[]=>none
def Cx.nx (C:Cx):Cx:={C with xs:=[]}
def Xx (C:Cx):List DOper->St->Nat->Nat->List (Nat×Option Nat)->List (Nat×Option Nat)->(St->Prop)->Prop
 |[],s,_,_,_,_,K=>K s
 |o0::r,s,hl,chg,A,R,K=>match FH s.env o0.guard with
  |some false=>if o0.kind=2 then Xx C r (s.put o0.dst .any) (hl+1) chg A R K else Xx C r (s.put o0.dst .any) hl chg A R K
  |_=>(λo:DOper =>
  if o.kind=2 then
   (match o.op with
   |.callF f args=>(match o.guard with
    |none=>(match QO C.xs f with
     |some x=>(match QO C.xf f with
      |some j=>(match Q32 s.own j (args.map (gev [] s.env)) with
       |some t=>bif waits o.dst.toList r&&Ej false R hl [t] then
         x (C.off+o.dst.getD 0) (args.map (gev [] s.env)) s λv s'=>Xx C r (s'.put o.dst v) (hl+1) hl ((hl-1,some t)::A) R K else False
       |none=>False)
      |none=>bif waits o.dst.toList r&&R.all (λq=>Nat.blt q.1 hl) then
       x (C.off+o.dst.getD 0) (args.map (gev [] s.env)) s λv s'=>Xx C r (s'.put o.dst v) (hl+1) hl ((hl-1,none)::A) [] K
      else MI C (C.off+o.dst.getD 0) (.fn f [] []) (BM s.own (args.map (gev [] s.env))) s λts v s'=>Xx C r (s'.put o.dst v) (hl+1) (bif ts.isEmpty then chg else hl) (ts.map (λt=>(hl-1,some t))++A) (bif ts.isEmpty then R else R.map λr=>(r.1,none)) K)
     |none=>MI C (C.off+o.dst.getD 0) (.fn f [] []) (BM s.own (args.map (gev [] s.env))) s λts v s'=>Xx C r (s'.put o.dst v) (hl+1) (bif ts.isEmpty then chg else hl) (ts.map (λt=>(hl-1,some t))++A) (bif ts.isEmpty then R else R.map λr=>(r.1,none)) K)
    |some (j,want)=>(match Bv s j want with
     |none=>False
     |some (gs,s)=>(match gqc C false (.callF f args) (gev gs s.env) s.own with
      |some (cs,v)=>bif V8 v then Cc gs cs (gnm C (.callF f args) (gev gs s.env) v λv=>Xx C r (s.put o.dst (.grd gs (Dr v))) (hl+1) chg A R K) else False
      |none=>(match I5 C (.fn f [] []) (BM s.own (args.map (gev gs s.env))) with
       |some (cs,v)=>Cc gs cs (Xx C r ((s.make (C.off+o.dst.getD 0) .dead).put o.dst (.grd gs v)) (hl+1) hl ((hl-1,none)::A) (R.map λr=>(r.1,none)) K)
       |none=>False))))
   |.callV f args=>(match o.guard with
    |none=>MI C (C.off+o.dst.getD 0) ((BM s.own [gev [] s.env f]).getD 0 .any) (BM s.own (args.map (gev [] s.env))) s λts v s'=>Xx C r (s'.put o.dst v) (hl+1) (bif ts.isEmpty then chg else hl) (ts.map (λt=>(hl-1,some t))++A) (bif ts.isEmpty then R else R.map λr=>(r.1,none)) K
    |some _=>False)
   |.ext (.rangeMap _)=>False
   |.ext (.nextMap _)=>False
   |op=>(match o.guard with
    |none=>bif C5 C (o.dst.getD 0) op (gev [] s.env) then
      (bif Ej (HK op) R hl (Lb (C.off+o.dst.getD 0) op (gev [] s.env)) then
       gnd C (C.off+o.dst.getD 0) op (gev [] s.env) s λv s'=>Xx C r (s'.put o.dst v) (hl+1) hl ((Lb (C.off+o.dst.getD 0) op (gev [] s.env)).map (λt=>(hl-1,some t))++A) R K else False)
     else bif (HK op&&Lu R hl (QY (C.off+o.dst.getD 0) op (gev [] s.env)))||TX R hl (QY (C.off+o.dst.getD 0) op (gev [] s.env))||(TU op&&Q7u R hl (QY (C.off+o.dst.getD 0) op (gev [] s.env))) then
      gn C (C.off+o.dst.getD 0) op (gev [] s.env) s λv s'=>Xx C r (s'.put o.dst v) (hl+1) hl ((hl-1,some (QY (C.off+o.dst.getD 0) op (gev [] s.env)))::A) R K else False
    |some _=>False))
  else if o.kind=1 then
   (match o.guard with
   |none=>bif Q7w o.op (gev [] s.env)&&Dp A o.kmin then gd1 C o s λs'=>Xx C r s' hl chg A R K
    else bif Nat.ble chg o.kmin||Pr A o.kmin (NT o.op (gev [] s.env) s.own) then gd1 C o s λs'=>Xx C r s' hl chg A ((o.kmax,NT o.op (gev [] s.env) s.own)::R) K else False
   |some (j,want)=>bif Od s j want o.op&&Dp A o.kmin then gd1 C o s λs'=>Xx C r s' hl chg A R K
    else bif Nat.ble chg o.kmin then gd1 C o s λs'=>Xx C r s' hl chg A ((o.kmax,none)::R) K else False)
  else gd1 C o s λs'=>Xx C r s' hl chg A R K) (F3 s.env o0)
inductive Src where
 |slot (j:Nat)
 |cell (t off:Nat)
 |key (k:Nat)
structure LoopAnn where
 E:Type
 D:Type
 sl:List Nat
 vs:E->D->List SV
 own:E->D->List (Nat×Src×OB)
def Q7l:List Nat->List SV->List (Nat×SV)
 |[],_=>[]
 |j::js,[]=>(j,.any)::Q7l js []
 |j::js,v::vs=>(j,v)::Q7l js vs
def LoopAnn.st (A:LoopAnn) (p:A.E) (d:A.D):List (Nat×SV):=Q7l A.sl (A.vs p d)
def LoopP {D:Type}(F:D->(D->Prop)->Prop) (d0:D):Prop :=
 ∃ (I:D->Prop) (μ:D->Nat),I d0/\∀ d,I d->F d λd'=>I d'/\μ d'<μ d
def Z63 (s:St) (mp:List (Nat×Option Nat)):Src->Option (Option Nat)
 |.slot j=>match s.env.getD j .any with
  |.lst a=>some (some a)
  |.sub a _ _ _=>some (some a)
  |.dd a _=>some (some a)
  |.box a _=>some (some a)
  |.map a=>some (some a)
  |.nilS=>some none
  |_=>none
 |.cell t off=>match QO mp t with
  |some (some a)=>(match Qf s.own a with
   |.cells l _=>(match l.getD off .any with
    |.lst a=>some (some a)
    |.box a _=>some (some a)
    |.map a=>some (some a)
    |.nilS=>some none
    |_=>none)
   |_=>none)
  |_=>none
 |.key k=>some (some k)
def Z01 (s:St):List (Nat×Src)->List (Nat×Option Nat)->Option (List (Nat×Option Nat))
 |[],mp=>some mp
 |(t,src)::r,mp=>match Z63 s mp src with
  |some (some a)=>if (mp.any λp=>p.2==some a)||(QO mp t).isSome then none else Z01 s r (mp++[(t,some a)])
  |some none=>if (QO mp t).isSome then none else Z01 s r (mp++[(t,none)])
  |none=>none
def MN {k:Kind}(x:k.T) {k':Kind}(y:k'.T):Prop:=match OQ y k with|some y=>y=x|none=>False
mutual
def SV.pure:SV->Bool
 |.lst _|.sub _ _ _ _|.elp _ _ _ _|.box _ _|.map _|.grd _ _|.bid _ _|.dd _ _=>false
 |.agg l=>SVs.pure l
 |.tup l=>SVs.pure l
 |.cp l _=>SVs.pure l
 |.fn _ a b=>SVs.pure a&&SVs.pure b
 |.any|.val _ _|.nilS|.nilP|.nilM|.nilF|.rop _ _ _ _|.pf _ _ _ _=>true
def SVs.pure:List SV->Bool
 |[]=>true
 |s::ss=>SV.pure s&&SVs.pure ss
end
mutual
def HI (mp:List (Nat×Option Nat)):SV->SV->Prop
 |.any,_=>True
 |.val k x,v=>match v with
  |.val _k' y=>MN x y
  |.bid _ c=>MN (k:=k) x (k':=.bo) c
  |.nilS=>match k,x with|.list _,x=>x=[]|_,_=>False
  |_=>False
 |.lst t,v=>match v with
  |.lst a=>if QO mp t=some (some a) then True else False
  |.nilS=>if QO mp t=some none then True else False
  |_=>False
 |.box t off,v=>match v with
  |.box a dF=>if QO mp t=some (some a)/\off=dF then True else False
  |_=>False
 |.map t,v=>match v with
  |.map a=>if QO mp t=some (some a) then True else False
  |_=>False
 |.dd t w,v=>(match w with
  |.obx c=>(match v with
   |.nilP=>c=false
   |.box a f=>if QO mp t=some (some a)/\f=0 then c=true else False
   |.dd a w'=>(match w' with|.obx c'=>if QO mp t=some (some a) then c'=c else False|_=>False)
   |_=>False)
  |.yv=>(match v with
   |.dd a w'=>(match w' with|.yv=>if QO mp t=some (some a) then True else False|_=>False)
   |_=>False)
  |.out=>(match v with
   |.dd a w'=>(match w' with|.out=>if QO mp t=some (some a) then True else False|_=>False)
   |.nilS=>if QO mp t=some none then True else False
   |_=>False)
  |_=>False)
 |.agg l,v=>match v with|.agg l'=>UG mp l l'|_=>False
 |.tup l,v=>match v with|.tup l'=>UG mp l l'|_=>False
 |.fn f a b,v=>match v with|.fn f' a' b'=>if f=f' then UG mp a a'/\UG mp b b' else False|_=>False
 |.nilS,v=>match v with|.nilS=>True|_=>False
 |.nilP,v=>match v with|.nilP=>True|_=>False
 |.nilM,v=>match v with|.nilM=>True|_=>False
 |.nilF,v=>match v with|.nilF=>True|_=>False
 |.cp l off,v=>bif SVs.pure l then .cp l off=v/\SVs.pure l=true else match v with|.cp l' dF=>if off=dF then UG mp l l' else False|_=>False
 |.pf ks r cT p,v=>.pf ks r cT p=v
 |.sub t lo n sz,v=>match v with
  |.sub a tX n' tY=>if QO mp t=some (some a) then tX=lo/\n'=n/\tY=sz else False
  |_=>False
 |.elp _ _ _ _,_|.grd _ _,_|.bid _ _,_|.rop _ _ _ _,_=>False
def UG (mp:List (Nat×Option Nat)):List SV->List SV->Prop
 |[],l=>l=[]
 |s::ss,l=>match l with|v::vs=>HI mp s v/\UG mp ss vs|[]=>False
end
def Q1l (s:St) (mp:List (Nat×Option Nat)) (t:Nat) (b:OB):Prop :=
 match QO mp t with
 |some (some a)=>(match b,Qf s.own a with
  |.dead,_=>True
  |.lst ty k xs nl,.lst gB k' cL l5=>if ty=gB then MN (k:=.list k) xs (k':=.list k') cL/\l5=nl else False
  |.cells l u,.cells l' u'=>if u=u' then UG mp l l' else False
  |.map kk vk m,.map jX l6 m'=>if kk=jX then MN (k:=.list (.pair kk vk)) m (k':=.list (.pair jX l6)) m' else False
  |.stk l vals,.stk l' kS=>vals=kS/\UG mp l l'
  |.lpf l q u,.lpf l' q' u'=>(match u,u' with|.rdy,.rdy=>q=q'/\UG mp l l'|.busy,.busy=>q=q'/\UG mp l l'|_,_=>False)
  |.iter kk vk m dn,.iter jX l6 m' r6=>if kk=jX then MN (k:=.list (.pair kk vk)) m (k':=.list (.pair jX l6)) m'/\r6=dn else False
  |.deep ty q k xs nl h,.deep gB q' k' cL l5 h'=>if ty=gB/\q=q' then (match h,h' with|none,none=>MN (k:=.list k) xs (k':=.list k') cL/\l5=nl|_,_=>False) else False
  |_,_=>False)
 |some none=>(match b with
  |.lst _ _ xs nl=>xs=[]/\nl=true
  |.deep _ _ _ xs nl h=>(match h with|none=>xs=[]/\nl=true|some _=>False)
  |_=>False)
 |none=>False
def gmatch (s:St) (st:List (Nat×SV)) (ow:List (Nat×Src×OB)):Prop :=
 match Z01 s (ow.map λp=>(p.1,p.2.1)) [] with
 |some mp=>slots mp st/\obs mp ow
 |none=>False
 where
 slots (mp:List (Nat×Option Nat)):List (Nat×SV)->Prop
  |[]=>True
  |(j,v)::r=>HI mp v (s.env.getD j .any)/\slots mp r
 obs (mp:List (Nat×Option Nat)):List (Nat×Src×OB)->Prop
  |[]=>True
  |(t,_,b)::r=>Q1l s mp t b/\obs mp r
def Zo (len:Nat) (st:List (Nat×SV)) (ow:List (Nat×Src×OB)):St :=
 ⟨st.foldl (λe p=>e.set p.1 p.2) (List.replicate len .any),ow.foldl (λo p=>oset o p.1 p.2.2) [],0⟩
def Z66:SV->SV
 |.bid _ c=>.val .bo c
 |.grd _ _=>.any
 |.elp _ _ _ _=>.any
 |.rop _ _ _ _=>.any
 |.dd o w=>(match w with|.out=>.dd o .out|.obx c=>.dd o (.obx c)|.yv=>.dd o .yv|_=>.any)
 |v=>v
def Z4v (jn:List Nat) (s:St):List (Nat×SV):=jn.map λj=>(j,Z66 (s.env.getD j .any))
def Q88:Own->List (Nat×Src×OB)
 |[]=>[]
 |(t,b)::r=>(match b with|.dead=>Q88 r|b=>(t,.key t,b)::Q88 r)
def Ba (n:Nat) (s:St) (st:List (Nat×SV)) (ow:List (Nat×Src×OB)):Prop:=bif Nat.beq s.env.length n then gmatch s st ow else False
def Q5q (C:Cx):List (List DOper)->St->List (Nat×SV)->List (Nat×Src×OB)->Prop->Prop
 |[],_,_,_,Q=>Q
 |l::ls,s,st,ow,Q=>(Xx C.nx l s 1 0 [] [] λs'=>Ba s.env.length s' st ow)/\Q5q C ls s st ow Q
def RB (C:Cx):List DSeg->St->(St->Prop)->Prop
 |[],s,K=>K s
 |.one o::r,s,K=>gop C o s (Z20 C o.dst λs'=>RB C r s' K)
 |.alts [l]::r,s,K=>bif Q2c l then Z1n C (l.map dv) s λs'=>RB C r s' K else bif l.all (λo=>o.kind==o.op.kind) then Xx C l s 1 0 [] [] λs'=>RB C r s' K else False
 |.alts (l::l2::ls)::r,s,K=>bif (l::l2::ls).all (λl=>l.all λo=>o.kind==o.op.kind) then
   Xx C.nx l s 1 0 [] [] λs0=>Ba s.env.length s0 (Z4v C.jn s0) (Q88 s0.own)/\Q5q C (l2::ls) s (Z4v C.jn s0) (Q88 s0.own) (RB C r (Zo s.env.length (Z4v C.jn s0) (Q88 s0.own)) K) else False
 |.alts []::_,_,_=>False
def Q1c (R:St->Prop) (K:Exit->St->Prop):Exit->St->Prop
 |.normal,s=>R s
 |e,s=>K e s
def Iu (id:Nat) (K:Exit->St->Prop):Exit->St->Prop
 |.exit iD,s=>if iD=id then K .normal s else K (.exit iD) s
 |e,s=>K e s
def Z4i:Own->Bool
 |[]=>true
 |(_,b)::r=>(match b with|.lpf _ _ .ret=>false|.lpf _ _ (.exit _)=>false|_=>true)&&Z4i r
def Q2e (A:LoopAnn) (p:A.E) (next:A.D->Prop) (K:Exit->St->Prop):Exit->St->Prop
 |.normal,s=>bif Z4i s.own then ∃ d,gmatch s (A.st p d) (A.own p d)/\next d else False
 |e,s=>K e s
def Z5x {D:Type}(F:(D->Prop)->Prop) (iZ:D->Prop):Prop:=∃ I:D->Prop,F I/\∀ d,I d->iZ d
def Z2s (L:List (Nat×LoopAnn)) (c:Operand):Option LoopAnn:=match c with
 |.tmp j=>QO L (3000000+j)
 |_=>none
def Q6d (n:Nat) (A:LoopAnn) (p:A.E) (next:A.D->Prop) (K:Exit->St->Prop):Exit->St->Prop
 |.normal,s=>∃ d,Ba n s (A.st p d) (A.own p d)/\next d
 |e,s=>K e s
def Z0a {D:Type}(m:Nat) (F:Nat->D->(D->Prop)->Prop) (iZ:D->Prop) (d0:D):Prop :=
 ∃ I:Nat->D->Prop,I 0 d0/\(∀ k d,k<m->I k d->F k d λd'=>I (k+1) d')/\∀ d,I m d->iZ d
def Q6r:St->List SV->Option (St×List SV)
 |s,[]=>some (s,[])
 |s,v::vs=>match v with
  |.box o 0=>(match Qf s.own o with
   |.cells l _=>bif SVs.pure l then (match Q6r ⟨s.env,oset s.own o .dead,s.nx⟩ vs with|some (s',r)=>some (s',.cp l 0::r)|none=>none) else none
   |_=>none)
  |v=>bif v.pure then (match Q6r s vs with|some (s',r)=>some (s',v::r)|none=>none) else none
def Cb (key:Nat) (vals:List Value) (s:St):St:=s.make key (.stk (SVs.kill key s.env) vals)
def Dj:List SV->List Nat->List SV->List SV
 |env,p::ps,v::vs=>Dj (env.set p v) ps vs
 |env,_,_=>env
def Io (key:Nat) (A:LoopAnn) (p:A.E) (vals:List Value) (next:A.D->Prop) (K:Exit->St->Prop) (e:Exit) (s:St):Prop :=
 match Qf s.own key with
 |.stk l vs=>vs=vals/\(match e with
  |.normal=>∃ d,gmatch ⟨l,s.own,s.nx⟩ (A.st p d) (A.own p d)/\next d
  |.ret=>K .ret ⟨l,s.own,s.nx⟩
  |.exit id=>K (.exit id) ⟨l,s.own,s.nx⟩
  |_=>False)
 |_=>False
def Z5f (o:Nat) (q:LpD) (s:St):St:=s.make o (.lpf (SVs.kill o s.env) q .rdy)
def gyK (o aM:Nat) (gT:List Value) (q:LpD) (K:SV->St->Prop) (e:Exit) (s:St):Prop :=
 match Qf s.own aM,Qf s.own o with
 |.stk l2 kT,.lpf l q' u=>(match u with
  |.busy=>kT=gT/\q'=q/\(match e with
   |.normal=>K (.val .bo true) ⟨l2,oset (oset s.own aM .dead) o (.lpf l q' .rdy),s.nx⟩
   |.ret=>K (.val .bo false) ⟨l2,oset (oset s.own aM .dead) o (.lpf l q' .ret),s.nx⟩
   |.exit id=>K (.val .bo false) ⟨l2,oset (oset s.own aM .dead) o (.lpf l q' (.exit id)),s.nx⟩
   |_=>False)
  |_=>False)
 |_,_=>False
def Q5i (o:Nat) (q:LpD) (K:Exit->St->Prop) (s:St):Prop :=
 match Qf s.own o with
 |.lpf l q' u=>(match u with
  |.busy=>False
  |.rdy=>q'=q/\K .normal ⟨l,oset s.own o .dead,s.nx⟩
  |.ret=>q'=q/\K .ret ⟨l,oset s.own o .dead,s.nx⟩
  |.exit id=>q'=q/\K (.exit id) ⟨l,oset s.own o .dead,s.nx⟩)
 |_=>False
def IV (o aM np:Nat) (q:LpD) (W:(Exit->St->Prop)->St->Prop) (ps:List Nat):YSp:=λargs s K =>
 match Qf s.own o with
 |.lpf l q' u=>(match u with
  |.rdy=>bif Nat.beq args.length np then q'=q/\∀ gT,W (gyK o aM gT q K) ⟨Dj (SVs.kill aM l) ps (SVs.kill aM args),oset (Cb aM gT s).own o (.lpf (SVs.kill aM l) q' .busy),s.nx⟩ else False
  |_=>False)
 |_=>False
def gwp (C:Cx) (L:List (Nat×LoopAnn)):VCode->Nat->(Exit->St->Prop)->St->Prop
 |.skip,_,K,s=>K .normal s
 |.region ops,_,K,s=>Z1n C ops s λs'=>K .normal s'
 |.regionD aR,_,K,s=>RB C aR s λs'=>K .normal s'
 |.seq a b,n,K,s=>gwp C L a n (Q1c (λs'=>gwp C L b n K s') K) s
 |.cond c a b,n,K,s=>match La s.env c with
  |some t=>bif t then gwp C L a n K s else gwp C L b n K s
  |none=>(match asB (gev [] s.env c) with
   |some t=>(match Z2s L c with
    |some A=>∃ p:A.E,Z5x (λnext=>(t=true->gwp C L a n (Q6d s.env.length A p next K) s)/\(t=false->gwp C L b n (Q6d s.env.length A p next K) s)) (λd=>K .normal (Zo s.env.length (A.st p d) (A.own p d)))
    |none=>(t=true->gwp C L a n K s)/\(t=false->gwp C L b n K s))
   |none=>False)
 |.block id b,_,K,s=>gwp C L b id (Iu id K) s
 |.loop b,n,K,s=>match QO L n with
  |some A=>∃ (p:A.E) (d0:A.D),gmatch s (A.st p d0) (A.own p d0)/\LoopP (λd next=>gwp C L b n (Q2e A p next K) (Zo s.env.length (A.st p d) (A.own p d))) d0
  |none=>False
 |.rangeF g ps a b,n,K,s=>match gev [] s.env g with
  |.fn f first dE=>(match QO C.iy f with
   |some x=>∀ q:LpD,x (C.off+2000000+n) (SVs.kill (C.off+2000000+n) first++(.dd (C.off+2000000+n) .yv::SVs.kill (C.off+2000000+n) dE))
     (C.off+2000000+n,IV (C.off+2000000+n) (100000*(C.off+2000000+n+1)-1) ps.length q (λK' s'=>gwp C L a n (Q1c (λs3=>gwp C L b n K' s3) λ_ _=>False) s') ps)
     (Z5f (C.off+2000000+n) q s) (Q5i (C.off+2000000+n) q K)
   |none=>(match first with
   |[]=>(match QO C.it f,Q6r s dE,QO L n with
    |some it,some (s1,cM),some A=>(match it cM with
     |some (c,m,ar,xs)=>(bif Nat.beq ps.length ar then c/\∃ (p:A.E) (d0:A.D),gmatch s1 (A.st p d0) (A.own p d0) /\
      Z0a m (λk d next=>∀ vals,gwp C L a n (Q1c (λs3=>gwp C L b n (Io (2000000+n) A p vals next K) s3) λ_ _=>False)
       ⟨Dj (Cb (2000000+n) vals (Zo s.env.length (A.st p d) (A.own p d))).env ps (xs k),(Cb (2000000+n) vals (Zo s.env.length (A.st p d) (A.own p d))).own,0⟩)
       (λd=>K .normal (Zo s.env.length (A.st p d) (A.own p d))) d0 else False)
     |none=>False)
    |_,_,_=>False)
   |_=>False))
  |_=>False
 |.exit id,_,K,s=>K (.exit id) s
 |.ret,_,K,s=>K .ret s
 |.bad,_,_,_=>False
section
variable {P:Program}
theorem JK {a b:Nat}(h:¬ a=b):Nat.beq a b=false:=by
 cases e:Nat.beq a b with
 |false=>rfl
 |true=>exact absurd (zV e) h
theorem PfRel.mono {B B':Heap}(hB:B.Le B') {ks:List Kind}{r:Kind}{cT:AT ks->Prop}{p:AT ks->r.T}{v:Value}(h:PfRel P B ks r cT p v):PfRel P B' ks r cT p v:=by obtain⟨g,first,cap,hv,hx⟩:=h;exact⟨g,first,cap,hv,λx hd U vs hs ha=>hx x hd U vs (hB.trans hs) ha⟩
theorem Q17 {tb tb':Nat->Option Bool}(ht:∀ n c,tb n=some c->tb' n=some c) {v:SV}(h:gtb tb v):gtb tb' v:=by cases v<;>first|trivial|exact ht _ _ h
theorem Q1d {tb tb':Nat->Option Bool}{o:Nat}(ht:∀ n c,tb n=some c->tb' n=some c) {v:SV}(h:gtb tb v):gtb tb' (v.kill o):=by
 cases v
 case bid n c=>exact ht _ _ h
 all_goals (simp only[SV.kill];first|trivial|(split<;>trivial)|(cases Nat.beq _ _<;>trivial))
mutual
theorem SR.upd {B B':Heap}{pl pl':Nat->Value}{tb tb':Nat->Option Bool}{o:Nat}(hB:B.Le B') (ht:∀ n c,tb n=some c->tb' n=some c) (hp:∀ d,d≠o->pl' d=pl d) :
  ∀ (s:SV) (v:Value),SR P B pl tb s v->SR P B' pl' tb' (s.kill o) v
 |.any,_,_=>trivial
 |.val k x,v,h=>by simp only[SV.kill,SR] at h |-;exact KC.mono hB h
 |.bid n c,v,h=>by simp only[SV.kill,SR] at h |-;exact⟨h.1,ht _ _ h.2⟩
 |.grd gs s,v,h=>by simp only[SV.kill,SR] at h |-;exact⟨⟨λg hg=>ht _ _ (h.1.1 g hg),Q1d ht h.1.2⟩,λhg=>SR.upd hB ht hp s v (h.2.1 hg),h.2.2⟩
 |.nilS,v,h=>h
 |.nilP,v,h=>h
 |.nilM,v,h=>h
 |.nilF,v,h=>h
 |.lst o',v,h=>by
  by_cases e:o'=o
  .subst e;simp[SV.kill,SR]
  .simp only[SV.kill,JK e,cond_false];simp only[SR] at h |-;rw[hp _ e];exact h
 |.sub o' lo n sz,v,h=>by
  by_cases e:o'=o
  .subst e;simp[SV.kill,SR]
  .simp only[SV.kill,JK e,cond_false];simp only[SR] at h |-;rw[hp _ e];exact h
 |.elp o' i off sz,v,h=>by
  by_cases e:o'=o
  .subst e;simp[SV.kill,SR]
  .simp only[SV.kill,JK e,cond_false];simp only[SR] at h |-;rw[hp _ e];exact h
 |.box o' off,v,h=>by
  by_cases e:o'=o
  .subst e;simp[SV.kill,SR]
  .simp only[SV.kill,JK e,cond_false];simp only[SR] at h |-;rw[hp _ e];exact h
 |.map o',v,h=>by
  by_cases e:o'=o
  .subst e;simp[SV.kill,SR]
  .simp only[SV.kill,JK e,cond_false];simp only[SR] at h |-;rw[hp _ e];exact h
 |.dd o' w,v,h=>by
  by_cases e:o'=o
  .subst e;simp[SV.kill,SR]
  .simp only[SV.kill,JK e,cond_false];simp only[SR] at h |-;rw[hp _ e];exact h
 |.rop k l i off,v,h=>by simp only[SV.kill,SR] at h |-;obtain⟨b,o,c,e,wr,t,h1,h2,h3,h4,h5,h6⟩:=h;exact⟨b,o,c,e,wr,t,h1,h2,hB.2 _ _ h3,h4,h5,h6.mono λ_ _=>KC.mono hB⟩
 |.cp l off,v,h=>by simp only[SV.kill,SR] at h |-;obtain⟨b,c,e,wr,t,h1,h2,h3⟩:=h;exact⟨b,c,e,wr,t,hB.2 _ _ h1,h2,SRs.upd hB ht hp l c h3⟩
 |.agg l,v,h=>by simp only[SV.kill,SR] at h |-;obtain⟨cs,h1,h2⟩:=h;exact⟨cs,h1,SRs.upd hB ht hp l cs h2⟩
 |.tup l,v,h=>by simp only[SV.kill,SR] at h |-;obtain⟨cs,h1,h2⟩:=h;exact⟨cs,h1,SRs.upd hB ht hp l cs h2⟩
 |.fn f a b,v,h=>by simp only[SV.kill,SR] at h |-;obtain⟨x,y,h1,h2,h3⟩:=h;exact⟨x,y,h1,SRs.upd hB ht hp a x h2,SRs.upd hB ht hp b y h3⟩
 |.pf ks r cT p,v,h=>by simp only[SV.kill,SR] at h |-;exact h.mono hB
theorem SRs.upd {B B':Heap}{pl pl':Nat->Value}{tb tb':Nat->Option Bool}{o:Nat}(hB:B.Le B') (ht:∀ n c,tb n=some c->tb' n=some c) (hp:∀ d,d≠o->pl' d=pl d) :
  ∀ (s:List SV) (v:List Value),SRs P B pl tb s v->SRs P B' pl' tb' (SVs.kill o s) v
 |[],v,h=>h
 |s::ss,v,h=>by simp only[SVs.kill,SRs] at h |-;obtain⟨x,y,h1,h2,h3⟩:=h;exact⟨x,y,h1,SR.upd hB ht hp s x h2,SRs.upd hB ht hp ss y h3⟩
end
mutual
theorem SR.mono {B B':Heap}{pl:Nat->Value}{tb tb':Nat->Option Bool}(hB:B.Le B') (ht:∀ n c,tb n=some c->tb' n=some c) :
  ∀ (s:SV) (v:Value),SR P B pl tb s v->SR P B' pl tb' s v
 |.any,_,_=>trivial
 |.val k x,v,h=>by simp only[SR] at h |-;exact KC.mono hB h
 |.bid n c,v,h=>by simp only[SR] at h |-;exact⟨h.1,ht _ _ h.2⟩
 |.grd gs s,v,h=>by simp only[SR] at h |-;exact⟨⟨λg hg=>ht _ _ (h.1.1 g hg),Q17 ht h.1.2⟩,λhg=>SR.mono hB ht s v (h.2.1 hg),h.2.2⟩
 |.nilS,v,h|.nilP,v,h|.nilM,v,h|.nilF,v,h=>by simp only[SR] at h |-;exact h
 |.lst _,v,h|.sub _ _ _ _,v,h|.elp _ _ _ _,v,h|.box _ _,v,h|.map _,v,h|.dd _ _,v,h=>by simp only[SR] at h |-;exact h
 |.rop k l i off,v,h=>by simp only[SR] at h |-;obtain⟨b,o,c,e,wr,t,h1,h2,h3,h4,h5,h6⟩:=h;exact⟨b,o,c,e,wr,t,h1,h2,hB.2 _ _ h3,h4,h5,h6.mono λ_ _=>KC.mono hB⟩
 |.cp l off,v,h=>by simp only[SR] at h |-;obtain⟨b,c,e,wr,t,h1,h2,h3⟩:=h;exact⟨b,c,e,wr,t,hB.2 _ _ h1,h2,SRs.mono hB ht l c h3⟩
 |.agg l,v,h=>by simp only[SR] at h |-;obtain⟨cs,h1,h2⟩:=h;exact⟨cs,h1,SRs.mono hB ht l cs h2⟩
 |.tup l,v,h=>by simp only[SR] at h |-;obtain⟨cs,h1,h2⟩:=h;exact⟨cs,h1,SRs.mono hB ht l cs h2⟩
 |.fn f a b,v,h=>by simp only[SR] at h |-;obtain⟨x,y,h1,h2,h3⟩:=h;exact⟨x,y,h1,SRs.mono hB ht a x h2,SRs.mono hB ht b y h3⟩
 |.pf ks r cT p,v,h=>by simp only[SR] at h |-;exact h.mono hB
theorem SRs.mono {B B':Heap}{pl:Nat->Value}{tb tb':Nat->Option Bool}(hB:B.Le B') (ht:∀ n c,tb n=some c->tb' n=some c) :
  ∀ (s:List SV) (v:List Value),SRs P B pl tb s v->SRs P B' pl tb' s v
 |[],v,h=>h
 |s::ss,v,h=>by simp only[SRs] at h |-;obtain⟨x,y,h1,h2,h3⟩:=h;exact⟨x,y,h1,SR.mono hB ht s x h2,SRs.mono hB ht ss y h3⟩
end
mutual
theorem SR.frz {B:Heap}{pl:Nat->Value}{tb:Nat->Option Bool}{o:Nat}{k:Kind}{xs:List k.T}(hk:KC B (.list k) xs [pl o]) :
  ∀ (s:SV) (v:Value),SR P B pl tb s v->SR P B pl tb (s.frz o k xs) v
 |.any,_,_=>trivial
 |.val k' x,v,h=>by simp only[SV.frz];exact h
 |.bid n c,v,h=>by simp only[SV.frz];exact h
 |.grd gs s,v,h=>by simp only[SV.frz,SR] at h |-;refine⟨⟨h.1.1,?_⟩,λhg=>SR.frz hk s v (h.2.1 hg),h.2.2⟩;have h2:=h.1.2;cases s<;>first|exact h2|trivial|(simp only[SV.frz];cases Nat.beq _ _<;>trivial)
 |.nilS,v,h|.nilP,v,h|.nilM,v,h|.nilF,v,h=>h
 |.lst o',v,h=>by
  by_cases e:o'=o
  .subst e;simp only[SV.frz,Nat.beq_refl,zm];simp only[SR] at h |-;rw[h.1];exact hk
  .simp only[SV.frz,JK e,cond_false];exact h
 |.sub o' lo n sz,v,h=>by
  simp only[SV.frz];cases Nat.beq o' o with
  |true=>trivial
  |false=>exact h
 |.elp o' i off sz,v,h=>by
  simp only[SV.frz];cases Nat.beq o' o with
  |true=>trivial
  |false=>exact h
 |.box o' off,v,h=>by
  simp only[SV.frz];cases Nat.beq o' o with
  |true=>trivial
  |false=>exact h
 |.map o',v,h=>by
  simp only[SV.frz];cases Nat.beq o' o with
  |true=>trivial
  |false=>exact h
 |.dd o' w,v,h=>by
  simp only[SV.frz];cases Nat.beq o' o with
  |true=>trivial
  |false=>exact h
 |.rop k l i off,v,h=>by simp only[SV.frz];exact h
 |.cp l off,v,h=>by simp only[SV.frz,SR] at h |-;obtain⟨b,c,e,wr,t,h1,h2,h3⟩:=h;exact⟨b,c,e,wr,t,h1,h2,SRs.frz hk l c h3⟩
 |.agg l,v,h=>by simp only[SV.frz,SR] at h |-;obtain⟨cs,h1,h2⟩:=h;exact⟨cs,h1,SRs.frz hk l cs h2⟩
 |.tup l,v,h=>by simp only[SV.frz,SR] at h |-;obtain⟨cs,h1,h2⟩:=h;exact⟨cs,h1,SRs.frz hk l cs h2⟩
 |.fn f a b,v,h=>by simp only[SV.frz,SR] at h |-;obtain⟨x,y,h1,h2,h3⟩:=h;exact⟨x,y,h1,SRs.frz hk a x h2,SRs.frz hk b y h3⟩
 |.pf ks r cT p,v,h=>by simp only[SV.frz];exact h
theorem SRs.frz {B:Heap}{pl:Nat->Value}{tb:Nat->Option Bool}{o:Nat}{k:Kind}{xs:List k.T}(hk:KC B (.list k) xs [pl o]) :
  ∀ (s:List SV) (v:List Value),SRs P B pl tb s v->SRs P B pl tb (SVs.frz o k xs s) v
 |[],v,h=>h
 |s::ss,v,h=>by simp only[SVs.frz,SRs] at h |-;obtain⟨x,y,h1,h2,h3⟩:=h;exact⟨x,y,h1,SR.frz hk s x h2,SRs.frz hk ss y h3⟩
end
theorem SRs.length {B:Heap}{pl:Nat->Value}{tb:Nat->Option Bool}:∀ {s:List SV}{v:List Value},SRs P B pl tb s v->s.length=v.length
 |[],v,h=>by simp only[SRs] at h;subst h;rfl
 |s::ss,v,h=>by simp only[SRs] at h;obtain⟨x,y,rfl,_,h3⟩:=h;simp[SRs.length h3]
theorem SRs.get {B:Heap}{pl:Nat->Value}{tb:Nat->Option Bool}:∀ {s:List SV}{v:List Value},SRs P B pl tb s v->∀ {i:Nat}{a:SV},s[i]?=some a->∃ c,v[i]?=some c/\SR P B pl tb a c
 |[],v,h,i,a,hi=>by simp at hi
 |s::ss,v,h,i,a,hi=>by
  simp only[SRs] at h;obtain⟨x,y,rfl,h2,h3⟩:=h;cases i with
  |zero=>simp at hi;subst hi;exact⟨x,rfl,h2⟩
  |succ i=>simp at hi;simpa using SRs.get h3 hi
theorem SRs.of {B:Heap}{pl:Nat->Value}{tb:Nat->Option Bool}:∀ {s:List SV}{v:List Value},s.length=v.length->(∀ (i:Nat) (a:SV) (c:Value),s[i]?=some a->v[i]?=some c->SR P B pl tb a c)->SRs P B pl tb s v
 |[],v,hl,_=>by simp only[SRs];exact zQ.1 (by simpa using hl.symm)
 |s::ss,[],hl,_=>by simp at hl
 |s::ss,x::y,hl,h=>by simp only[SRs];exact⟨x,y,rfl,h 0 s x rfl rfl,SRs.of (by simpa using hl) λi a c ha hc=>h (i+1) a c (by simpa using ha) (by simpa using hc)⟩
theorem SRs.getD {B:Heap}{pl:Nat->Value}{tb:Nat->Option Bool}{s:List SV}{v:List Value}(h:SRs P B pl tb s v) (i:Nat) (d:Value):SR P B pl tb (s.getD i .any) (v.getD i d):=by
 by_cases hi:i<s.length
 .obtain⟨c,h1,h2⟩:=h.get (z6 hi);rw[zd,zd,h1,z6 hi];exact h2
 .rw[zd,zr (by omega)];simp[SR]
theorem SRs.set {B:Heap}{pl:Nat->Value}{tb:Nat->Option Bool}{s:List SV}{v:List Value}(h:SRs P B pl tb s v) (i:Nat) {a:SV}{c:Value}(ha:SR P B pl tb a c):SRs P B pl tb (s.set i a) (v.set i c):=by
 refine SRs.of (by simp[h.length]) λj a' c' h1 h2=>?_;rw[xH] at h1 h2;by_cases bN:i=j
 .subst bN;simp only[zI] at h1 h2;split at h1<;>split at h2<;>simp at h1 h2;subst h1;subst h2;exact ha
 .simp only[bN,if_false] at h1 h2;obtain⟨c,h3,h4⟩:=h.get h1;rw[h3] at h2;obtain rfl:=osj h2;exact h4
theorem SRs.append {B:Heap}{pl:Nat->Value}{tb:Nat->Option Bool}:∀ {s:List SV}{v:List Value}{s':List SV}{v':List Value},SRs P B pl tb s v->SRs P B pl tb s' v'->SRs P B pl tb (s++s') (v++v')
 |[],v,s',v',h,h'=>by simp only[SRs] at h;subst h;exact h'
 |s::ss,v,s',v',h,h'=>by simp only[SRs,xF] at h |-;obtain⟨x,y,rfl,h2,h3⟩:=h;exact⟨x,y++v',rfl,h2,SRs.append h3 h'⟩
theorem SRs.take {B:Heap}{pl:Nat->Value}{tb:Nat->Option Bool}:∀ {s:List SV}{v:List Value},SRs P B pl tb s v->∀ n,SRs P B pl tb (s.take n) (v.take n)
 |[],v,h,n=>by simp only[SRs] at h;subst h;simp[SRs]
 |s::ss,v,h,0=>by simp[SRs]
 |s::ss,v,h,n+1=>by simp only[SRs] at h;obtain⟨x,y,rfl,h2,h3⟩:=h;simp only[wu,SRs];exact⟨x,_,rfl,h2,SRs.take h3 n⟩
theorem SRs.drop {B:Heap}{pl:Nat->Value}{tb:Nat->Option Bool}:∀ {s:List SV}{v:List Value},SRs P B pl tb s v->∀ n,SRs P B pl tb (s.drop n) (v.drop n)
 |[],v,h,n=>by simp only[SRs] at h;subst h;simp[SRs]
 |s::ss,v,h,0=>by simpa using h
 |s::ss,v,h,n+1=>by simp only[SRs] at h;obtain⟨x,y,rfl,h2,h3⟩:=h;simpa using SRs.drop h3 n
theorem SRs.map {B:Heap}{pl:Nat->Value}{tb:Nat->Option Bool}{α:Type}{f:α->SV}{g:α->Value}:∀ {l:List α},(∀ x∈l,SR P B pl tb (f x) (g x))->SRs P B pl tb (l.map f) (l.map g)
 |[],_=>by simp[SRs]
 |x::l,h=>by simp only[zG,SRs];exact⟨_,_,rfl,h x (by simp),SRs.map λy hy=>h y (by simp[hy])⟩
def OB.live:OB->Bool
 |.dead=>false
 |.stk _ _=>false
 |.lpf _ _ s=>s.live
 |_=>true
def oid:Value->Option Nat
 |.slice (some a) _ _=>some a.block
 |.pointer (some a)=>some a.block
 |.map m=>m
 |_=>none
def Oid (p:Value) (i:Nat):Prop:=match p with
 |.tuple l=>∃ b,(Xz (.tuple l)).get i=some b
 |v=>oid v=some i
theorem Cj {p:Value}{i:Nat}(h:oid p=some i):Oid p i:=by cases p<;>first|exact h|cases h
theorem OT {p:Value}{n i:Nat}(hp:oid p=some n) (hi:Oid p i):i=n:=by cases p<;>first|exact osj (hi.symm.trans hp)|cases hp
def RowsH {α:Type}(R:α->List Value->List Nat->Prop) (sz:Nat) (h:Option Nat):Nat->List α->List Value->List Nat->Prop
 |_,[],cs,is=>cs=[]/\is=[]
 |j,x::xs,cs,is=>∃ c cs' i1 i2,cs=c++cs'/\is=i1++i2/\(if h=some j then c.length=sz/\i1=[] else R x c i1)/\RowsH R sz h (j+1) xs cs' i2
def DO (H:Heap) (ty:Nat) (q:Option Nat) (k:Kind) (xs:List k.T) (h:Option Nat) (v:Value) (is:List Nat):Prop :=
 (xs=[]/\v=.slice none 0 0/\is=[])\/∃ i cap c t js,v=.slice (some ⟨i,0,none⟩) xs.length cap/\is=i::js/\xs.length<=cap/\H.get i=some (.cells c ⟨k.size,ty⟩ true t)/\cap*k.size<=c.length /\
  RowsH (KO H q k) k.size h 0 xs (c.take (xs.length*k.size)) js
def DP (U:Heap) (p:Value) (ty:Nat) (q:Option Nat) (k:Kind) (xs:List k.T) (nl:Bool) (h:Option Nat):Prop :=
 ∃ is,(∀ i,Oid p i<->∃ b,(Xz p).get i=some b)/\is.Nodup/\DO (Xz p) ty q k xs h (phd p) is/\(∀ i,(∃ b,(Xz p).get i=some b)<->i∈is)/\(∀ i b,(Xz p).get i=some b->U.get i=some b)/\(nl=true<->phd p=.slice none 0 0)
theorem DP.mono {U U':Heap}{p:Value}{ty:Nat}{q:Option Nat}{k:Kind}{xs:List k.T}{nl:Bool}{h:Option Nat}(hd:DP U p ty q k xs nl h) (hg:∀ i,Oid p i->U'.get i=U.get i):DP U' p ty q k xs nl h:=by obtain⟨is,hO,h1,h2,h3,h4,h5⟩:=hd;exact⟨is,hO,h1,h2,h3,λi b hb=>by rw[hg i ((hO i).2 ⟨b,hb⟩)];exact h4 i b hb,h5⟩
def MR (B:Heap) (kk vk:Kind):List (kk.T×vk.T)->List JD->Prop
 |[],es=>es=[]
 |m::ms,es=>∃ e bV,es=e::bV/\KV B kk m.1 e.1/\KV B vk m.2 e.2.1/\MR B kk vk ms bV
def SOk (es:List JD) (clock:Nat):Prop:=(es.map λe=>e.2.2).Nodup/\∀ e∈es,e.2.2<clock
def MC (B:Heap) (kk vk:Kind) (m:List (kk.T×vk.T)) (es:List JD) (clock:Nat):Prop:=MR B kk vk m es/\SOk es clock
def DN (es:List JD) (dn seen:List Nat):Prop:=seen.length=dn.length/\∀ (t r:Nat),dn[t]?=some r->∃ e,es[r]?=some e/\seen[t]?=some e.2.2
def OR (P:Program) (B:Heap) (pl:Nat->Value) (tb:Nat->Option Bool) (U:Heap) (p:Value):OB->Prop
 |.dead=>True
 |.lst ty k xs nl=>(nl=true/\xs=[]/\p=.slice none 0 0)\/(nl=false/\∃ i cap c t,p=.slice (some ⟨i,0,none⟩) xs.length cap/\xs.length<=cap/\U.get i=some (.cells c ⟨k.size,ty⟩ true t)/\cap*k.size<=c.length/\Rows (KC B k) xs (c.take (xs.length*k.size)))
 |.cells l u=>∃ i c e t,p=.pointer (some ⟨i,0,none⟩)/\U.get i=some (.cells c e true t)/\SRs P B pl tb l c/\(∀ y,u=some y->e.ty=y/\t=true)
 |.map kk vk m=>∃ i es clock,p=.map (some i)/\U.get i=some (.obj (.map es clock) true)/\MC B kk vk m es clock
 |.iter kk vk m dn=>∃ j i es clock wr seen,p=.pointer (some ⟨j,0,none⟩)/\U.get j=some (.obj (.iter i clock seen clock) true)/\B.get i=some (.obj (.map es clock) wr)/\MC B kk vk m es clock/\DN es dn seen
 |.mapE kk vk m key n=>∃ i es clock,∃ r:Nat,∃ e:JD,p=.map (some i)/\U.get i=some (.obj (.map es clock) true)/\MC B kk vk m es clock/\es[r]?=some e/\KV B kk key e.1/\Qp e.1 es=some e/\(e.2.2:Int)=n/\∃ mk,gq.mkOk mk kk=true
 |.stk l vals=>SRs P B pl tb l vals
 |.deep ty q k xs nl h=>DP U p ty q k xs nl h
 |.lpf l q s=>p=.pointer (some ⟨q.i,0,none⟩)/\SRs P B pl tb l q.vals/\(s.live=true->U.get q.i=some (.obj (.lp q.vals q.r s.st s.pend) true))
theorem MR.mono {B B':Heap}(hB:B.Le B') {kk vk:Kind}:∀ {m:List (kk.T×vk.T)}{es:List JD},MR B kk vk m es->MR B' kk vk m es
 |[],es,h=>h
 |m::ms,es,h=>by obtain⟨e,bV,h1,h2,h3,h4⟩:=h;exact⟨e,bV,h1,h2.mono hB,h3.mono hB,h4.mono hB⟩
theorem MC.mono {B B':Heap}(hB:B.Le B') {kk vk:Kind}{m:List (kk.T×vk.T)}{es:List JD}{clock:Nat}(h:MC B kk vk m es clock):MC B' kk vk m es clock:=⟨h.1.mono hB,h.2⟩
theorem OR.upd {B B':Heap}{pl pl':Nat->Value}{tb tb':Nat->Option Bool}{o:Nat}(hB:B.Le B') (ht:∀ n c,tb n=some c->tb' n=some c) (hp:∀ d,d≠o->pl' d=pl d) {U U':Heap}{p:Value}{b:OB}
  (h:OR P B pl tb U p b) (hg:b.live=true->∀ i,Oid p i->U'.get i=U.get i):OR P B' pl' tb' U' p (b.kill o):=by
 cases b with
 |dead=>trivial
 |lst ty k xs nl =>
  rcases h with h|⟨h0,i,cap,c,t,h1,h2,h3,h4,h5⟩
  .exact .inl h
  .exact .inr ⟨h0,i,cap,c,t,h1,h2,by rw[hg rfl i (by rw[h1];rfl)];exact h3,h4,h5.mono λ_ _=>KC.mono hB⟩
 |cells l u =>obtain⟨i,c,e,t,h1,h2,h3,h4⟩:=h;exact⟨i,c,e,t,h1,by rw[hg rfl i (by rw[h1];rfl)];exact h2,SRs.upd hB ht hp l c h3,h4⟩
 |map kk vk m =>obtain⟨i,es,clock,h1,h2,h3⟩:=h;exact⟨i,es,clock,h1,by rw[hg rfl i (by rw[h1];rfl)];exact h2,h3.mono hB⟩
 |mapE kk vk m key n =>obtain⟨i,es,clock,r,e,h1,h2,h3,h4,h5,h6⟩:=h;exact⟨i,es,clock,r,e,h1,by rw[hg rfl i (by rw[h1];rfl)];exact h2,h3.mono hB,h4,h5.mono hB,h6⟩
 |stk l vals=>exact SRs.upd hB ht hp l vals h
 |deep ty q k xs nl hh=>exact DP.mono h (hg rfl)
 |iter kk vk m dn =>obtain⟨j,i,es,clock,wr,seen,h1,h2,h3,h4,h5⟩:=h;exact⟨j,i,es,clock,wr,seen,h1,by rw[hg rfl j (by rw[h1];rfl)];exact h2,hB.2 _ _ h3,h4.mono hB,h5⟩
 |lpf l q s=>exact⟨h.1,SRs.upd hB ht hp l q.vals h.2.1,λhl=>by rw[hg hl q.i (by rw[h.1];rfl)];exact h.2.2 hl⟩
theorem OR.mono {B B':Heap}{pl:Nat->Value}{tb tb':Nat->Option Bool}(hB:B.Le B') (ht:∀ n c,tb n=some c->tb' n=some c) {U U':Heap}{p:Value}{b:OB}
  (h:OR P B pl tb U p b) (hg:b.live=true->∀ i,Oid p i->U'.get i=U.get i):OR P B' pl tb' U' p b:=by
 cases b with
 |dead=>trivial
 |lst ty k xs nl =>
  rcases h with h|⟨h0,i,cap,c,t,h1,h2,h3,h4,h5⟩
  .exact .inl h
  .exact .inr ⟨h0,i,cap,c,t,h1,h2,by rw[hg rfl i (by rw[h1];rfl)];exact h3,h4,h5.mono λ_ _=>KC.mono hB⟩
 |cells l u =>obtain⟨i,c,e,t,h1,h2,h3,h4⟩:=h;exact⟨i,c,e,t,h1,by rw[hg rfl i (by rw[h1];rfl)];exact h2,SRs.mono hB ht l c h3,h4⟩
 |map kk vk m =>obtain⟨i,es,clock,h1,h2,h3⟩:=h;exact⟨i,es,clock,h1,by rw[hg rfl i (by rw[h1];rfl)];exact h2,h3.mono hB⟩
 |mapE kk vk m key n =>obtain⟨i,es,clock,r,e,h1,h2,h3,h4,h5,h6⟩:=h;exact⟨i,es,clock,r,e,h1,by rw[hg rfl i (by rw[h1];rfl)];exact h2,h3.mono hB,h4,h5.mono hB,h6⟩
 |stk l vals=>exact SRs.mono hB ht l vals h
 |deep ty q k xs nl hh=>exact DP.mono h (hg rfl)
 |iter kk vk m dn =>obtain⟨j,i,es,clock,wr,seen,h1,h2,h3,h4,h5⟩:=h;exact⟨j,i,es,clock,wr,seen,h1,by rw[hg rfl j (by rw[h1];rfl)];exact h2,hB.2 _ _ h3,h4.mono hB,h5⟩
 |lpf l q s=>exact⟨h.1,SRs.mono hB ht l q.vals h.2.1,λhl=>by rw[hg hl q.i (by rw[h.1];rfl)];exact h.2.2 hl⟩
theorem Qz (own:Own) (d:Nat) (b:OB) (d':Nat):Qf (oset own d b) d'=if d'=d then b else Qf own d':=by
 induction own with
 |nil =>
  simp only[oset,Qf];by_cases h:d'=d
  .subst h;simp
  .rw[z1 h,JK λe=>h e.symm];rfl
 |cons p r ih =>
  obtain⟨k,c⟩:=p;simp only[oset];by_cases h1:k=d
  .subst h1;simp only[Nat.beq_refl,zm,Qf];by_cases h:d'=k
   .subst h;simp
   .rw[z1 h,JK λe=>h e.symm];rfl
  .rw[JK h1,cond_false];cases Nat.blt d k with
   |true =>
    simp only[zm,Qf];by_cases h:d'=d
    .subst h;simp
    .rw[z1 h,JK λe=>h e.symm];rfl
   |false =>
    simp only[cond_false,Qf,ih];by_cases h:k=d'
    .subst h;simp[h1]
    .rw[JK h];rfl
theorem Vl (own:Own) (o d:Nat):Qf (Ek o own) d=if d=o then .dead else (Qf own d).kill o:=by
 induction own with
 |nil=>simp[Ek,Qf,OB.kill]
 |cons p r ih =>
  obtain⟨k,c⟩:=p;simp only[Ek];by_cases h1:k=o
  .subst h1;simp only[Nat.beq_refl,zm,ih,Qf];by_cases h:d=k
   .simp[h]
   .rw[z1 h,z1 h,JK λe=>h e.symm];rfl
  .rw[JK h1,cond_false];simp only[Qf,ih];by_cases h:k=d
   .subst h;simp[h1]
   .rw[JK h];simp
theorem OR.frz {B:Heap}{pl:Nat->Value}{tb:Nat->Option Bool}{o:Nat}{k:Kind}{xs:List k.T}(hk:KC B (.list k) xs [pl o]) {U:Heap}{p:Value}{b:OB}
  (h:OR P B pl tb U p b):OR P B pl tb U p (b.frz o k xs):=by
 cases b with
 |cells l u =>obtain⟨i,c,e,t,h1,h2,h3,h4⟩:=h;exact⟨i,c,e,t,h1,h2,SRs.frz hk l c h3,h4⟩
 |stk l vals=>exact SRs.frz hk l vals h
 |lpf l q s=>exact⟨h.1,SRs.frz hk l q.vals h.2.1,h.2.2⟩
 |_=>exact h
theorem I7 (own:Own) (o:Nat) (k:Kind) (xs:List k.T) (d:Nat):Qf (Q10 o k xs own) d=if d=o then .dead else (Qf own d).frz o k xs:=by
 induction own with
 |nil=>simp[Q10,Qf,OB.frz]
 |cons p r ih =>
  obtain⟨j,c⟩:=p;simp only[Q10];by_cases h1:j=o
  .subst h1;simp only[Nat.beq_refl,zm,ih,Qf];by_cases h:d=j
   .simp[h]
   .rw[z1 h,z1 h,JK λe=>h e.symm];rfl
  .rw[JK h1,cond_false];simp only[Qf,ih];by_cases h:j=d
   .subst h;simp[h1]
   .rw[JK h];simp
theorem OB.q2e (b:OB) (o:Nat) (k:Kind) (xs:List k.T):(b.frz o k xs).live=b.live:=by cases b<;>rfl
structure Gam (P:Program) (B F:Heap) (pl:Nat->Value) (tb:Nat->Option Bool) (s:St) (env:Env) (U:Heap):Prop where
 bf:B.Le F
 le:F.Le U
 env:SRs P B pl tb s.env env
 obj:∀ d,OR P B pl tb U (pl d) (Qf s.own d)
 fresh:∀ d i,(Qf s.own d).live=true->Oid (pl d) i->F.get i=none
 sep:∀ d d' i,d≠d'->(Qf s.own d).live=true->(Qf s.own d').live=true->Oid (pl d) i->Oid (pl d') i->False
 free:∀ n,s.nx<=n->tb n=none
theorem Gam.leB {B F:Heap}{pl:Nat->Value}{tb:Nat->Option Bool}{s:St}{env:Env}{U:Heap}(h:Gam P B F pl tb s env U):B.Le U:=h.bf.trans h.le
def JN (pl:Nat->Value) (d:Nat) (p:Value):Nat->Value:=λj=>if j=d then p else pl j
theorem OB.q0s (b:OB) (o:Nat):(b.kill o).live=b.live:=by cases b<;>rfl
theorem Gam.make {B F:Heap}{pl:Nat->Value}{tb:Nat->Option Bool}{s:St}{env:Env}{U U':Heap}(h:Gam P B F pl tb s env U) (d:Nat) (b:OB) (p:Value) (hle:F.Le U')
  (cR:∀ j i,j≠d->(Qf s.own j).live=true->Oid (pl j) i->U'.get i=U.get i) (hb:OR P B (JN pl d p) tb U' p b)
  (bn:∀ i,b.live=true->Oid p i->F.get i=none/\∀ j,j≠d->(Qf s.own j).live=true->¬ Oid (pl j) i):Gam P B F (JN pl d p) tb (s.make d b) env U':=by
 have hp:∀ j,j≠d->JN pl d p j=pl j:=λj hj=>by simp[JN,hj]
 have hg:∀ j,Qf (s.make d b).own j=if j=d then b else (Qf s.own j).kill d:=λj=>by simp only[St.make,St.kill,Qz,Vl];split<;>rfl
 refine⟨h.bf,hle,SRs.upd (Heap.Le.refl B) (λ_ _ h=>h) hp _ _ h.env,λj=>?_,λj i hl hi=>?_,λj j' i az hl cC hi cI=>?_,h.free⟩
 .rw[hg];by_cases hj:j=d
  .subst hj;rw[z7 rfl];simpa [JN] using hb
  .rw[z1 hj,hp j hj];exact(h.obj j).upd (Heap.Le.refl B) (λ_ _ h=>h) hp λhl i hi=>cR j i hj hl hi
 .rw[hg] at hl;by_cases hj:j=d
  .subst hj;rw[z7 rfl] at hl;simp only[JN,zI] at hi;exact(bn i hl hi).1
  .rw[z1 hj,OB.q0s] at hl;rw[hp j hj] at hi;exact h.fresh j i hl hi
 .rw[hg] at hl cC;by_cases hj:j=d
  .subst hj;rw[z7 rfl] at hl;have dy:j'≠j:=λe=>az e.symm;rw[z1 dy,OB.q0s] at cC;rw[hp j' dy] at cI;simp only[JN,zI] at hi;exact(bn i hl hi).2 j' dy cC cI
  .rw[z1 hj,OB.q0s] at hl;rw[hp j hj] at hi;by_cases dy:j'=d
   .subst dy;rw[z7 rfl] at cC;simp only[JN,zI] at cI;exact(bn i cC cI).2 j hj hl hi
   .rw[z1 dy,OB.q0s] at cC;rw[hp j' dy] at cI;exact h.sep j j' i az hl cC hi cI
theorem Gam.write {B F:Heap}{pl:Nat->Value}{tb:Nat->Option Bool}{s:St}{env:Env}{U U':Heap}(h:Gam P B F pl tb s env U) (d:Nat) (b:OB) (hle:F.Le U') (ao:(Qf s.own d).live=true)
  (cR:∀ j i,j≠d->(Qf s.own j).live=true->Oid (pl j) i->U'.get i=U.get i) (hb:OR P B pl tb U' (pl d) b):Gam P B F pl tb ⟨s.env,oset s.own d b,s.nx⟩ env U':=by
 refine⟨h.bf,hle,h.env,λj=>?_,λj i hl hi=>?_,λj j' i az hl cC hi cI=>?_,h.free⟩
 .simp only[Qz];by_cases hj:j=d
  .subst hj;rw[z7 rfl];exact hb
  .rw[z1 hj];exact(h.obj j).mono (Heap.Le.refl B) (λ_ _ h=>h) λhl i hi=>cR j i hj hl hi
 .simp only[Qz] at hl;by_cases hj:j=d
  .subst hj;exact h.fresh j i ao hi
  .rw[z1 hj] at hl;exact h.fresh j i hl hi
 .simp only[Qz] at hl cC;have k1:(Qf s.own j).live=true:=by
   by_cases hj:j=d
   .subst hj;exact ao
   .rwa [z1 hj] at hl
  have k2:(Qf s.own j').live=true:=by
   by_cases hj:j'=d
   .subst hj;exact ao
   .rwa [z1 hj] at cC
  exact h.sep j j' i az k1 k2 hi cI
theorem Gam.put {B F:Heap}{pl:Nat->Value}{tb:Nat->Option Bool}{s:St}{env:Env}{U:Heap}(h:Gam P B F pl tb s env U) (d:Option Nat) {v:SV}{u:Value}(hv:SR P B pl tb v u):Gam P B F pl tb (s.put d v) (Xk env d u) U:=by
 cases d with
 |none=>exact h
 |some d=>exact⟨h.bf,h.le,h.env.set d hv,h.obj,h.fresh,h.sep,h.free⟩
end
end Go.V
namespace Go.V
open Go
section
variable {P:Program}{B:Heap}{pl:Nat->Value}{tb:Nat->Option Bool}{own:Own}{U:Heap}
theorem Jq {s:SV}{v:Value}{k:IntKind}{x:Int}(h:asI s=some (k,x)) (hs:SR P B pl tb s v):v=.int k x:=by
 unfold asI at h;split at h
 .obtain⟨rfl,rfl⟩:=(by simpa using h:_=k/\_=x);simp only[SR,KC] at hs;simpa using hs
 .cases h
theorem XT {s:SV}{v:Value}{x:Bool}(h:asB s=some x) (hs:SR P B pl tb s v):v=.bool x:=by
 unfold asB at h;split at h
 .obtain rfl:=osj h;simp only[SR,KC] at hs;simpa using hs
 .obtain rfl:=osj h;simp only[SR] at hs;exact hs.1
 .cases h
theorem VX {s:SV}{v:Value}{x:List UInt8}(h:asS s=some x) (hs:SR P B pl tb s v):v=.string ⟨x.toArray⟩:=by
 unfold asS at h;split at h
 .obtain rfl:=osj h;simp only[SR,KC] at hs;simpa using hs
 .cases h
theorem W0 {k k':Kind}{l:List k.T}{l':List k'.T}(h:UC l k'=some l'):k=k':=by
 unfold UC at h;split at h
 .assumption
 .cases h
theorem X_ {k:Kind}{l l':List k.T}(h:UC l k=some l'):l'=l:=by unfold UC at h;rw[dif_pos rfl] at h;exact(osj h).symm
theorem TP {k k':Kind}{x:k.T}{x':k'.T}(h:OQ x k'=some x'):k=k':=by
 unfold OQ at h;split at h
 .assumption
 .cases h
theorem Rp {k:Kind}{x x':k.T}(h:OQ x k=some x'):x'=x:=by unfold OQ at h;rw[dif_pos rfl] at h;exact(osj h).symm
theorem GX (v:Value):SR P B pl tb (cvp v) v:=by unfold cvp;split<;>simp[SR,KC]
theorem Q1e (v:Value):SR P B pl tb (cv v) v:=by
 unfold cv;split
 .rename_i cs;simp only[SR];refine⟨cs.toList,by simp,?_⟩;have:SRs P B pl tb (cs.toList.map cvp) (cs.toList.map id):=SRs.map λx _=>GX x;simpa using this
 .exact GX v
def Gds (tb:Nat->Option Bool) (gs:List Gd):Prop:=∀ g∈gs,g.c=g.want/\tb g.id=some g.c
theorem F8 {a b:List Gd}(h:Q5a a b=true) (hb:Gds tb b) (ha:∀ g∈a,tb g.id=some g.c):∀ g∈a,g.c=g.want:=by
 induction b generalizing a with
 |nil=>cases a with
  |nil=>intro g hg;cases hg
  |cons x a=>simp[Q5a] at h
 |cons y b ih =>
  cases a with
  |nil=>intro g hg;cases hg
  |cons x a =>
   have cy:Gds tb b:=λg hg=>hb g (zi _ hg);simp only[Q5a] at h;cases hc:(Nat.beq x.id y.id&&(x.want==y.want)) with
   |true =>
    rw[hc] at h;simp only[zm] at h;simp only[z8,z_] at hc;have e1:=zV hc.1;intro g hg;rcases zk.1 hg with rfl|hg
    .have h1:=ha g (by simp);have h2:=hb y (by simp);rw[e1] at h1;rw[h2.2] at h1;obtain e:=osj h1;rw[<-e,h2.1,hc.2]
    .exact ih h cy (λg hg=>ha g (zi _ hg)) g hg
   |false =>rw[hc] at h;exact ih h cy ha
theorem LO {gs:List Gd}(hg:Gds tb gs) {s:SV}{v:Value}(h:SR P B pl tb s v):SR P B pl tb (FK gs s) v:=by
 unfold FK;split
 .rename_i g s;simp only[SR] at h;cases hs:Q5a g gs with
  |true=>exact h.2.1 (F8 hs hg h.1.1)
  |false=>trivial
 .exact h
theorem Ih {gs:List Gd}(hg:Gds tb gs) {env:List SV}{om:Env}(h:SRs P B pl tb env om) (x:Operand):SR P B pl tb (gev gs env x) (Q6 om x):=by
 cases x with
 |tmp t=>exact LO hg (h.getD t undef)
 |const v=>exact Q1e v
 |global g=>trivial
 |func f=>simp only[gev,Q6,SR,SRs];exact⟨[],[],rfl,rfl,rfl⟩
theorem Yh {h:Heap}:∀ {k:Kind}{x:k.T}{cs:List Value},KC h k x cs->SRs P h pl tb (M3 k x) cs
 |.i ik,x,cs,e=>by simp only[KC] at e;subst e;simp[M3,SRs,SR,KC]
 |.bo,x,cs,e=>by simp only[KC] at e;subst e;simp[M3,SRs,SR,KC]
 |.st,x,cs,e=>by simp only[KC] at e;subst e;simp[M3,SRs,SR,KC]
 |.list k,l,cs,e=>by obtain⟨v,rfl,hs⟩:=e;simp only[M3,SRs,SR];exact⟨v,[],rfl,⟨v,rfl,hs⟩,rfl⟩
 |.pair a b,x,cs,e=>by obtain⟨c1,c2,rfl,h1,h2⟩:=e;exact(Yh h1).append (Yh h2)
theorem Xj {h:Heap}{k:Kind}{x:k.T}{v:Value}(e:KV h k x v):SR P h pl tb (FO k x) v:=by
 cases k with
 |pair a b =>
  rcases e with⟨h1,_⟩|⟨_,cs,rfl,e⟩
  .cases h1
  .simp only[FO,SR];exact⟨cs,rfl,Yh e⟩
 |i k|bo|st|list k =>
  rcases e with⟨_,e⟩|⟨h1,_⟩
  .simpa only [FO,SR] using e
  .cases h1
theorem JH {l:List SV}{c:List Value}(h:SRs P B pl tb l c) {agg:Bool}{size off:Nat}{v:SV}(hv:BS agg size l off=some v):∃ u,WB agg size c off=some u/\SR P B pl tb v u:=by
 cases agg with
 |true =>
  simp only[BS,zm] at hv;split at hv
  .rename_i hle;obtain rfl:=osj hv;rw[h.length] at hle;refine⟨.agg ((c.drop off).take size).toArray,by simp only[WB,zI,hle],?_⟩;simp only[SR];exact⟨_,rfl,(h.drop off).take size⟩
  .cases hv
 |false =>simp only[BS,zW] at hv;obtain⟨u,h1,h2⟩:=h.get hv;exact⟨u,by simpa [WB] using h1,h2⟩
theorem Nr {agg:Bool}{size off n m i:Nat}{c:List Value}{u:Value}(bg:off+size<=n) (hs:0<size) (h:WB agg size (((c.take m).drop (i*n)).take n) off=some u) (hl:i*n+n<=m):WB agg size c (i*n+off)=some u:=by
 cases agg with
 |true =>
  simp only[WB,zI] at h |-;split at h
  .rename_i hle;simp only[wg,wm] at hle;rw[z7 (by omega)];obtain rfl:=osj h;congr 3;apply x3;intro j;simp only[zP,zH];split
   .rw[z7 (by omega),z7 (by omega),zt]
   .rfl
  .cases h
 |false =>simp only[WB,zD,if_false] at h |-;simp only[zP,zH] at h;rw[z7 (by omega),z7 (by omega)] at h;exact h
theorem KC.q0h {h:Heap}{k:Kind}:∀ (x:k.T) (c:List Value),KC h k x c->c.length=k.size:=λ_ _ e=>KC.length e
theorem KC.flat {h h':Heap}:∀ {k:Kind}{x:k.T}{cs:List Value},k.flat=true->KC h k x cs->KC h' k x cs
 |.i _,_,_,_,e|.bo,_,_,_,e|.st,_,_,_,e=>e
 |.list _,_,_,f,_=>by cases f
 |.pair a b,x,cs,f,e=>by simp only[Kind.flat,z8] at f;obtain⟨c1,c2,hc,h1,h2⟩:=e;exact⟨c1,c2,hc,KC.flat f.1 h1,KC.flat f.2 h2⟩
theorem KV.flat {h h':Heap}{k:Kind}{x:k.T}{v:Value}(e:KV h k x v) (f:k.flat=true):KV h' k x v:=by
 rcases e with⟨ho,e⟩|⟨ho,cs,hv,e⟩
 .exact .inl ⟨ho,KC.flat f e⟩
 .exact .inr ⟨ho,cs,hv,KC.flat f e⟩
theorem KO.kc {H:Heap}:∀ {k:Kind}{q:Option Nat}{x:k.T}{cs:List Value}{is:List Nat},KO H q k x cs is->KC H k x cs
 |.i _,_,_,_,_,h=>by simp only[KO] at h;exact h.1
 |.bo,_,_,_,_,h=>by simp only[KO] at h;exact h.1
 |.st,_,_,_,_,h=>by simp only[KO] at h;exact h.1
 |.list k,q,l,cs,is,h=>by
  simp only[KO] at h;rcases h with⟨rfl,rfl,_⟩|⟨i,cap,c,e,t,js,rfl,rfl,h1,h2,h3,_,h4,h5⟩
  .exact⟨_,rfl,.inl ⟨rfl,rfl⟩⟩
  .refine⟨_,rfl,.inr ⟨i,0,cap,c,e,true,t,rfl,h1,h2,h3,by have:=zx k.size h1;omega,?_⟩⟩;rw[x8];have key:∀ {xs:List k.T}{cs:List Value}{js:List Nat},RowsO (λx c is=>KO H none k x c is) xs cs js->Rows (λx c=>KC H k x c) xs cs:=λh=>by
    induction h with
    |nil=>exact .nil
    |cons h _ ih=>exact .cons (KO.kc (k:=k) h) ih
   exact key h5
 |.pair a b,_,x,cs,is,h=>by simp only[KO] at h;obtain⟨c1,c2,i1,i2,rfl,rfl,h1,h2⟩:=h;exact⟨c1,c2,rfl,h1.kc,h2.kc⟩
def Z3c:Kind->List Value->Prop
 |.list _,cs=>∀ v,cs=[v]->∀ a n c,v=.slice (some a) n c->a.off=0
 |_,_=>True
theorem KO.koff {H:Heap}:∀ {k:Kind}{q:Option Nat}{x:k.T}{cs:List Value}{is:List Nat},KO H q k x cs is->Z3c k cs
 |.i _,_,_,_,_,_|.bo,_,_,_,_,_|.st,_,_,_,_,_|.pair _ _,_,_,_,_,_=>trivial
 |.list k,q,l,cs,is,h=>by
  simp only[KO] at h;intro v hv a n c' hs;rcases h with⟨_,rfl,_⟩|⟨i,cap,c,e,t,js,rfl,_⟩
  .obtain rfl:=(zX hv).1;cases hs
  .obtain rfl:=(zX hv).1;cases hs;rfl
theorem RowsH.rows {α:Type}{R:α->List Value->List Nat->Prop}{R':α->List Value->Prop}(hR:∀ x c is,R x c is->R' x c) {sz:Nat}:∀ {xs:List α}{j:Nat}{cs:List Value}{is:List Nat},RowsH R sz none j xs cs is->Rows R' xs cs
 |[],j,cs,is,h=>by obtain⟨rfl,_⟩:=h;exact .nil
 |x::xs,j,cs,is,h=>by obtain⟨c,cs',i1,i2,rfl,rfl,h1,h2⟩:=h;rw[z1 (by simp)] at h1;exact .cons (hR _ _ _ h1) (RowsH.rows hR h2)
theorem Rl:∀ {l:List (Nat×Blk)}{p:Nat×Blk},p∈l->∃ b,RX l p.1=some b
 |(j,b)::r,p,h=>by
  by_cases e:p.1=j
  .exact⟨b,by simp only[RX,z7 e]⟩
  .rcases zk.1 h with rfl|h
   .exact absurd rfl e
   .obtain⟨b',h'⟩:=Rl h;exact⟨b',by simp only[RX,z1 e];exact h'⟩
theorem O6:∀ {l:List (Nat×Blk)}{n:Nat},(∀ p∈l,p.1<n)->Q7g l<=n
 |[],n,_=>Nat.zero_le _
 |(j,b)::r,n,h=>by have h1:=h (j,b) zl;have h2:=O6 (l:=r) (n:=n) λp hp=>h p (zi _ hp);simp only[Q7g];simp only at h1;omega
theorem EC (p:Value):∃ l,Xz p=listH l:=by
 unfold Xz;split
 .exact⟨_,rfl⟩
 .exact⟨_,rfl⟩
theorem Q1g {p:Value}{U:Heap}(h:∀ i b,(Xz p).get i=some b->U.get i=some b):(Xz p).Le U:=by obtain⟨l,e⟩:=EC p;rw[e] at h |-;refine⟨O6 λx hx=>?_,h⟩;obtain⟨b,hb⟩:=Rl hx;exact U.lt (h x.1 b hb)
theorem CK:∀ (l:List Value) {i:Nat}{c:List Value}{e:El}{wr t:Bool},RX (Q8i l) i=some (.cells c e wr t)->wr=true
 |[],i,c,e,wr,t,h=>by cases h
 |v::vs,i,c,e,wr,t,h=>by
  unfold Q8i at h;split at h
  .rename_i q hq;obtain⟨j,b⟩:=q;simp only[RX] at h;split at h
   .obtain rfl:=osj h;unfold Z5t at hq;split at hq
    .cases hq;rfl
    .cases hq
   .exact CK vs h
  .exact CK vs h
theorem Q19 {p:Value}{i:Nat}{c:List Value}{e:El}{wr t:Bool}(h:(Xz p).get i=some (.cells c e wr t)):wr=true:=by
 unfold Xz at h;split at h
 .exact CK _ h
 .cases h
theorem DP.le {U:Heap}{p:Value}{ty:Nat}{q:Option Nat}{k:Kind}{xs:List k.T}{nl:Bool}{h:Option Nat}(hd:DP U p ty q k xs nl h):(Xz p).Le U:=by obtain⟨is,_,_,_,_,h4,_⟩:=hd;exact Q1g h4
theorem DP.sl {U:Heap}{p:Value}{ty:Nat}{q:Option Nat}{k:Kind}{xs:List k.T}{nl:Bool}(hd:DP U p ty q k xs nl none):SlRel (Xz p) k.size (KC (Xz p) k) xs (phd p):=by
 obtain⟨is,_,_,h2,_,_,_⟩:=hd;rcases h2 with⟨rfl,h,_⟩|⟨i,cap,c,t,js,h,_,h1,h3,h4,h5⟩
 .exact .inl ⟨rfl,h⟩
 .refine .inr ⟨i,0,cap,c,_,true,t,h,h1,h3,rfl,by have:=zx k.size h1;omega,?_⟩;rw[x8];exact h5.rows λ_ _ _ h=>h.kc
theorem DP.hd {U:Heap}{p:Value}{ty:Nat}{q:Option Nat}{k:Kind}{xs:List k.T}{nl:Bool}{h:Option Nat}(hd:DP U p ty q k xs nl h):∃ a cap,phd p=.slice a xs.length cap:=by
 obtain⟨is,_,_,h2,_,_,_⟩:=hd;rcases h2 with⟨rfl,h,_⟩|⟨i,cap,c,t,js,h,_⟩
 .exact⟨_,_,h⟩
 .exact⟨_,_,h⟩
theorem AK {H:Heap}{k:Kind}{l:List k.T}{v:Value}(h:KC H (.list k) l [v]) {j:Nat}(hj:j<l.length):∃ b o cap c e wr t,v=.slice (some ⟨b,o,none⟩) l.length cap/\H.get b=some (.cells c e wr t)/\o+l.length*k.size<=c.length/\Rows (KC H k) l ((c.drop o).take (l.length*k.size)):=by
 obtain⟨v',e,hs⟩:=h;obtain rfl:=(zX e).1;rcases hs with⟨rfl,_⟩|⟨b,o,cap,c,e',wr,t,h2,h3,h4,h5,h6,h7⟩
 .simp at hj
 .exact⟨b,o,cap,c,e',wr,t,h2,h4,h6,h7⟩
theorem PI {p:Value}{k:Kind}{l:List k.T}{v:Value}(h:KC (Xz p) (.list k) l [v]):SlRel (Xz p) k.size (λx c=>KC (Xz p) k x c) l v:=by obtain⟨v',e,hs⟩:=h;obtain rfl:=(zX e).1;exact hs
theorem VC (hle:B.Le U) (aA:∀ d,OR P B pl tb U (pl d) (Qf own d)) {k:Kind}{s:SV}{l:List k.T}{v:Value}(h:view own k s=some l) (hs:SR P B pl tb s v):SlRel U k.size (KC B k) l v:=by
 unfold view at h;split at h
 .obtain rfl:=osj h;simp only[SR] at hs;exact .inl ⟨rfl,hs⟩
 .rename_i k' l0;obtain rfl:=W0 h;obtain rfl:=X_ h;simp only[SR,KC] at hs;obtain⟨v',e,hs⟩:=hs;obtain rfl:=(zX e).1;exact hs.mono hle λ_ _ h=>h
 .rename_i o;have ho:=aA o;simp only[SR] at hs
  replace hs:=hs.1
  split at h
  .rename_i ty k' xs nl heq;obtain rfl:=W0 h;obtain rfl:=X_ h;rw[heq] at ho;rcases ho with⟨_,rfl,h2⟩|⟨_,i,cap,c,t,h1,h2,h3,h4,h5⟩
   .exact .inl ⟨rfl,by rw[hs,h2]⟩
   .refine .inr ⟨i,0,cap,c,_,true,t,by rw[hs,h1],h2,h3,rfl,?_,by simpa using h5⟩;have:=zx k'.size h2;omega
  .cases h
 .rename_i o lo n sz;have ho:=aA o;split at h
  .rename_i ty k' xs nl heq;split at h
   .rename_i aG;subst aG;cases hc:UC xs k with
    |none=>rw[hc] at h;cases h
    |some cL =>
     obtain rfl:=W0 hc;obtain rfl:=X_ hc;rw[hc] at h;obtain rfl:=osj h;simp only[SR] at hs;rw[heq] at ho;rcases hs with⟨rfl,rfl,rfl,_⟩|⟨i,len,cap,aw,h1,h2,h3,rfl⟩
     .exact .inl ⟨by simp,rfl⟩
     .rcases ho with⟨_,_,h4⟩|⟨_,i',i_,c,t,h4,h5,h6,h7,h8⟩
      .rw[h1] at h4;cases h4
      .rw[h1] at h4;obtain⟨rfl,rfl,rfl⟩:=(by simpa using h4:i=i'/\len=cL.length/\cap=i_);have hlen:((cL.drop lo).take n).length=n:=by simp;omega
       have k1:lo*k'.size+n*k'.size<=cL.length*k'.size:=by rw[<-zO];exact zx _ h2
       have k2:=zx k'.size h5;refine .inr ⟨i,lo*k'.size,aw,c,_,true,t,by rw[hlen],by rw[hlen];exact h3,h6,rfl,by rw[hlen];omega,?_⟩;rw[hlen];have:=(h8.drop KC.q0h lo).take KC.q0h n;have e:((c.take (cL.length*k'.size)).drop (lo*k'.size)).take (n*k'.size)=(c.drop (lo*k'.size)).take (n*k'.size):=by
        apply x3;intro j;simp only[zP,zH];split
        .rw[z7 (by omega)]
        .rfl
       rw[e] at this;exact this
   .cases h
  .cases h
 .rename_i o w;have ho:=aA o;simp only[SR] at hs;cases hf:k.flat with
  |false=>rw[hf] at h;cases h
  |true =>
   rw[hf] at h;simp only[zm] at h;split at h
   .rename_i ty q k' xs nl hole heq;rw[heq] at ho;have dx:=DP.le ho;split at h
    .split at h
     .obtain rfl:=W0 h;obtain rfl:=X_ h;obtain⟨hs,_⟩:=hs;rw[hs];exact(DP.sl ho).mono dx λ_ _ e=>KC.flat hf e
     .cases h
    .rename_i k' l';obtain rfl:=W0 h;obtain rfl:=X_ h;exact(PI hs).mono dx λ_ _ e=>KC.flat hf e
    .rename_i k' l' i;obtain rfl:=W0 h;obtain rfl:=X_ h;exact(PI hs.1).mono dx λ_ _ e=>KC.flat hf e
    .cases h
   .cases h
 .cases h
theorem SlRel.len {h:Heap}{sz:Nat}{α:Type}{R:α->List Value->Prop}{l:List α}{v:Value}(hs:SlRel h sz R l v):∃ a cap,v=.slice a l.length cap:=by
 rcases hs with⟨rfl,rfl⟩|⟨i,o,cap,c,e,wr,t,rfl,_⟩
 .exact⟨_,_,rfl⟩
 .exact⟨_,_,rfl⟩
theorem EJ (aA:∀ d,OR P B pl tb U (pl d) (Qf own d)) {s:SV}{n:Nat}{v:Value}(h:Z25 own s=some n) (hs:SR P B pl tb s v):∃ a cap,v=.slice a n cap:=by
 unfold Z25 at h;split at h
 .obtain rfl:=osj h;simp only[SR] at hs;exact⟨_,_,hs⟩
 .obtain rfl:=osj h;simp only[SR,KC] at hs;obtain⟨v',e,hs⟩:=hs;obtain rfl:=(zX e).1;exact hs.len
 .rename_i o;have ho:=aA o;simp only[SR] at hs
  replace hs:=hs.1
  split at h
  .rename_i ty k' xs nl heq;obtain rfl:=osj h;rw[heq] at ho;rcases ho with⟨_,rfl,h2⟩|⟨_,i,cap,c,t,h1,h2,h3,h4,h5⟩
   .exact⟨_,_,by rw[hs,h2];rfl⟩
   .exact⟨_,_,by rw[hs,h1]⟩
  .cases h
 .obtain rfl:=osj h;simp only[SR] at hs;rcases hs with⟨rfl,rfl,rfl,_⟩|⟨i,len,cap,aw,h1,h2,h3,rfl⟩
  .exact⟨_,_,rfl⟩
  .exact⟨_,_,rfl⟩
 .rename_i o w;have ho:=aA o;simp only[SR] at hs;split at h
  .rename_i ty q k' xs nl hole heq;rw[heq] at ho;split at h
   .split at h
    .obtain rfl:=osj h;obtain⟨hs,_⟩:=hs;rw[hs];exact DP.hd ho
    .cases h
   .obtain rfl:=osj h;exact(PI hs).len
   .obtain rfl:=osj h;exact(PI hs.1).len
   .cases h
  .cases h
 .cases h
theorem JB {o:Nat}:∀ {k:Kind}{x:k.T}{cs:List Value},KC (Xz (pl o)) k x cs->SRs P B pl tb (MT o k x) cs
 |.i ik,x,cs,h=>by simp only[KC] at h;subst h;simp[MT,SRs,SR,KC]
 |.bo,x,cs,h=>by simp only[KC] at h;subst h;simp[MT,SRs,SR,KC]
 |.st,x,cs,h=>by simp only[KC] at h;subst h;simp[MT,SRs,SR,KC]
 |.list k,x,cs,h=>by have hl:=KC.length h;obtain⟨v,rfl⟩:=x9.1 (show cs.length=1 from hl);simp only[MT,SRs,SR,DR];exact⟨v,[],rfl,h,rfl⟩
 |.pair a b,x,cs,h=>by obtain⟨c1,c2,rfl,h1,h2⟩:=h;exact SRs.append (JB h1) (JB h2)
theorem EA {o:Nat}{i:Int}:∀ {k:Kind}{x:k.T}{cs:List Value},KC (Xz (pl o)) k x cs->Z3c k cs->(k.one=true->∀ v,cs=[v]->∃ b len cap c e t,phd (pl o)=.slice (some ⟨b,0,none⟩) len cap/\0<=i/\i<len/\(Xz (pl o)).get b=some (.cells c e true t)/\c[i.toNat]?=some v)->SRs P B pl tb (Z4c o i k x) cs
 |.i ik,x,cs,h,_,_=>JB (o:=o) h
 |.bo,x,cs,h,_,_=>JB (o:=o) h
 |.st,x,cs,h,_,_=>JB (o:=o) h
 |.list k,x,cs,h,ho,hr=>by have hl:=KC.length h;obtain⟨v,rfl⟩:=x9.1 (show cs.length=1 from hl);simp only[Z4c,SRs,SR,DR];exact⟨v,[],rfl,⟨h,ho v rfl,hr rfl v rfl⟩,rfl⟩
 |.pair a b,x,cs,h,_,_=>JB (o:=o) h
theorem DP.elem {U:Heap}{p:Value}{ty:Nat}{q:Option Nat}{k:Kind}{xs:List k.T}{nl:Bool}(hd:DP U p ty q k xs nl none) {b len cap:Nat}(hp:phd p=.slice (some ⟨b,0,none⟩) len cap) :
  ∃ c t,(Xz p).get b=some (.cells c ⟨k.size,ty⟩ true t)/\len=xs.length/\xs.length<=cap/\cap*k.size<=c.length/\Rows (λx c=>KC (Xz p) k x c/\Z3c k c) xs (c.take (xs.length*k.size)):=by
 obtain⟨is,_,_,h2,_,_,_⟩:=hd;rcases h2 with⟨rfl,h,_⟩|⟨i,aw,c,t,js,h,_,h1,h3,h4,h5⟩
 .rw[hp] at h;cases h
 .rw[hp] at h;obtain⟨rfl,rfl,rfl⟩:=(by simpa using h:b=i/\len=xs.length/\cap=aw);exact⟨c,t,h3,rfl,h1,h4,h5.rows λ_ _ _ h=>⟨h.kc,h.koff⟩⟩
theorem HB (hle:B.Le U) (aA:∀ d,OR P B pl tb U (pl d) (Qf own d)) {agg:Bool}{size:Nat}(aG:0<size) {s v:SV}{p:Value}(h:Q0p own agg size s=some v) (hs:SR P B pl tb s p) :
  ∃ i o c e wr t u,p=.pointer (some ⟨i,o,none⟩)/\U.get i=some (.cells c e wr t)/\WB agg size c o=some u/\SR P B pl tb v u:=by
 unfold Q0p at h;split at h
 .rename_i o off;have ho:=aA o;simp only[SR] at hs;obtain⟨b,h1,rfl⟩:=hs;split at h
  .rename_i l _ heq;rw[heq] at ho;obtain⟨i,c,e,t,h2,h3,h4,_⟩:=ho;rw[h1] at h2;obtain rfl:=(by simpa using h2:b=i);obtain⟨u,h5,h6⟩:=JH h4 h;exact⟨b,off,c,e,true,t,u,rfl,h3,h5,h6⟩
  .cases h
 .rename_i l off;simp only[SR] at hs;obtain⟨b,c,e,wr,t,h1,rfl,h3⟩:=hs;obtain⟨u,h5,h6⟩:=JH h3 h;exact⟨b,off,c,e,wr,t,u,rfl,hle.2 _ _ h1,h5,h6⟩
 .rename_i o i off sz;have ho:=aA o;simp only[SR] at hs;obtain⟨b,len,cap,h1,h2,h3,rfl⟩:=hs;split at h
  .rename_i ty k xs nl heq;rw[heq] at ho;split at h
   .rename_i aj;obtain⟨rfl,bg⟩:=aj;rcases ho with⟨_,_,h4⟩|⟨_,i',i_,c,t,h4,h5,h6,h7,h8⟩
    .rw[h1] at h4;cases h4
    .rw[h1] at h4;obtain⟨rfl,rfl,rfl⟩:=(by simpa using h4:b=i'/\len=xs.length/\cap=i_);have hi:i.toNat<xs.length:=by omega
     have hr:=h8.at KC.q0h hi;have hx:xs.getD i.toNat k.dflt=xs[i.toNat]:=by simp[zd,z6 hi]
     rw[hx] at h;obtain⟨u,h9,b7⟩:=JH (Yh (P:=P) (pl:=pl) (tb:=tb) hr) h;refine⟨b,_,c,_,true,t,u,rfl,h6,Nr bg aG h9 ?_,b7⟩;have:(i.toNat+1)*k.size<=xs.length*k.size:=zx _ hi
     rwa [zO,xJ] at this
   .cases h
  .cases h
 .rename_i k l i off;simp only[SR] at hs;obtain⟨b,o,c,e,wr,t,h1,h2,h3,rfl,h5,h6⟩:=hs;split at h
  .rename_i bg;have hi:i.toNat<l.length:=by omega
   have hr:=h6.at KC.q0h hi;have hx:l.getD i.toNat k.dflt=l[i.toNat]:=by simp[zd,z6 hi]
   rw[hx] at h;obtain⟨u,h9,b7⟩:=JH (Yh (P:=P) (pl:=pl) (tb:=tb) hr) h;have eU:(i.toNat+1)*k.size<=l.length*k.size:=zx _ hi;rw[zO,xJ] at eU;refine⟨b,_,c,e,wr,t,u,rfl,hle.2 _ _ h3,?_,b7⟩;have:=Nr bg aG h9 eU;clear h9;cases agg with
   |true =>
    simp only[WB,zI,wm] at this |-;split at this
    .rename_i dx;rw[z7 (by omega)];rw[<-this,List.drop_drop,zt]
    .cases this
   |false =>simp only[WB,zD,if_false,zH] at this |-;rw[<-this,zt]
  .cases h
 .rename_i o w;have ho:=aA o;simp only[SR] at hs;split at h
  .rename_i ty q k xs nl hole heq;rw[heq] at ho;split at h
   .have dx:=DP.le ho;split at h
    .rename_i i off sz;obtain⟨b,len,cap,h1,h2,h3,rfl⟩:=hs;split at h
     .rename_i aj;obtain⟨rfl,bg⟩:=aj;obtain⟨c,t,h4,rfl,h5,h6,h7⟩:=DP.elem ho h1;have hi:i.toNat<xs.length:=by omega
      have hr:=h7.at (λx c h=>KC.q0h x c h.1) hi;have hx:xs.getD i.toNat k.dflt=xs[i.toNat]:=by simp[zd,z6 hi]
      rw[hx] at h;have ja:(i.toNat+1)*k.size<=xs.length*k.size:=zx _ hi;rw[zO,xJ] at ja;obtain⟨u,h9,b7⟩:=JH (EA (P:=P) (B:=B) (tb:=tb) hr.1 hr.2 λbT v hv=>by
       refine⟨b,_,cap,c,_,t,h1,h2,h3,h4,?_⟩;have tZ:=Kind.q1s bT;have:(((c.take (xs.length*k.size)).drop (i.toNat*k.size)).take k.size)[0]?=some v:=by rw[hv];rfl
       rw[tZ] at this;simp only[wG,zP,zH,zU] at this;rw[z7 (by omega),z7 (by omega)] at this;exact this) h
      exact⟨b,_,c,_,true,t,u,rfl,dx.2 _ _ h4,Nr bg aG h9 ja,b7⟩
     .cases h
    .rename_i k' x i j off;obtain⟨b,len,cap,c,e,t,r,rl,rc,bL,re,rt,h1,h2,h3,h4,h5,h6,h7,h8,h9,b7,hU,rfl⟩:=hs;split at h
     .rename_i bg;subst h8;have hj:j.toNat<x.length:=by omega
      have hr:=hU.at KC.q0h hj;have hx:x.getD j.toNat k'.dflt=x[j.toNat]:=by simp[zd,z6 hj]
      rw[hx] at h;have ja:(j.toNat+1)*k'.size<=x.length*k'.size:=zx _ hj;rw[zO,xJ] at ja;obtain⟨u,k9,qE⟩:=JH (JB (P:=P) (B:=B) (tb:=tb) hr) h;exact⟨r,_,bL,_,true,rt,u,rfl,dx.2 _ _ h9,Nr bg aG k9 ja,qE⟩
     .cases h
    .rename_i k' l j off;obtain⟨b,o',c,e,wr,t,h1,h2,h3,rfl,h5,h6⟩:=hs;split at h
     .rename_i bg;have hj:j.toNat<l.length:=by omega
      have hr:=h6.at KC.q0h hj;have hx:l.getD j.toNat k'.dflt=l[j.toNat]:=by simp[zd,z6 hj]
      rw[hx] at h;obtain⟨u,k9,qE⟩:=JH (JB (P:=P) (B:=B) (tb:=tb) hr) h;have eU:(j.toNat+1)*k'.size<=l.length*k'.size:=zx _ hj;rw[zO,xJ] at eU;refine⟨b,_,c,e,wr,t,u,rfl,dx.2 _ _ h3,?_,qE⟩;have:=Nr bg aG k9 eU;clear k9;cases agg with
      |true =>
       simp only[WB,zI,wm] at this |-;split at this
       .rename_i t_;rw[z7 (by omega)];rw[<-this,List.drop_drop,zt]
       .cases this
      |false =>simp only[WB,zD,if_false,zH] at this |-;rw[<-this,zt]
     .cases h
    .cases h
   .cases h
  .cases h
 .cases h
end
end Go.V
namespace Go.V
open Go
section
variable {P:Program}{B:Heap}{pl:Nat->Value}{tb:Nat->Option Bool}{own:Own}{U:Heap}
theorem R3 {s:SV}{v:Value}(h:s.solid=true) (hs:SR P B pl tb s v):Kh v=some [v]/\cellOk v=true:=by
 cases s with
 |any=>cases h
 |grd gs s=>cases h
 |agg l=>cases h
 |tup l=>cases h
 |val k x =>
  simp only[SR] at hs;cases k with
  |i ik=>simp only[KC] at hs;obtain rfl:=(zX hs).1;exact⟨rfl,rfl⟩
  |bo=>simp only[KC] at hs;obtain rfl:=(zX hs).1;exact⟨rfl,rfl⟩
  |st=>simp only[KC] at hs;obtain rfl:=(zX hs).1;exact⟨rfl,rfl⟩
  |list k =>obtain⟨v',e,hs⟩:=hs;obtain rfl:=(zX e).1;obtain⟨a,c,rfl⟩:=hs.len;exact⟨rfl,rfl⟩
  |pair a b =>have h1:=KC.length hs;have h2:=a.size_pos;have h3:=b.size_pos;simp only[Kind.size,xq] at h1;omega
 |bid n c=>simp only[SR] at hs;obtain⟨rfl,_⟩:=hs;exact⟨rfl,rfl⟩
 |nilS=>simp only[SR] at hs;subst hs;exact⟨rfl,rfl⟩
 |nilP=>simp only[SR] at hs;subst hs;exact⟨rfl,rfl⟩
 |nilM=>simp only[SR] at hs;subst hs;exact⟨rfl,rfl⟩
 |nilF=>simp only[SR] at hs;subst hs;exact⟨rfl,rfl⟩
 |lst o=>simp only[SR] at hs;obtain⟨_,a,n,c,rfl⟩:=hs;exact⟨rfl,rfl⟩
 |dd o w =>
  simp only[SR] at hs;cases w with
  |out=>obtain⟨_,a,n,c,rfl⟩:=hs;exact⟨rfl,rfl⟩
  |el i off sz=>obtain⟨_,_,_,_,_,_,rfl⟩:=hs;exact⟨rfl,rfl⟩
  |row k x i=>obtain⟨a,c,rfl⟩:=(PI hs.1).len;exact⟨rfl,rfl⟩
  |rowp k x i j off=>obtain⟨_,_,_,_,_,_,_,_,_,_,_,_,_,_,_,_,_,_,_,_,_,_,_,rfl⟩:=hs;exact⟨rfl,rfl⟩
  |inn k x=>obtain⟨a,c,rfl⟩:=(PI hs).len;exact⟨rfl,rfl⟩
  |inp k l j off=>obtain⟨_,_,_,_,_,_,_,_,_,rfl,_⟩:=hs;exact⟨rfl,rfl⟩
  |dat=>rcases hs with⟨_,rfl⟩|⟨_,_,_,_,_,rfl⟩<;>exact⟨rfl,rfl⟩
  |obx c=>rcases hs with⟨_,rfl⟩|⟨_,_,_,rfl⟩<;>exact⟨rfl,rfl⟩
  |yv=>obtain⟨_,_,rfl⟩:=hs;exact⟨rfl,rfl⟩
 |sub o lo n sz=>simp only[SR] at hs;rcases hs with⟨_,_,rfl,_⟩|⟨_,_,_,_,_,_,_,rfl⟩<;>exact⟨rfl,rfl⟩
 |elp o i off sz=>simp only[SR] at hs;obtain⟨_,_,_,_,_,_,rfl⟩:=hs;exact⟨rfl,rfl⟩
 |rop k l i off=>simp only[SR] at hs;obtain⟨_,_,_,_,_,_,_,_,_,rfl,_⟩:=hs;exact⟨rfl,rfl⟩
 |box o off=>simp only[SR] at hs;obtain⟨_,_,rfl⟩:=hs;exact⟨rfl,rfl⟩
 |cp l off=>simp only[SR] at hs;obtain⟨_,_,_,_,_,_,rfl,_⟩:=hs;exact⟨rfl,rfl⟩
 |map o=>simp only[SR] at hs;obtain⟨_,m,rfl⟩:=hs;exact⟨rfl,rfl⟩
 |fn f a b=>simp only[SR] at hs;obtain⟨_,_,rfl,_⟩:=hs;exact⟨rfl,rfl⟩
 |pf ks r cT p=>simp only[SR] at hs;obtain⟨_,_,_,rfl,_⟩:=hs;exact⟨rfl,rfl⟩
theorem BC:∀ {l:List SV}{c:List Value},l.all SV.solid=true->SRs P B pl tb l c->c.all cellOk=true
 |[],c,_,h=>by simp only[SRs] at h;subst h;rfl
 |s::ss,c,hl,h=>by simp only[SRs] at h;obtain⟨x,y,rfl,h1,h2⟩:=h;simp only[zZ,z8] at hl |-;exact⟨(R3 hl.1 h1).2,BC hl.2 h2⟩
theorem Yk {s:SV}{v:Value}{l:List SV}(h:MF s=some l) (hs:SR P B pl tb s v):∃ c,Kh v=some c/\SRs P B pl tb l c/\c.all cellOk=true:=by
 have key:s.solid=true->some [s]=some l->∃ c,Kh v=some c/\SRs P B pl tb l c/\c.all cellOk=true:=λqF e=>by obtain rfl:=osj e;obtain⟨h1,h2⟩:=R3 qF hs;exact⟨[v],h1,by simp only[SRs];exact⟨v,[],rfl,hs,rfl⟩,by simp[h2]⟩
 cases s with
 |any=>cases h
 |grd gs s=>cases h
 |tup l=>cases h
 |agg l' =>
  simp only[MF] at h;cases hl:l'.all SV.solid with
  |false=>rw[hl] at h;cases h
  |true =>rw[hl] at h;obtain rfl:=osj h;simp only[SR] at hs;obtain⟨cs,rfl,hs⟩:=hs;exact⟨cs,rfl,hs,BC hl hs⟩
 |_=>exact key rfl h
theorem Bk:∀ {vs:List SV}{us:List Value}{c:List SV}{cV:List Value}{o:Nat},SRs P B pl tb c cV->SRs P B pl tb vs us->SRs P B pl tb (gfill.setS c o vs) (Yi cV o us)
 |[],us,c,cV,o,h,h'=>by simp only[SRs] at h';subst h';exact h
 |v::vs,us,c,cV,o,h,h'=>by simp only[SRs] at h';obtain⟨x,y,rfl,h1,h2⟩:=h';simp only[gfill.setS,Yi];exact Bk (h.set o h1) h2
theorem HA:∀ {ps:List (Nat×Nat×Operand)}{c l:List SV}{cV:List Value}{ev:Operand->SV}{evV:Operand->Value},(∀ x,SR P B pl tb (ev x) (evV x))->SRs P B pl tb c cV->gfill c (ps.map λp=>(p.1,p.2.1,ev p.2.2))=some l ->
  ∃ lV,NK cV (ps.map λp=>(p.1,p.2.1,evV p.2.2))=some lV/\SRs P B pl tb l lV
 |[],c,l,cV,ev,evV,ak,h,hg=>by obtain rfl:=osj hg;exact⟨cV,rfl,h⟩
 |p::ps,c,l,cV,ev,evV,ak,h,hg=>by
  simp only[zG,gfill] at hg;split at hg
  .rename_i vs hs;split at hg
   .rename_i aj;obtain⟨us,h1,h2,_⟩:=Yk hs (ak p.2.2);obtain⟨lV,h3,h4⟩:=HA ak (Bk h h2) hg;refine⟨lV,?_,h4⟩;simp only[zG,NK,h1];rw[z7 ⟨by rw[<-h2.length];exact aj.1,by rw[<-h.length];exact aj.2⟩];exact h3
   .cases hg
  .cases hg
theorem Yv {h:Heap}:∀ {k:Kind}{z:List Value},KW k z=true->KC h k k.dflt z
 |.i ik,z,e=>by unfold KW at e;split at e<;>simp_all [KC,Kind.dflt]
 |.bo,z,e=>by unfold KW at e;split at e<;>simp_all [KC,Kind.dflt]
 |.st,z,e=>by unfold KW at e;split at e<;>simp_all [KC,Kind.dflt];rename_i s;cases s;simp_all
 |.list k,z,e=>by unfold KW at e;split at e<;>simp_all [KC,Kind.dflt];exact .inl ⟨rfl,rfl⟩
 |.pair a b,z,e=>by simp only[KW,z8] at e;exact⟨_,_,(wb a.size z).symm,Yv e.1,Yv e.2⟩
theorem Sv {h:Heap}{mk:MK}{kk:Kind}(hk:gq.mkP mk kk=true) {x:kk.T}{cs:List Value}(e:KC h kk x cs):∃ v,cs=[v]/\ZC mk v=true/\Eg mk v=true:=by
 unfold gq.mkP at hk;split at hk
 .simp only[KC] at e;subst e;obtain rfl:=zo hk;exact⟨_,rfl,by simp[ZC],by simp[Eg]⟩
 .simp only[KC] at e;subst e;exact⟨_,rfl,rfl,rfl⟩
 .simp only[KC] at e;subst e;exact⟨_,rfl,rfl,rfl⟩
 .cases hk
theorem Q43 {h:Heap}{mk:MK}{kk:Kind}(hk:gq.mkP mk kk=true) {x y:kk.T}{u v:Value}(e:KC h kk x [u]) (e':KC h kk y [v]):XN u v=gq.keq kk x y/\Ki u v=gq.keq kk x y:=by
 unfold gq.mkP at hk;split at hk
 .simp only[KC] at e e';obtain rfl:=(zX e).1;obtain rfl:=(zX e').1;exact⟨rfl,rfl⟩
 .simp only[KC] at e e';obtain rfl:=(zX e).1;obtain rfl:=(zX e').1;simp[XN,Ki,gq.keq]
 .simp only[KC] at e e';obtain rfl:=(zX e).1;obtain rfl:=(zX e').1;exact⟨rfl,rfl⟩
 .cases hk
theorem HZ {h:Heap}:∀ {k:Kind}{l r:List MK}{x:k.T}{cs ds:List Value},gq.mkAt k l=some r->KC h k x cs->fits l (cs++ds)=fits r ds
 |.pair a b,l,r,x,cs,ds,hk,e=>by
  simp only[gq.mkAt] at hk;split at hk
  .rename_i q hq;obtain⟨c1,c2,rfl,h1,h2⟩:=e;rw[xh,HZ hq h1,HZ hk h2]
  .cases hk
 |.i _,m::l,r,x,cs,ds,hk,e|.bo,m::l,r,x,cs,ds,hk,e|.st,m::l,r,x,cs,ds,hk,e|.list _,m::l,r,x,cs,ds,hk,e=>by
  simp only[gq.mkAt] at hk;cases hp:gq.mkP m _ with
  |false=>rw[hp] at hk;cases hk
  |true =>rw[hp] at hk;obtain rfl:=osj hk;obtain⟨v,rfl,_,h2⟩:=Sv hp e;simp[fits,h2]
 |.i _,[],r,x,cs,ds,hk,e|.bo,[],r,x,cs,ds,hk,e|.st,[],r,x,cs,ds,hk,e|.list _,[],r,x,cs,ds,hk,e=>by cases hk
theorem Ci {h:Heap}:∀ {k:Kind}{l r:List MK}{x y:k.T}{cs ds cs' ds':List Value},gq.mkAt k l=some r->KC h k x cs->KC h k y ds->Qt (cs++cs') (ds++ds')=(gq.keq k x y&&Qt cs' ds')
 |.pair a b,l,r,x,y,cs,ds,cs',ds',hk,e,e'=>by
  simp only[gq.mkAt] at hk;split at hk
  .rename_i q hq;obtain⟨c1,c2,rfl,h1,h2⟩:=e;obtain⟨d1,d2,rfl,g1,g2⟩:=e';rw[xh,xh,Ci hq h1 g1,Ci hk h2 g2];simp only[gq.keq,Bool.and_assoc]
  .cases hk
 |.i _,m::l,r,x,y,cs,ds,cs',ds',hk,e,e'|.bo,m::l,r,x,y,cs,ds,cs',ds',hk,e,e'|.st,m::l,r,x,y,cs,ds,cs',ds',hk,e,e'|.list _,m::l,r,x,y,cs,ds,cs',ds',hk,e,e'=>by
  simp only[gq.mkAt] at hk;cases hp:gq.mkP m _ with
  |false=>rw[hp] at hk;cases hk
  |true =>obtain⟨v,rfl,_,_⟩:=Sv hp e;obtain⟨w,rfl,_,_⟩:=Sv hp e';simp only[xF,xk,Qt,(Q43 hp e e').2]
 |.i _,[],r,x,y,cs,ds,cs',ds',hk,e,e'|.bo,[],r,x,y,cs,ds,cs',ds',hk,e,e'|.st,[],r,x,y,cs,ds,cs',ds',hk,e,e'|.list _,[],r,x,y,cs,ds,cs',ds',hk,e,e'=>by cases hk
theorem Uf {h:Heap}{mk:MK}{kk:Kind}(hk:gq.mkOk mk kk=true) {x:kk.T}{v:Value}(e:KV h kk x v):ZC mk v=true:=by
 unfold gq.mkOk at hk;rcases e with⟨ho,e⟩|⟨ho,cs,rfl,e⟩
 .rw[ho] at hk;obtain⟨w,h1,h2,_⟩:=Sv hk e;obtain rfl:=(zX h1).1;exact h2
 .rw[ho] at hk;simp only[zW] at hk;split at hk
  .rename_i l;split at hk
   .rename_i hr;have:=HZ (ds:=[]) hr e;rw[xL] at this;simp only[ZC];rw[this];rfl
   .cases hk
  .cases hk
theorem GG {h:Heap}{mk:MK}{kk:Kind}(hk:gq.mkOk mk kk=true) {x y:kk.T}{u v:Value}(e:KV h kk x u) (e':KV h kk y v):XN u v=gq.keq kk x y:=by
 unfold gq.mkOk at hk;rcases e with⟨ho,e⟩|⟨ho,cs,rfl,e⟩
 .rcases e' with⟨_,e'⟩|⟨eW,_⟩
  .rw[ho] at hk;exact(Q43 hk e e').1
  .rw[ho] at eW;cases eW
 .rcases e' with⟨eW,_⟩|⟨_,ds,rfl,e'⟩
  .rw[ho] at eW;cases eW
  .rw[ho] at hk;simp only[zW] at hk;split at hk
   .split at hk
    .rename_i hr;have:=Ci (cs':=[]) (ds':=[]) hr e e';rw[xL,xL] at this;simp only[XN];rw[this];simp[Qt]
    .cases hk
   .cases hk
theorem Vi {B:Heap}{k:Kind}{v:SV}{u:Value}{x:k.T}(h:dkV k v=some x) (hs:SR P B pl tb v u) (hd:∀ {k:Kind}{l:List SV}{x:k.T}{c:List Value},Tr k l=some x->SRs P B pl tb l c->KC B k x c):KV B k x u:=by
 unfold dkV at h;cases bT:k.one with
 |true =>rw[bT] at h;exact .inl ⟨bT,hd h (by simp only[SRs];exact⟨u,[],rfl,hs,rfl⟩)⟩
 |false =>
  rw[bT] at h;simp only[zW] at h;split at h
  .simp only[SR] at hs;obtain⟨cs,rfl,hs⟩:=hs;exact .inr ⟨bT,cs,rfl,hd h hs⟩
  .cases h
theorem BA {B:Heap}{k:Kind}{z:Value}(h:KW k (Ak k z)=true):KV B k k.dflt z:=by
 have e:=Yv (h:=B) h;unfold Ak at e;cases bT:k.one with
 |true=>rw[bT] at e;exact .inl ⟨bT,e⟩
 |false =>
  rw[bT] at e;simp only[zW] at e;split at e
  .exact .inr ⟨bT,_,by simp,e⟩
  .have:=KC.length e;have:=k.size_pos;simp at *
   omega
theorem KV.kc {B:Heap}{k:Kind}{x:k.T}{v:Value}(h:KV B k x v) (ho:k.one=true):KC B k x [v]:=by
 rcases h with⟨_,h⟩|⟨h1,_⟩
 .exact h
 .rw[ho] at h1;cases h1
theorem MR.keys {mk:MK}{kk vk:Kind}(hk:gq.mkOk mk kk=true):∀ {m:List (kk.T×vk.T)}{es:List JD},MR B kk vk m es->es.all (λe=>ZC mk e.1)=true
 |[],es,h=>by simp only[MR] at h;subst h;rfl
 |m::ms,es,h=>by obtain⟨e,bV,rfl,h2,h3,h4⟩:=h;simp only[zZ,z8];exact⟨Uf hk h2,MR.keys hk h4⟩
theorem MR.length {kk vk:Kind}:∀ {m:List (kk.T×vk.T)}{es:List JD},MR B kk vk m es->es.length=m.length
 |[],es,h=>by simp only[MR] at h;subst h;rfl
 |m::ms,es,h=>by obtain⟨e,bV,rfl,h2,h3,h4⟩:=h;simp[MR.length h4]
theorem MR.find {mk:MK}{kk vk:Kind}(hk:gq.mkOk mk kk=true) {key:kk.T}{kv:Value}(a7:KV B kk key kv) {d:vk.T}{z:Value}(hz:KV B vk d z):∀ {m:List (kk.T×vk.T)}{es:List JD},MR B kk vk m es ->
  (∃ e,Qp kv es=some e/\gq.ahas kk m key=true/\KV B vk (gq.aget kk m key d) e.2.1)\/(Qp kv es=none/\gq.ahas kk m key=false/\gq.aget kk m key d=d)
 |[],es,h=>by simp only[MR] at h;subst h;exact .inr ⟨rfl,rfl,rfl⟩
 |m::ms,es,h=>by
  obtain⟨e,bV,rfl,h2,h3,h4⟩:=h;have hq:=GG hk a7 h2;cases hc:gq.keq kk key m.1 with
  |true =>refine .inl ⟨e,by simp[Qp,hq,hc],by simp[gq.ahas,hc],by simpa [gq.aget,hc] using h3⟩
  |false =>
   rcases MR.find hk a7 hz h4 with⟨e',k1,k2,k3⟩|⟨k1,k2,k3⟩
   .exact .inl ⟨e',by simp[Qp,hq,hc,k1],by simp[gq.ahas,hc,k2],by simpa [gq.aget,hc] using k3⟩
   .exact .inr ⟨by simp[Qp,hq,hc,k1],by simp[gq.ahas,hc,k2],by simpa [gq.aget,hc] using k3⟩
theorem SRs.one {v:SV}{c:List Value}(h:SRs P B pl tb [v] c):∃ u,c=[u]/\SR P B pl tb v u:=by simp only[SRs] at h;obtain⟨u,us,rfl,h1,rfl⟩:=h;exact⟨u,rfl,h1⟩
theorem QI:∀ {k:Kind}{l:List SV}{x:k.T}{c:List Value},Tr k l=some x->SRs P B pl tb l c->KC B k x c
 |.i ik,[],x,c,h,hs|.bo,[],x,c,h,hs|.st,[],x,c,h,hs|.list _,[],x,c,h,hs=>by cases h
 |.i ik,_::_::_,x,c,h,hs|.bo,_::_::_,x,c,h,hs|.st,_::_::_,x,c,h,hs|.list _,_::_::_,x,c,h,hs=>by cases h
 |.i ik,[v],x,c,h,hs=>by
  obtain⟨u,rfl,h1⟩:=hs.one;simp only[Tr] at h;split at h
  .rename_i r4 y;split at h
   .rename_i e;obtain rfl:=osj h;subst e;simp only[SR] at h1;exact h1
   .cases h
  .cases h
 |.bo,[v],x,c,h,hs=>by obtain⟨u,rfl,h1⟩:=hs.one;rw[XT h h1];rfl
 |.st,[v],x,c,h,hs=>by obtain⟨u,rfl,h1⟩:=hs.one;rw[VX h h1];rfl
 |.list k,[v],x,c,h,hs=>by
  obtain⟨u,rfl,h1⟩:=hs.one;simp only[Tr] at h;split at h
  .obtain rfl:=osj h;simp only[SR] at h1;subst h1;exact⟨_,rfl,.inl ⟨rfl,rfl⟩⟩
  .rename_i k' l';obtain rfl:=W0 h;obtain rfl:=X_ h;simp only[SR] at h1;exact h1
  .cases h
 |.pair a b,l,x,c,h,hs=>by
  simp only[Tr] at h;split at h
  .rename_i y z h1 h2;obtain rfl:=osj h;exact⟨c.take a.size,c.drop a.size,(wb _ _).symm,QI h1 (hs.take _),QI h2 (hs.drop _)⟩
  .cases h
end
end Go.V
namespace Go.V
open Go
theorem InK.wrap {k:IntKind}{x:Int}(h:InK k x):k.wrap x=x:=by obtain⟨h1,h2⟩:=h;cases k<;>simp[IntKind.wrap,IntKind.bits,IntKind.signed,IntKind.min,IntKind.max] at h1 h2 |-<;>(try split)<;>omega
section
variable {P:Program}{B:Heap}{pl:Nat->Value}{tb:Nat->Option Bool}{own:Own}{U:Heap}
def QOk (P:Program) (B:Heap) (pl:Nat->Value) (tb:Nat->Option Bool) (U:Heap) (o:VOp) (evV:Operand->Value) (v:SV):Prop:=∃ u,Qb o evV U=some (u,U)/\SR P B pl tb v u
theorem XH (k:IntKind) (x:Int):SR P B pl tb (.val (.i k) x) (.int k x):=by simp[SR,KC]
theorem J9 (x:Bool):SR P B pl tb (.val .bo x) (.bool x):=by simp[SR,KC]
theorem AY (x:List UInt8):SR P B pl tb (.val .st x) (.string ⟨x.toArray⟩):=by simp[SR,KC]
theorem Z8 {α β:Type _}{a c:α}{b d:β}(h:some (a,b)=some (c,d)):a=c/\b=d:=by cases h;exact⟨rfl,rfl⟩
section
variable {kt:List (Nat×Kind)}{raw:Bool}{ev:Operand->SV}{evV:Operand->Value}{cs:List Prop}{v:SV}
theorem Di (ak:∀ x,SR P B pl tb (ev x) (evV x)) {x y:Operand}{k k':IntKind}{a b:Int}(h1:asI (ev x)=some (k,a)) (h2:asI (ev y)=some (k',b)):evV x=.int k a/\evV y=.int k' b:=⟨Jq h1 (ak x),Jq h2 (ak y)⟩
theorem Q6m (ak:∀ x,SR P B pl tb (ev x) (evV x)) {op:BinOp}{x y:Operand}(h:gq kt raw (.arith op x y) ev own=some (cs,v)) (hc:∀ c∈cs,c):QOk P B pl tb U (.arith op x y) evV v:=by
 simp only[gq] at h;split at h
 .rename_i k a k' b h1 h2;obtain⟨e1,e2⟩:=Di ak h1 h2;split at h
  .rename_i hk;subst hk;cases raw with
   |true =>
    obtain⟨rfl,rfl⟩:=Z8 h;refine⟨_,by simp only[Qb,e1,e2,zI]<;>rfl,?_⟩;have:R0 op k a b=k.wrap (PA op a b):=by cases op<;>rfl
    rw[this];exact XH _ _
   |false =>
    obtain⟨rfl,rfl⟩:=Z8 h;refine⟨_,by simp only[Qb,e1,e2,zI]<;>rfl,?_⟩;have:R0 op k a b=PA op a b:=by
     have hw:InK k (PA op a b):=hc _ (by simp);have e:R0 op k a b=k.wrap (PA op a b):=by cases op<;>rfl
     rw[e,hw.wrap]
    rw[this];exact XH _ _
  .cases h
 .cases h
theorem Z4n (ak:∀ x,SR P B pl tb (ev x) (evV x)) {op:BinOp}{x y:Operand}(h:gq kt raw (.div op x y) ev own=some (cs,v)) (hc:∀ c∈cs,c):QOk P B pl tb U (.div op x y) evV v:=by
 simp only[gq] at h;split at h
 .rename_i k a k' b h1 h2;obtain⟨e1,e2⟩:=Di ak h1 h2;split at h
  .rename_i hk;subst hk;split at h
   .obtain⟨rfl,rfl⟩:=Z8 h;have hb:b≠0:=hc _ (by simp);have hw:InK k (a.tdiv b):=hc _ (by simp);refine⟨_,by simp only[Qb,e1,e2,hb,ne_eq,not_false_iff,and_self,zI]<;>rfl,?_⟩;simp only[Q7q,hw.wrap];exact XH _ _
   .obtain⟨rfl,rfl⟩:=Z8 h;have hb:b≠0:=hc _ (by simp);refine⟨_,by simp only[Qb,e1,e2,hb,ne_eq,not_false_iff,and_self,zI]<;>rfl,?_⟩;rename_i bJ;have:Q7q op k a b=a.tmod b:=by unfold Q7q;split<;>simp_all
    rw[this];exact XH _ _
  .cases h
 .cases h
theorem Z0c (ak:∀ x,SR P B pl tb (ev x) (evV x)) {op:BinOp}{x y:Operand}(h:gq kt raw (.bits op x y) ev own=some (cs,v)):QOk P B pl tb U (.bits op x y) evV v:=by
 simp only[gq] at h;split at h
 .rename_i k a k' b h1 h2;obtain⟨e1,e2⟩:=Di ak h1 h2;split at h
  .rename_i hk;subst hk;obtain⟨rfl,rfl⟩:=Z8 h;exact⟨_,by simp only[Qb,e1,e2,zI]<;>rfl,XH _ _⟩
  .cases h
 .cases h
theorem Q5n (ak:∀ x,SR P B pl tb (ev x) (evV x)) {op:BinOp}{x y:Operand}(h:gq kt raw (.shift op x y) ev own=some (cs,v)) (hc:∀ c∈cs,c):QOk P B pl tb U (.shift op x y) evV v:=by
 simp only[gq] at h;split at h
 .rename_i k a k' b h1 h2;obtain⟨e1,e2⟩:=Di ak h1 h2;split at h
  .cases raw with
   |true =>obtain⟨rfl,rfl⟩:=Z8 h;have hb:0<=b:=hc _ (by simp);exact⟨_,by simp only[Qb,e1,e2,hb,zI]<;>rfl,XH _ _⟩
   |false =>obtain⟨rfl,rfl⟩:=Z8 h;have hb:0<=b:=hc _ (by simp);have hw:InK k (Xh k a b):=hc _ (by simp);refine⟨_,by simp only[Qb,e1,e2,hb,zI]<;>rfl,?_⟩;have:TT .shl k a b=k.wrap (Xh k a b):=rfl;rw[this,hw.wrap];exact XH _ _
  .obtain⟨rfl,rfl⟩:=Z8 h;have hb:0<=b:=hc _ (by simp);refine⟨_,by simp only[Qb,e1,e2,hb,zI]<;>rfl,?_⟩;have:TT op k a b=YJ k a b:=by unfold TT;split<;>simp_all [YJ]
   rw[this];exact XH _ _
 .cases h
theorem Z2x (ak:∀ x,SR P B pl tb (ev x) (evV x)) {op:BinOp}{x y:Operand}(h:gq kt raw (.cmp op x y) ev own=some (cs,v)):QOk P B pl tb U (.cmp op x y) evV v:=by
 simp only[gq] at h;split at h
 .rename_i k a k' b h1 h2;obtain⟨e1,e2⟩:=Di ak h1 h2;split at h
  .rename_i hk;subst hk;obtain⟨rfl,rfl⟩:=Z8 h;exact⟨_,by simp only[Qb,e1,e2,zI]<;>rfl,J9 _⟩
  .cases h
 .cases h
theorem Z28 (ak:∀ x,SR P B pl tb (ev x) (evV x)) {op:BinOp}{x y:Operand}(h:gq kt raw (.str op x y) ev own=some (cs,v)) (hc:∀ c∈cs,c):QOk P B pl tb U (.str op x y) evV v:=by
 simp only[gq] at h;split at h
 .rename_i a b h1 h2;have e1:=VX h1 (ak x);have e2:=VX h2 (ak y);split at h
  .obtain⟨rfl,rfl⟩:=Z8 h;have hw:a.length+b.length<=4611686018427387904:=hc _ (by simp);refine⟨.string (⟨a.toArray⟩++⟨b.toArray⟩),by simp only[Qb,e1,e2];rw[z7 (by simpa [ByteArray.size] using hw)],?_⟩;have:(⟨a.toArray⟩:ByteArray)++⟨b.toArray⟩=⟨(a++b).toArray⟩:=by
    apply ByteArray.ext;simp
   rw[this];exact AY _
  .obtain⟨rfl,rfl⟩:=Z8 h;exact⟨_,by simp only[Qb,e1,e2]<;>rfl,J9 _⟩
  .obtain⟨rfl,rfl⟩:=Z8 h;exact⟨_,by simp only[Qb,e1,e2]<;>rfl,J9 _⟩
  .obtain⟨rfl,rfl⟩:=Z8 h;exact⟨_,by simp only[Qb,e1,e2]<;>rfl,J9 _⟩
  .cases h
 .cases h
theorem Z2g (ak:∀ x,SR P B pl tb (ev x) (evV x)) {neg:Bool}{x y:Operand}(h:gq kt raw (.eqB neg x y) ev own=some (cs,v)):QOk P B pl tb U (.eqB neg x y) evV v:=by
 simp only[gq] at h;split at h
 .rename_i a b h1 h2;have e1:=XT h1 (ak x);have e2:=XT h2 (ak y);obtain⟨rfl,rfl⟩:=Z8 h;exact⟨_,by simp only[Qb,e1,e2]<;>rfl,J9 _⟩
 .cases h
theorem Hs {k:MK}{a b:SV}{r:Bool}{u w:Value}(h:En k a b=some r) (ha:SR P B pl tb a u) (hb:SR P B pl tb b w):Eg k u=true/\Eg k w=true/\Ki u w=r:=by
 cases k with
 |agg s=>cases h
 |int q =>
  simp only[En] at h;split at h
  .rename_i q1 x q2 y h1 h2;split at h
   .rename_i hq;obtain⟨rfl,rfl⟩:=hq;obtain rfl:=osj h;rw[Jq h1 ha,Jq h2 hb];exact⟨by simp[Eg],by simp[Eg],rfl⟩
   .cases h
  .cases h
 |bool =>
  simp only[En] at h;split at h
  .rename_i x y h1 h2;obtain rfl:=osj h;rw[XT h1 ha,XT h2 hb];exact⟨rfl,rfl,rfl⟩
  .cases h
 |string =>
  simp only[En] at h;split at h
  .rename_i x y h1 h2;obtain rfl:=osj h;rw[VX h1 ha,VX h2 hb];exact⟨rfl,rfl,rfl⟩
  .cases h
theorem Bn:∀ {s:List MK}{l m:List SV}{r:Bool}{us ws:List Value},HG s l m=some r->SRs P B pl tb l us->SRs P B pl tb m ws->fits s us=true/\fits s ws=true/\Qt us ws=r
 |[],_,_,_,_,_,h,_,_=>by cases h
 |k::ks,[],_,_,_,_,h,_,_=>by simp[HG] at h
 |k::ks,_::_,[],_,_,_,h,_,_=>by simp[HG] at h
 |[k],a::l,b::m,r,us,ws,h,ha,hb=>by
  simp only[HG] at h;split at h
  .simp only[SRs] at ha hb;obtain⟨u,jA,rfl,h1,rfl⟩:=ha;obtain⟨w,ua,rfl,h2,rfl⟩:=hb;obtain⟨f1,f2,f3⟩:=Hs h h1 h2;simp[fits,Qt,f1,f2,f3]
  .cases h
 |k::k'::ks,a::l,b::m,r,us,ws,h,ha,hb=>by
  simp only[HG] at h;split at h
  .rename_i x y hx hy;obtain rfl:=osj h;simp only[SRs] at ha hb;obtain⟨u,jA,rfl,h1,jz⟩:=ha;obtain⟨w,ua,rfl,h2,mR⟩:=hb;obtain⟨f1,f2,f3⟩:=Hs hx h1 h2;obtain⟨g1,g2,g3⟩:=Bn (s:=k'::ks) hy jz mR;rw[fits,fits,f1,f2,g1,g2,Qt,f3,g3];exact⟨rfl,rfl,rfl⟩
  .cases h
theorem Q62 (ak:∀ x,SR P B pl tb (ev x) (evV x)) {neg:Bool}{s:List MK}{x y:Operand}(h:gq kt raw (.ext (.eqAgg neg s x y)) ev own=some (cs,v)):QOk P B pl tb U (.ext (.eqAgg neg s x y)) evV v:=by
 simp only[gq] at h;split at h
 .rename_i l m h1 h2;obtain⟨b,hb,he⟩:=zw.1 h;obtain⟨rfl,rfl⟩:=(by cases he;exact⟨rfl,rfl⟩:[]=cs/\SV.val .bo (bif neg then !b else b)=v);have e1:=ak x;have e2:=ak y;rw[h1] at e1;rw[h2] at e2;simp only[SR] at e1 e2;obtain⟨us,e1,k1⟩:=e1;obtain⟨ws,e2,k2⟩:=e2;obtain⟨f1,f2,f3⟩:=Bn hb k1 k2;refine⟨.bool (if neg then !b else b),?_,by cases neg<;>exact J9 _⟩;simp only[Qb,ZA,e1,e2];rw[z7 ⟨by simpa using f1,by simpa using f2⟩];simp only[f3]
 .cases h
theorem Z67 (ak:∀ x,SR P B pl tb (ev x) (evV x)) {op:UnOp}{x:Operand}(h:gq kt raw (.un op x) ev own=some (cs,v)) (hc:∀ c∈cs,c):QOk P B pl tb U (.un op x) evV v:=by
 simp only[gq] at h;split at h
 .split at h
  .rename_i b h1;obtain⟨rfl,rfl⟩:=Z8 h;exact⟨_,by simp only[Qb,XT h1 (ak x)]<;>rfl,J9 _⟩
  .cases h
 .split at h
  .rename_i k n h1;obtain⟨rfl,rfl⟩:=Z8 h;have hw:InK k (0-n):=hc _ (by simp);refine⟨_,by simp only[Qb,Jq h1 (ak x)]<;>rfl,?_⟩;rw[hw.wrap];exact XH _ _
  .cases h
 .split at h
  .rename_i k n h1;obtain⟨rfl,rfl⟩:=Z8 h;exact⟨_,by simp only[Qb,Jq h1 (ak x)]<;>rfl,XH _ _⟩
  .cases h
 .cases h
theorem Q5r (ak:∀ x,SR P B pl tb (ev x) (evV x)) {k:IntKind}{x:Operand}(h:gq kt raw (.convI k x) ev own=some (cs,v)) (hc:∀ c∈cs,c):QOk P B pl tb U (.convI k x) evV v:=by
 simp only[gq] at h;split at h
 .rename_i k' n h1;cases raw with
  |true =>obtain⟨rfl,rfl⟩:=Z8 h;exact⟨_,by simp only[Qb,Jq h1 (ak x)]<;>rfl,XH _ _⟩
  |false =>obtain⟨rfl,rfl⟩:=Z8 h;have hw:InK k n:=hc _ (by simp);refine⟨_,by simp only[Qb,Jq h1 (ak x)]<;>rfl,?_⟩;rw[hw.wrap];exact XH _ _
 .cases h
theorem Q5t (ak:∀ x,SR P B pl tb (ev x) (evV x)) {x:Operand}(h:gq kt raw (.convS x) ev own=some (cs,v)):QOk P B pl tb U (.convS x) evV v:=by
 simp only[gq] at h;split at h
 .rename_i s h1;obtain⟨rfl,rfl⟩:=Z8 h;exact⟨_,by simp only[Qb,VX h1 (ak x)]<;>rfl,AY _⟩
 .cases h
theorem Q7f (ak:∀ x,SR P B pl tb (ev x) (evV x)) {z:List Value}{ps:List (Nat×Nat×Operand)}(h:gq kt raw (.build z ps) ev own=some (cs,v)):QOk P B pl tb U (.build z ps) evV v:=by
 simp only[gq] at h;split at h
 .rename_i l h1;obtain⟨rfl,rfl⟩:=Z8 h;have hz:SRs P B pl tb (z.map cvp) (z.map id):=SRs.map λx _=>GX x;rw[List.map_id] at hz;obtain⟨lV,h2,h3⟩:=HA ak hz h1;refine⟨.agg lV.toArray,by simp only[Qb,h2],?_⟩;simp only[SR];exact⟨lV,rfl,h3⟩
 .cases h
theorem Z09 (ak:∀ x,SR P B pl tb (ev x) (evV x)) (hle:B.Le U) (aA:∀ d,OR P B pl tb U (pl d) (Qf own d)) {agg:Bool}{size:Nat}{a:Operand}(h:gq kt raw (.load agg size a) ev own=some (cs,v)):QOk P B pl tb U (.load agg size a) evV v:=by
 simp only[gq] at h;cases hb:Nat.blt 0 size with
 |false=>rw[hb] at h;cases h
 |true =>
  rw[hb] at h;simp only[zm,zw] at h;obtain⟨v',h1,h2⟩:=h;obtain⟨rfl,rfl⟩:=(by simpa only [Prod.mk.injEq] using h2:_=cs/\_=v);have hs:0<size:=by simpa [zR] using hb
  obtain⟨i,o,c,e,wr,t,u,h3,h4,h5,h6⟩:=HB hle aA hs h1 (ak a);exact⟨u,by simp only[Qb,h3,h4,h5],h6⟩
theorem CB (ak:∀ x,SR P B pl tb (ev x) (evV x)) {off:Nat}{a:Operand}(h:gq kt raw (.fieldAddr off a) ev own=some (cs,v)):QOk P B pl tb U (.fieldAddr off a) evV v:=by
 have ha:=ak a;simp only[gq] at h;split at h
 .rename_i o f heq;obtain⟨rfl,rfl⟩:=Z8 h;rw[heq] at ha;simp only[SR] at ha;obtain⟨b,h1,h2⟩:=ha;refine⟨_,by simp only[Qb,h2]<;>rfl,?_⟩;simp only[SR];exact⟨b,h1,rfl⟩
 .rename_i l f heq;obtain⟨rfl,rfl⟩:=Z8 h;rw[heq] at ha;simp only[SR] at ha;obtain⟨b,c,e,wr,t,h1,h2,h3⟩:=ha;refine⟨_,by simp only[Qb,h2]<;>rfl,?_⟩;simp only[SR];exact⟨b,c,e,wr,t,h1,rfl,h3⟩
 .rename_i o i f sz heq;obtain⟨rfl,rfl⟩:=Z8 h;rw[heq] at ha;simp only[SR] at ha;obtain⟨b,len,cap,h1,h2,h3,h4⟩:=ha;refine⟨_,by simp only[Qb,h4]<;>rfl,?_⟩;simp only[SR];exact⟨b,len,cap,h1,h2,h3,by rw[zt]⟩
 .rename_i o w heq;rw[heq] at ha;simp only[SR] at ha;split at h
  .obtain⟨rfl,rfl⟩:=Z8 h;obtain⟨b,len,cap,h1,h2,h3,h4⟩:=ha;refine⟨_,by simp only[Qb,h4]<;>rfl,?_⟩;simp only[SR,DR];exact⟨b,len,cap,h1,h2,h3,by rw[zt]⟩
  .obtain⟨rfl,rfl⟩:=Z8 h;obtain⟨b,len,cap,c,e,t,r,rl,rc,bL,re,rt,h1,h2,h3,h4,h5,h6,h7,h8,h9,b7,hU,qG⟩:=ha;refine⟨_,by simp only[Qb,qG]<;>rfl,?_⟩;simp only[SR,DR];exact⟨b,len,cap,c,e,t,r,rl,rc,bL,re,rt,h1,h2,h3,h4,h5,h6,h7,h8,h9,b7,hU,by rw[zt]⟩
  .obtain⟨rfl,rfl⟩:=Z8 h;obtain⟨b,o',c,e,wr,t,h1,h2,h3,h4,h5,h6⟩:=ha;refine⟨_,by simp only[Qb,h4]<;>rfl,?_⟩;simp only[SR,DR];exact⟨b,o',c,e,wr,t,h1,h2,h3,by rw[zt],h5,h6⟩
  .cases h
 .rename_i k l i f heq;obtain⟨rfl,rfl⟩:=Z8 h;rw[heq] at ha;simp only[SR] at ha;obtain⟨b,o,c,e,wr,t,h1,h2,h3,h4,h5,h6⟩:=ha;refine⟨_,by simp only[Qb,h4]<;>rfl,?_⟩;simp only[SR];exact⟨b,o,c,e,wr,t,h1,h2,h3,by rw[zt],h5,h6⟩
 .cases h
theorem Q64 (ak:∀ x,SR P B pl tb (ev x) (evV x)) {agg:Bool}{off size:Nat}{x:Operand}(h:gq kt raw (.field agg off size x) ev own=some (cs,v)):QOk P B pl tb U (.field agg off size x) evV v:=by
 have ha:=ak x;simp only[gq] at h;split at h
 .rename_i l heq;rw[heq] at ha;simp only[SR] at ha;obtain⟨c,h1,h2⟩:=ha;simp only[zw] at h;obtain⟨v',h3,h4⟩:=h;obtain⟨rfl,rfl⟩:=(by simpa only [Prod.mk.injEq] using h4:_=cs/\_=v);obtain⟨u,h5,h6⟩:=JH h2 h3;exact⟨u,by simp only[Qb,h1,h5],h6⟩
 .cases h
theorem I_ (ak:∀ x,SR P B pl tb (ev x) (evV x)) {x:Operand}{i:Nat}(h:gq kt raw (.extract x i) ev own=some (cs,v)):QOk P B pl tb U (.extract x i) evV v:=by
 have ha:=ak x;simp only[gq] at h;split at h
 .rename_i l heq;rw[heq] at ha;simp only[SR] at ha;obtain⟨c,h1,h2⟩:=ha;simp only[zw] at h;obtain⟨v',h3,h4⟩:=h;obtain⟨rfl,rfl⟩:=(by simpa only [Prod.mk.injEq] using h4:_=cs/\_=v);obtain⟨u,h5,h6⟩:=h2.get h3;exact⟨u,by simp only[Qb,h1,h5],h6⟩
 .cases h
theorem Eh (ak:∀ x,SR P B pl tb (ev x) (evV x)) {x:Operand}(h:gq kt raw (.nilCheck x) ev own=some (cs,v)):QOk P B pl tb U (.nilCheck x) evV v:=by
 have ha:=ak x;simp only[gq] at h;split at h
 .rename_i o f heq;obtain⟨rfl,rfl⟩:=Z8 h;rw[heq] at ha;have hb:=ha;simp only[SR] at ha;obtain⟨b,h1,h2⟩:=ha;exact⟨_,by simp only[Qb,h2]<;>rfl,by rw[<-h2];exact hb⟩
 .rename_i l f heq;obtain⟨rfl,rfl⟩:=Z8 h;rw[heq] at ha;have hb:=ha;simp only[SR] at ha;obtain⟨b,c,e,wr,t,h1,h2,h3⟩:=ha;exact⟨_,by simp only[Qb,h2]<;>rfl,by rw[<-h2];exact hb⟩
 .rename_i f a b heq;obtain⟨rfl,rfl⟩:=Z8 h;rw[heq] at ha;have hb:=ha;simp only[SR] at ha;obtain⟨x1,y1,h1,h2,h3⟩:=ha;exact⟨_,by simp only[Qb,h1]<;>rfl,by rw[<-h1];exact hb⟩
 .cases h
theorem EH (ak:∀ x,SR P B pl tb (ev x) (evV x)) {x i:Operand}(h:gq kt raw (.indexStr x i) ev own=some (cs,v)) (hc:∀ c∈cs,c):QOk P B pl tb U (.indexStr x i) evV v:=by
 simp only[gq] at h;split at h
 .rename_i s k j h1 h2;have e1:=VX h1 (ak x);have e2:=Jq h2 (ak i);obtain⟨rfl,rfl⟩:=Z8 h;have k1:0<=j:=hc _ (by simp);have k2:j<s.length:=hc _ (by simp);have k3:j.toNat<s.length:=by omega
  refine⟨.int .u8 (s[j.toNat].toNat:Int),by simp only[Qb,e1,e2,k1,zI];simp[k3],?_⟩;have:s.getD j.toNat 0=s[j.toNat]:=by simp[zd,k3]
  rw[this];exact XH _ _
 .cases h
theorem Fj (ak:∀ x,SR P B pl tb (ev x) (evV x)) (gC:∀ c,evV (.const c)=c) {len size:Nat}{agg:Bool}{x i:Operand}(h:gq kt raw (.indexArr len agg size x i) ev own=some (cs,v)):QOk P B pl tb U (.indexArr len agg size x i) evV v:=by
 have ha:=ak x;simp only[gq] at h;split at h
 .rename_i l k j heq;split at h
  .rename_i hj;rw[heq] at ha;simp only[SR] at ha;obtain⟨c,h1,h2⟩:=ha;simp only[zw] at h;obtain⟨v',h3,h4⟩:=h;obtain⟨rfl,rfl⟩:=(by simpa only [Prod.mk.injEq] using h4:_=cs/\_=v);obtain⟨u,h5,h6⟩:=JH h2 h3;refine⟨u,?_,h6⟩;simp only[Qb,h1,gC];rw[z7 ⟨by simp,by simpa using hj⟩];simp[h5]
  .cases h
 .cases h
theorem Ty (ak:∀ x,SR P B pl tb (ev x) (evV x)) (gC:∀ c,evV (.const c)=c) {len size:Nat}{x i:Operand}(h:gq kt raw (.indexAddrArr len size x i) ev own=some (cs,v)):QOk P B pl tb U (.indexAddrArr len size x i) evV v:=by
 have ha:=ak x;simp only[gq] at h;split at h
 .rename_i o f k j heq;split at h
  .rename_i hj;obtain⟨rfl,rfl⟩:=Z8 h;rw[heq] at ha;simp only[SR] at ha;obtain⟨b,h1,h2⟩:=ha;refine⟨.pointer (some ⟨b,f+j*size,none⟩),?_,?_⟩
   .simp only[Qb,h2,gC];rw[z7 ⟨by simp,by simpa using hj⟩];simp
   .simp only[SR];exact⟨b,h1,rfl⟩
  .cases h
 .rename_i l f k j heq;split at h
  .rename_i hj;obtain⟨rfl,rfl⟩:=Z8 h;rw[heq] at ha;simp only[SR] at ha;obtain⟨b,c,e,wr,t,h1,h2,h3⟩:=ha;refine⟨.pointer (some ⟨b,f+j*size,none⟩),?_,?_⟩
   .simp only[Qb,h2,gC];rw[z7 ⟨by simp,by simpa using hj⟩];simp
   .simp only[SR];exact⟨b,c,e,wr,t,h1,rfl,h3⟩
  .cases h
 .cases h
theorem CV (ak:∀ x,SR P B pl tb (ev x) (evV x)) (_hle:B.Le U) (aA:∀ d,OR P B pl tb U (pl d) (Qf own d)) {size:Nat}{x i:Operand}(h:gq kt raw (.indexAddr size x i) ev own=some (cs,v)) (hc:∀ c∈cs,c):QOk P B pl tb U (.indexAddr size x i) evV v:=by
 have ha:=ak x;simp only[gq] at h;split at h
 .rename_i o k' j heq hj;have ej:=Jq hj (ak i);split at h
  .rename_i ty k xs nl ho;split at h
   .rename_i aG;obtain⟨rfl,rfl⟩:=Z8 h;have h0:0<=j:=hc _ (by simp);have h1:j<xs.length:=hc _ (by simp);rw[heq] at ha;simp only[SR] at ha;have aq:=aA o;rw[ho] at aq;rcases aq with⟨_,rfl,_⟩|⟨_,b,cap,c,t,h2,h3,h4,h5,h6⟩
    .simp at h1;omega
    .refine⟨.pointer (some ⟨b,0+j.toNat*size,none⟩),?_,?_⟩
     .simp only[Qb,ha.1,h2,ej];rw[z7 ⟨h0,h1⟩]
     .simp only[SR];exact⟨b,_,cap,h2,h0,h1,by simp⟩
   .cases h
  .cases h
 .rename_i o w k' j heq hj;have ej:=Jq hj (ak i);rw[heq] at ha;simp only[SR] at ha;have aq:=aA o;split at h
  .rename_i ty q k xs nl hole ho;rw[ho] at aq;split at h
   .have key:(if k.size=size then some ([0<=j,j<xs.length],SV.dd o (.el j 0 size)) else none)=some (cs,v)->QOk P B pl tb U (.indexAddr size x i) evV v:=by
     intro h;split at h
     .rename_i aG;obtain⟨rfl,rfl⟩:=Z8 h;have h0:0<=j:=hc _ (by simp);have h1:j<xs.length:=hc _ (by simp);obtain⟨is,_,_,h2,_⟩:=aq;rcases h2 with⟨rfl,_⟩|⟨b,cap,c,t,js,h2,_⟩
      .simp at h1;omega
      .refine⟨.pointer (some ⟨b,0+j.toNat*size,none⟩),?_,?_⟩
       .simp only[Qb,ha.1,h2,ej];rw[z7 ⟨h0,h1⟩]
       .simp only[SR,DR];exact⟨b,_,cap,h2,h0,h1,by simp⟩
     .cases h
    split at h
    .exact key h
    .exact key h
   .rename_i kr l ir;split at h
    .rename_i aG;obtain⟨rfl,rfl⟩:=Z8 h;have h0:0<=j:=hc _ (by simp);have h1:j<l.length:=hc _ (by simp);obtain⟨r7,bg,b,len,cap,c,e,t,g1,g2,g3,g4,g5⟩:=ha;obtain⟨r,o',rc,bL,re,r8,rt,k1,k2,k3,k4⟩:=AK r7 (j:=j.toNat) (by omega);obtain rfl:o'=0:=bg _ _ _ k1;obtain rfl:=Q19 k2;refine⟨.pointer (some ⟨r,0+j.toNat*size,none⟩),?_,?_⟩
     .simp only[Qb,k1,ej];rw[z7 ⟨h0,h1⟩]
     .simp only[SR,DR];exact⟨b,len,cap,c,e,t,r,l.length,rc,bL,re,rt,g1,g2,g3,g4,by rw[g5,k1],h0,h1,rfl,k2,by omega,by rw[x8] at k4;exact k4,by simp[aG]⟩
    .cases h
   .rename_i kr l;split at h
    .rename_i aG;obtain⟨rfl,rfl⟩:=Z8 h;have h0:0<=j:=hc _ (by simp);have h1:j<l.length:=hc _ (by simp);obtain⟨r,o',rc,bL,re,r8,rt,k1,k2,k3,k4⟩:=AK (show KC (Xz (pl o)) (.list kr) l [evV x] from ha) (j:=j.toNat) (by omega);refine⟨.pointer (some ⟨r,o'+j.toNat*size,none⟩),?_,?_⟩
     .simp only[Qb,k1,ej];rw[z7 ⟨h0,h1⟩]
     .simp only[SR,DR];exact⟨r,o',bL,re,r8,rt,h0,h1,k2,by simp[aG],k3,k4⟩
    .cases h
   .cases h
  .cases h
 .rename_i o lo n sz k' j heq hj;have ej:=Jq hj (ak i);split at h
  .rename_i ty k xs nl ho;split at h
   .rename_i aG;obtain⟨aG,rfl⟩:=aG;obtain⟨rfl,rfl⟩:=Z8 h;have h0:0<=j:=hc _ (by simp);have h1:j<n:=hc _ (by simp);rw[heq] at ha;simp only[SR] at ha;rcases ha with⟨rfl,rfl,_,_⟩|⟨b,len,cap,aw,h2,h3,h4,h5⟩
    .simp at h1;omega
    .refine⟨.pointer (some ⟨b,lo*sz+j.toNat*sz,none⟩),?_,?_⟩
     .simp only[Qb,h5,ej];rw[z7 ⟨h0,h1⟩]
     .simp only[SR];refine⟨b,len,cap,h2,by omega,by omega,?_⟩;have:((lo:Int)+j).toNat=lo+j.toNat:=by omega
      rw[this,zO,zU]
   .cases h
  .cases h
 .rename_i k l k' j heq hj;have ej:=Jq hj (ak i);split at h
  .rename_i aG;obtain⟨rfl,rfl⟩:=Z8 h;have h0:0<=j:=hc _ (by simp);have h1:j<l.length:=hc _ (by simp);rw[heq] at ha;simp only[SR,KC] at ha;obtain⟨v',e,hs⟩:=ha;obtain e:=(zX e).1;rcases hs with⟨rfl,_⟩|⟨b,o,cap,c,e',wr,t,h2,h3,h4,h5,h6,h7⟩
   .simp at h1;omega
   .refine⟨.pointer (some ⟨b,o+j.toNat*size,none⟩),?_,?_⟩
    .simp only[Qb,e,h2,ej];rw[z7 ⟨h0,h1⟩]
    .simp only[SR];exact⟨b,o,c,e',wr,t,h0,h1,h4,by rw[aG,zU],h6,h7⟩
  .cases h
 .cases h
theorem Ze (ak:∀ x,SR P B pl tb (ev x) (evV x)) {x:Option Operand}{d:Nat}{a:Int}(h:WD ev x d=some a) (ha:0<=a):Jh evV x d=some a.toNat:=by
 cases x with
 |none=>obtain rfl:=osj h;simp[Jh]
 |some x =>simp only[WD,zw] at h;obtain⟨⟨k,a'⟩,h1,h2⟩:=h;simp only at h2;subst h2;simp only[Jh,Jq h1 (ak x),ha,zI]
theorem EM (ak:∀ x,SR P B pl tb (ev x) (evV x)) {x:Operand}{lo hi:Option Operand}(h:gq kt raw (.sliceStr x lo hi) ev own=some (cs,v)) (hc:∀ c∈cs,c):QOk P B pl tb U (.sliceStr x lo hi) evV v:=by
 simp only[gq] at h;split at h
 .rename_i s hs;have es:=VX hs (ak x);split at h
  .rename_i a b h1 h2;obtain⟨rfl,rfl⟩:=Z8 h;have k0:0<=a:=hc _ (by simp);have k1:a<=b:=hc _ (by simp);have k2:b<=s.length:=hc _ (by simp);have e1:=Ze (evV:=evV) ak h1 k0;have e2:=Ze (evV:=evV) ak h2 (by omega);have jb:(ByteArray.mk s.toArray).size=s.length:=by simp[ByteArray.size]
   refine⟨.string ((ByteArray.mk s.toArray).extract a.toNat b.toNat),?_,?_⟩
   .simp only[Qb,es,jb,e1,e2];rw[z7 (by omega)]
   .have:(ByteArray.mk s.toArray).extract a.toNat b.toNat=⟨((s.drop a.toNat).take (b-a).toNat).toArray⟩:=by
     apply ByteArray.ext;simp[ByteArray.data_extract];rw[show (b-a).toNat=b.toNat-a.toNat by omega]
    rw[this];exact AY _
  .cases h
 .cases h
theorem Z2m (ak:∀ x,SR P B pl tb (ev x) (evV x)) (aA:∀ d,OR P B pl tb U (pl d) (Qf own d)) {x:Operand}(h:gq kt raw (.len x) ev own=some (cs,v)):QOk P B pl tb U (.len x) evV v:=by
 simp only[gq] at h;split at h
 .rename_i n h1;obtain⟨rfl,rfl⟩:=Z8 h;obtain⟨a,cap,e⟩:=EJ aA h1 (ak x);exact⟨.int .i64 n,by simp only[Qb,e],XH _ _⟩
 .cases h
theorem Q0v (ak:∀ x,SR P B pl tb (ev x) (evV x)) {x:Operand}(h:gq kt raw (.lenStr x) ev own=some (cs,v)):QOk P B pl tb U (.lenStr x) evV v:=by
 simp only[gq] at h;split at h
 .rename_i s h1;obtain⟨rfl,rfl⟩:=Z8 h;exact⟨.int .i64 s.length,by simp only[Qb,VX h1 (ak x)];simp[ByteArray.size],XH _ _⟩
 .cases h
theorem Z3u (ak:∀ x,SR P B pl tb (ev x) (evV x)) {x y:Operand}(h:gq kt raw (.max x y) ev own=some (cs,v)):QOk P B pl tb U (.max x y) evV v:=by
 simp only[gq] at h;split at h
 .rename_i k a k' b h1 h2;obtain⟨e1,e2⟩:=Di ak h1 h2;split at h
  .rename_i hk;subst hk;obtain⟨rfl,rfl⟩:=Z8 h;exact⟨.int k (Hl a b),by simp only[Qb,e1,e2,zI];rfl,XH _ _⟩
  .cases h
 .cases h
theorem Q9l (ak:∀ x,SR P B pl tb (ev x) (evV x)) {x y z w:Operand}(h:gq kt raw (.max4 x y z w) ev own=some (cs,v)):QOk P B pl tb U (.max4 x y z w) evV v:=by
 simp only[gq] at h;split at h
 .rename_i k a k2 b k3 c k4 d h1 h2 h3 h4;obtain⟨e1,e2⟩:=Di ak h1 h2;obtain⟨e3,e4⟩:=Di ak h3 h4;split at h
  .rename_i hk;obtain⟨rfl,rfl,rfl⟩:=hk;obtain⟨rfl,rfl⟩:=Z8 h;exact⟨.int k (Hl (Hl (Hl a b) c) d),by simp only[Qb,e1,e2,e3,e4,and_self,zI];rfl,XH _ _⟩
  .cases h
 .cases h
theorem Z2z (ak:∀ x,SR P B pl tb (ev x) (evV x)) {x y:Operand}(h:gq kt raw (.min x y) ev own=some (cs,v)):QOk P B pl tb U (.min x y) evV v:=by
 simp only[gq] at h;split at h
 .rename_i k a k' b h1 h2;obtain⟨e1,e2⟩:=Di ak h1 h2;split at h
  .rename_i hk;subst hk;obtain⟨rfl,rfl⟩:=Z8 h;exact⟨.int k (Z4z a b),by simp only[Qb,e1,e2,zI];rfl,XH _ _⟩
  .cases h
 .cases h
theorem Er (ak:∀ x,SR P B pl tb (ev x) (evV x)) {fn:Fn}{a b:List Operand}(h:gq kt raw (.makeFunc fn a b) ev own=some (cs,v)):QOk P B pl tb U (.makeFunc fn a b) evV v:=by
 cases fn with
 |func f =>obtain⟨rfl,rfl⟩:=Z8 h;refine⟨.func (.func f) (a.map evV).toArray (b.map evV).toArray,by simp only[Qb],?_⟩;simp only[SR];exact⟨_,_,rfl,SRs.map λx _=>ak x,SRs.map λx _=>ak x⟩
 |_=>cases h
theorem SlRel.sl {h:Heap}{sz:Nat}{α:Type}{R:α->List Value->Prop}{l:List α}{v:Value}(hs:SlRel h sz R l v):∃ cs a cap,h.sl sz v=some cs/\Rows R l cs/\v=.slice a l.length cap:=by
 rcases hs with⟨rfl,rfl⟩|⟨i,o,cap,c,e,wr,t,rfl,h2,h3,h4,h5,h6⟩
 .exact⟨[],_,_,rfl,.nil,rfl⟩
 .refine⟨_,_,cap,?_,h6,rfl⟩;simp only[Heap.sl,h3];rw[z7 ⟨h4,h5⟩]
theorem OL {h:Heap}:∀ {xs:List Int}{cs:List Value},Rows (KC h (.i .u8)) xs cs->BI cs=some ⟨(xs.map λx=>x.toNat.toUInt8).toArray⟩:=by
 have key:∀ {xs:List Int}{cs:List Value},Rows (KC h (.i .u8)) xs cs->cs.mapM Cm=some (xs.map λx=>x.toNat.toUInt8):=λ{xs cs} hr=>by
  induction hr with
  |nil=>rfl
  |@cons x xs c cs hx _ ih =>simp only[KC] at hx;subst hx;simp only[List.singleton_append,xx,Cm,ih,zG];rfl
 intro xs cs hr;simp only[BI,key hr,x6]
theorem EK (ak:∀ x,SR P B pl tb (ev x) (evV x)) (hle:B.Le U) (aA:∀ d,OR P B pl tb U (pl d) (Qf own d)) {x:Operand}(h:gq kt raw (.ext (.bytesStr x)) ev own=some (cs,v)):QOk P B pl tb U (.ext (.bytesStr x)) evV v:=by
 simp only[gq] at h;split at h
 .rename_i xs h1;obtain⟨rfl,rfl⟩:=Z8 h;obtain⟨cs,a,cap,h2,h3,h4⟩:=(VC hle aA h1 (ak x)).sl;refine⟨.string ⟨(Q3h xs).toArray⟩,?_,AY _⟩;have aG:Kind.size (.i .u8)=1:=rfl;rw[h4,aG] at h2;simp only[Qb,ZA,h4,h2,OL h3];rfl
 .cases h
theorem Q0n (ak:∀ x,SR P B pl tb (ev x) (evV x)) (aA:∀ d,OR P B pl tb U (pl d) (Qf own d)) {neg:Bool}{x y:Operand}(h:gq kt raw (.ext (.eqNil 0 neg x y)) ev own=some (cs,v)) (hc:∀ c∈cs,c):QOk P B pl tb U (.ext (.eqNil 0 neg x y)) evV v:=by
 have hx:=ak x;have hy:=ak y;simp only[gq] at h;split at h
 .rename_i h1 h2;obtain⟨rfl,rfl⟩:=Z8 h;rw[h1] at hx;rw[h2] at hy;simp only[SR] at hx hy;exact⟨.bool (!neg),by simp only[Qb,ZA,hx,hy,Jp];cases neg<;>rfl,J9 _⟩
 .rename_i o f h1 h2;obtain⟨rfl,rfl⟩:=Z8 h;rw[h1] at hx;rw[h2] at hy;simp only[SR] at hx hy;obtain⟨b,_,hb⟩:=hx;exact⟨.bool neg,by simp only[Qb,ZA,hb,hy,Jp];cases neg<;>rfl,J9 _⟩
 .rename_i l f h1 h2;obtain⟨rfl,rfl⟩:=Z8 h;rw[h1] at hx;rw[h2] at hy;simp only[SR] at hx hy;obtain⟨b,c,e,wr,t,_,hb,_⟩:=hx;exact⟨.bool neg,by simp only[Qb,ZA,hb,hy,Jp];cases neg<;>rfl,J9 _⟩
 .rename_i o c h1 h2;obtain⟨rfl,rfl⟩:=Z8 h;rw[h1] at hx;rw[h2] at hy;simp only[SR,DR] at hx hy;rcases hx with⟨rfl,hb⟩|⟨rfl,b,_,hb⟩
  .exact⟨.bool (bif neg then false else true),by simp only[Qb,ZA,hb,hy,Jp];cases neg<;>rfl,J9 _⟩
  .exact⟨.bool (bif neg then true else false),by simp only[Qb,ZA,hb,hy,Jp];cases neg<;>rfl,J9 _⟩
 .rename_i o c o' f h1 h2;split at h
  .rename_i l u ho;split at h
   .rename_i he;obtain⟨rfl,rfl⟩:=he;obtain⟨rfl,rfl⟩:=Z8 h;have ub:c=true:=hc _ (by simp);rw[h1] at hx;rw[h2] at hy;simp only[SR,DR] at hx hy;have aq:=aA o;rw[ho] at aq;obtain⟨i,cc,e,t,hp,hg,_⟩:=aq;obtain⟨b',bt,hy⟩:=hy;rcases hx with⟨kD,_⟩|⟨_,b,cQ,hb⟩
    .rw[ub] at kD;cases kD
    .rw[hp] at bt cQ;simp only[phd,Value.pointer.injEq,xi] at bt cQ;have e1:i=b':=by injection bt
     have e2:i=b:=by injection cQ
     subst e1;subst e2;exact⟨.bool (!neg),by simp only[Qb,ZA,hb,hy,Jp,hg,Option.isSome_some,and_self,zI];cases neg<;>rfl,J9 _⟩
   .cases h
  .cases h
 .cases h
theorem F7 (ak:∀ x,SR P B pl tb (ev x) (evV x)) (aA:∀ d,OR P B pl tb U (pl d) (Qf own d)) {x:Operand}(h:gq kt raw (.ext (.toUnsafe x)) ev own=some (cs,v)):QOk P B pl tb U (.ext (.toUnsafe x)) evV v:=by
 have hx:=ak x;simp only[gq] at h;split at h
 .rename_i o f h1;split at h
  .rename_i l u ho;split at h
   .rename_i hf;obtain⟨rfl,rfl⟩:=Z8 h;rw[h1] at hx;have qH:=hx;simp only[SR] at hx;obtain⟨b,hp,hv⟩:=hx;have aq:=aA o;rw[ho] at aq;obtain⟨i,c,e,t,cQ,hg,hl,_⟩:=aq;rw[hp] at cQ;have e1:b=i:=by simpa using cQ
    subst e1;refine⟨.pointer (some ⟨b,f,none⟩),?_,by rw[<-hv];exact qH⟩;simp only[Qb,ZA,hv,hg];rw[z7 (by rw[<-hl.length];exact hf)]
   .cases h
  .cases h
 .cases h
theorem LM (ak:∀ x,SR P B pl tb (ev x) (evV x)) (aA:∀ d,OR P B pl tb U (pl d) (Qf own d)) {u size:Nat}{x:Operand}(h:gq kt raw (.ext (.fromUnsafe u size x)) ev own=some (cs,v)):QOk P B pl tb U (.ext (.fromUnsafe u size x)) evV v:=by
 have hx:=ak x;simp only[gq] at h;split at h
 .rename_i o f h1;split at h
  .rename_i l t0 ho;split at h
   .rename_i hf;obtain⟨rfl,rfl,aG⟩:=hf;obtain⟨rfl,rfl⟩:=Z8 h;rw[h1] at hx;have qH:=hx;simp only[SR] at hx;obtain⟨b,hp,hv⟩:=hx;have aq:=aA o;rw[ho] at aq;obtain⟨i,c,e,t,cQ,hg,hl,hu⟩:=aq;obtain⟨he,ht⟩:=hu _ rfl;subst ht;rw[hp] at cQ;have e1:b=i:=by simpa using cQ
    subst e1;refine⟨.pointer (some ⟨b,0,none⟩),?_,by rw[<-hv];exact qH⟩;simp only[Qb,ZA,hv,hg];rw[z7 ⟨trivial,he,by rw[<-hl.length];exact aG⟩]
   .cases h
  .cases h
 .cases h
theorem Cl (ak:∀ x,SR P B pl tb (ev x) (evV x)) (aA:∀ d,OR P B pl tb U (pl d) (Qf own d)) {x:Operand}(h:gq kt raw (.ext (.sliceData x)) ev own=some (cs,v)) (hc:∀ c∈cs,c):QOk P B pl tb U (.ext (.sliceData x)) evV v:=by
 have hx:=ak x;simp only[gq] at h;split at h
 .rename_i h1;obtain⟨rfl,rfl⟩:=Z8 h;rw[h1] at hx;simp only[SR] at hx;exact⟨.pointer none,by simp only[Qb,ZA,hx],by simp[SR]⟩
 .rename_i o h1;split at h
  .rename_i ty k xs nl ho;obtain⟨rfl,rfl⟩:=Z8 h;have dP:nl=false->xs≠[]:=hc _ (by simp);rw[h1] at hx;simp only[SR] at hx;have aq:=aA o;rw[ho] at aq;rcases aq with⟨_,_,hp⟩|⟨jO,i,cap,c,t,hp,cu,hg,_⟩
   .refine⟨.pointer none,by simp only[Qb,ZA,hx.1,hp],?_⟩;simp only[SR,DR];exact .inl ⟨by rw[hp];rfl,trivial⟩
   .have az:=xB.2 (dP jO);refine⟨.pointer (some ⟨i,0,none⟩),?_,?_⟩
    .simp only[Qb,ZA,hx.1,hp,hg,Option.isSome_some,and_true];rw[z7 (by omega)]
    .simp only[SR,DR];exact .inr ⟨i,xs.length,cap,by rw[hp];rfl,az,rfl⟩
  .cases h
 .cases h
theorem HV {size:Nat}{i o len cap l h:Nat}{c:List Value}{e:El}{wr t:Bool}(hg:U.get i=some (.cells c e wr t)) (he:e.sz=size) (h1:l<=h) (h2:h<=cap) :
  WM size U (.slice (some ⟨i,o,none⟩) len cap) l h none=some (.slice (some ⟨i,o+l*size,none⟩) (h-l) (cap-l),U):=by
 simp only[WM,hg];rw[z7 ⟨he,h1,h2⟩]
theorem Z0q {H:Heap}{k:Kind}{l:List k.T}{v:Value}(h:KC H (.list k) l [v]):∃ a c,v=.slice a l.length c:=by
 obtain⟨v',e,hs⟩:=h;obtain rfl:=(zX e).1;rcases hs with⟨rfl,rfl⟩|⟨i,o,cap,c,e',wr,t,rfl,_⟩
 .exact⟨_,_,rfl⟩
 .exact⟨_,_,rfl⟩
theorem Au {H:Heap}(hle:H.Le U) {k:Kind}{l:List k.T}{v:Value}{a b:Nat}(h:KC H (.list k) l [v]) (k1:a<=b) (k2:b<=l.length) :
  ∃ u,WM k.size U v a b none=some (u,U)/\KC H (.list k) ((l.drop a).take (b-a)) [u]:=by
 obtain⟨v',e,hs⟩:=h;obtain rfl:=(zX e).1;rcases hs with⟨rfl,rfl⟩|⟨i,o,cap,c,e',wr,t,rfl,h4,h5,h6,h7,h8⟩
 .simp only[List.length_nil] at k2;have za:a=0:=by omega
  have zb:b=0:=by omega
  subst za;subst zb;exact⟨.slice none 0 0,by simp only[WM];rfl,_,rfl,.inl ⟨by simp,rfl⟩⟩
 .have hlen:((l.drop a).take (b-a)).length=b-a:=by simp;omega
  refine⟨.slice (some ⟨i,o+a*k.size,none⟩) (b-a) (cap-a),HV (hle.2 _ _ h5) h6 (by omega) (by omega),_,rfl,.inr ⟨i,o+a*k.size,cap-a,c,e',wr,t,by rw[hlen],by rw[hlen];omega,h5,h6,?_,?_⟩⟩
  .rw[hlen];have:(a+(b-a))*k.size<=l.length*k.size:=zx _ (by omega);rw[zO] at this;omega
  .rw[hlen];have:=(h8.drop KC.q0h a).take KC.q0h (b-a);have e3:(((c.drop o).take (l.length*k.size)).drop (a*k.size)).take ((b-a)*k.size)=(c.drop (o+a*k.size)).take ((b-a)*k.size):=by
    apply x3;intro j;simp only[zP,zH];split
    .have:(a+(b-a))*k.size<=l.length*k.size:=zx _ (by omega);rw[zO] at this;rw[z7 (by omega),zt]
    .rfl
   rw[e3] at this;exact this
theorem Q63 (ak:∀ x,SR P B pl tb (ev x) (evV x)) (hle:B.Le U) (aA:∀ d,OR P B pl tb U (pl d) (Qf own d)) {size:Nat}{x:Operand}{lo hi mx:Option Operand}(h:gq kt raw (.slice size x lo hi mx) ev own=some (cs,v)) (hc:∀ c∈cs,c):QOk P B pl tb U (.slice size x lo hi mx) evV v:=by
 have ha:=ak x;cases mx with
 |some m=>cases h
 |none =>
 simp only[gq] at h;split at h
 .rename_i o heq;rw[heq] at ha;simp only[SR] at ha;have aq:=aA o;split at h
  .rename_i ty k xs nl ho;rw[ho] at aq;split at h
   .rename_i aG;split at h
    .rename_i a b h1 h2;obtain⟨rfl,rfl⟩:=Z8 h;have k0:0<=a:=hc _ (by simp);have k1:a<=b:=hc _ (by simp);have k2:b<=xs.length:=hc _ (by simp);have e1:=Ze (evV:=evV) (d:=0) ak h1 k0;have e2:=Ze (evV:=evV) ak h2 (by omega);rcases aq with⟨_,rfl,h3⟩|⟨_,i,cap,c,t,h3,h4,h5,h6,h7⟩
     .simp only[List.length_nil] at k2 e2;have za:a.toNat=0:=by omega
      have zb:b.toNat=0:=by omega
      have zc:(b-a).toNat=0:=by omega
      refine⟨.slice none 0 0,?_,?_⟩
      .simp only[Qb,ha.1,h3,e1,e2,za,zb,WM];rfl
      .rw[za,zc];simp only[SR];exact .inl ⟨trivial,trivial,trivial,h3⟩
     .refine⟨.slice (some ⟨i,0+a.toNat*size,none⟩) (b.toNat-a.toNat) (cap-a.toNat),?_,?_⟩
      .simp only[Qb,ha.1,h3,e1,e2];exact HV h5 aG (by omega) (by omega)
      .simp only[SR];refine .inr ⟨i,_,cap,cap-a.toNat,h3,by omega,by omega,?_⟩;rw[xl,show (b-a).toNat=b.toNat-a.toNat by omega]
    .cases h
   .cases h
  .cases h
 .rename_i o l0 n sz heq;rw[heq] at ha;simp only[SR] at ha;have aq:=aA o;split at h
  .rename_i ty k xs nl ho;rw[ho] at aq;split at h
   .rename_i aG;obtain⟨aG,rfl⟩:=aG;split at h
    .rename_i a b h1 h2;obtain⟨rfl,rfl⟩:=Z8 h;have k0:0<=a:=hc _ (by simp);have k1:a<=b:=hc _ (by simp);have k2:b<=n:=hc _ (by simp);have e1:=Ze (evV:=evV) (d:=0) ak h1 k0;have e2:=Ze (evV:=evV) ak h2 (by omega);rcases ha with⟨rfl,rfl,hv,hp⟩|⟨i,len,cap,aw,h3,h4,h5,hv⟩
     .have za:a.toNat=0:=by omega
      have zb:b.toNat=0:=by omega
      have zc:(b-a).toNat=0:=by omega
      refine⟨.slice none 0 0,?_,?_⟩
      .simp only[Qb,hv,e1,e2,za,zb,WM];rfl
      .rw[za,zc];simp only[SR];exact .inl ⟨trivial,trivial,trivial,hp⟩
     .rcases aq with⟨_,_,h6⟩|⟨_,i',i_,c,t,h6,h7,h8,h9,b7⟩
      .rw[h3] at h6;cases h6
      .rw[h3] at h6;obtain⟨rfl,rfl,rfl⟩:=(by simpa using h6:i=i'/\len=xs.length/\cap=i_);refine⟨.slice (some ⟨i,l0*sz+a.toNat*sz,none⟩) (b.toNat-a.toNat) (aw-a.toNat),?_,?_⟩
       .simp only[Qb,hv,e1,e2];exact HV h8 aG (by omega) (by omega)
       .simp only[SR];refine .inr ⟨i,_,cap,aw-a.toNat,h3,by omega,by omega,?_⟩;rw[zO,show (b-a).toNat=b.toNat-a.toNat by omega]
    .cases h
   .cases h
  .cases h
 .rename_i k l heq;rw[heq] at ha;simp only[SR] at ha;split at h
  .rename_i aG;split at h
   .rename_i a b h1 h2;obtain⟨rfl,rfl⟩:=Z8 h;have k0:0<=a:=hc _ (by simp);have k1:a<=b:=hc _ (by simp);have k2:b<=l.length:=hc _ (by simp);have e1:=Ze (evV:=evV) (d:=0) ak h1 k0;have e2:=Ze (evV:=evV) ak h2 (by omega);obtain⟨v',e⟩:=x9.1 (KC.length ha);obtain⟨u,g1,g2⟩:=Au hle (a:=a.toNat) (b:=b.toNat) ha (by omega) (by omega);obtain⟨n,cap,e3⟩:=Z0q ha;refine⟨u,?_,?_⟩
    .simp only[Qb,e3,e1,e2];rw[<-aG,<-e3];exact g1
    .simp only[SR];rw[show (b-a).toNat=b.toNat-a.toNat by omega];exact g2
   .cases h
  .cases h
 .rename_i o w heq;rw[heq] at ha;simp only[SR] at ha;have aq:=aA o;split at h
  .rename_i ty q k xs nl hole ho;rw[ho] at aq
   have key:∀ (k:Kind) (l:List k.T),KC (Xz (pl o)) (.list k) l [evV x]->(if k.size=size then (match WD ev lo 0,WD ev hi l.length with
     |some a,some b=>some ([0<=a,a<=b,b<=(l.length:Int)],SV.dd o (.inn k ((l.drop a.toNat).take (b-a).toNat)))
     |_,_=>none) else none)=some (cs,v)->QOk P B pl tb U (.slice size x lo hi none) evV v:=by
    intro k l ha h;split at h
    .rename_i aG;split at h
     .rename_i a b h1 h2;obtain⟨rfl,rfl⟩:=Z8 h;have k0:0<=a:=hc _ (by simp);have k1:a<=b:=hc _ (by simp);have k2:b<=l.length:=hc _ (by simp);have e1:=Ze (evV:=evV) (d:=0) ak h1 k0;have e2:=Ze (evV:=evV) ak h2 (by omega);obtain⟨u,g1,g2⟩:=Au (DP.le aq) (a:=a.toNat) (b:=b.toNat) ha (by omega) (by omega);obtain⟨n,cap,e3⟩:=(PI ha).len;refine⟨u,?_,?_⟩
      .simp only[Qb,e3,e1,e2];rw[<-aG,<-e3];exact g1
      .simp only[SR,DR];rw[show (b-a).toNat=b.toNat-a.toNat by omega];exact g2
     .cases h
    .cases h
   split at h
   .exact key _ _ ha h
   .exact key _ _ ha.1 h
   .cases h
  .cases h
 .rename_i heq;rw[heq] at ha;simp only[SR] at ha;split at h
  .rename_i a b h1 h2;obtain⟨rfl,rfl⟩:=Z8 h;have k0:a=0:=hc _ (by simp);have k1:b=0:=hc _ (by simp);subst k0;subst k1;have e1:=Ze (evV:=evV) (d:=0) ak h1 (Int.le_refl _);have e2:=Ze (evV:=evV) (d:=0) ak h2 (Int.le_refl _);refine⟨.slice none 0 0,?_,?_⟩
   .simp only[Qb,ha,e1,e2,WM];rfl
   .simp only[SR]
  .cases h
 .cases h
theorem Q5p (ak:∀ x,SR P B pl tb (ev x) (evV x)) {neg:Bool}{x y:Operand}(aA:∀ d,OR P B pl tb U (pl d) (Qf own d)) (h:gq kt raw (.ext (.eqNil 1 neg x y)) ev own=some (cs,v)) (hc:∀ c∈cs,c):QOk P B pl tb U (.ext (.eqNil 1 neg x y)) evV v:=by
 have ha:=ak x;have hb:=ak y;simp only[gq] at h;split at h
 .rename_i h1 h2;rw[h1] at ha;rw[h2] at hb;simp only[SR] at ha hb;obtain⟨rfl,rfl⟩:=Z8 h;refine⟨.bool (!neg),?_,J9 _⟩;simp only[Qb,ZA,ha,hb,Jp];cases neg<;>rfl
 .rename_i o h1 h2;rw[h1] at ha;rw[h2] at hb;simp only[SR] at ha hb;have aq:=aA o;split at h
  .rename_i ty k xs nl ho;rw[ho] at aq;obtain⟨rfl,rfl⟩:=Z8 h;refine⟨.bool (bif neg then !nl else nl),?_,J9 _⟩;rcases aq with⟨rfl,_,h3⟩|⟨rfl,i,cap,c,t,h3,_⟩
   .simp only[Qb,ZA,ha.1,h3,hb,Jp];cases neg<;>rfl
   .simp only[Qb,ZA,ha.1,h3,hb,Jp];cases neg<;>rfl
  .cases h
 .rename_i o h1 h2;rw[h1] at ha;rw[h2] at hb;simp only[SR] at ha hb;have aq:=aA o;split at h
  .rename_i ty q k xs nl hole ho;rw[ho] at aq;obtain⟨rfl,rfl⟩:=Z8 h;refine⟨.bool (bif neg then !nl else nl),?_,J9 _⟩;obtain⟨is,_,_,g2,_,_,g5⟩:=aq;obtain⟨e1,_⟩:=ha;rcases g2 with⟨_,h3,_⟩|⟨i,cap,c,t,js,h3,_⟩
   .obtain rfl:=g5.2 h3;simp only[Qb,ZA,e1,h3,hb,Jp];cases neg<;>rfl
   .have hn:nl=false:=by
     cases nl with
     |false=>rfl
     |true=>rw[g5.1 rfl] at h3;cases h3
    subst hn;simp only[Qb,ZA,e1,h3,hb,Jp];cases neg<;>rfl
  .cases h
 .rename_i k l h1 h2;rw[h1] at ha;rw[h2] at hb;simp only[SR] at ha hb;obtain⟨rfl,rfl⟩:=Z8 h;have hl:=hc (l≠[]) (by simp);refine⟨.bool neg,?_,J9 _⟩;obtain⟨u,hu,hs⟩:=ha;obtain rfl:=(zX hu).1;rcases hs with⟨e,_⟩|⟨i,o,cap,c,e,wr,t,h3,_⟩
  .exact absurd e hl
  .simp only[Qb,ZA,h3,hb,Jp];cases neg<;>rfl
 .cases h
theorem Q1x (ak:∀ x,SR P B pl tb (ev x) (evV x)) {mk:MK}{z:Value}{ok:Bool}{x i:Operand}(_hle:B.Le U) (aA:∀ d,OR P B pl tb U (pl d) (Qf own d)) (h:gq kt raw (.ext (.lookup mk z ok x i)) ev own=some (cs,v)):QOk P B pl tb U (.ext (.lookup mk z ok x i)) evV v:=by
 have ha:=ak x;simp only[gq] at h;split at h
 .rename_i o h1;rw[h1] at ha;simp only[SR] at ha;have aq:=aA o;split at h
  .rename_i kk vk m ho;rw[ho] at aq;obtain⟨id,es,clock,h2,h3,h4⟩:=aq;split at h
   .rename_i bX;obtain⟨bX,hz⟩:=bX;split at h
    .rename_i key a7;have hk:=Vi a7 (ak i) QI;have bR:=Uf bX hk;have ae:=MR.keys bX h4.1;have qI:KV B vk vk.dflt z:=BA hz;have aF:U.mapAt id=some (es,clock,true):=by simp[Heap.mapAt,h3]
     have aM:=MR.find bX hk qI h4.1
     have base:∀ u,(match Qp (evV i) es with
      |some e=>some (if ok then Value.tuple #[e.2.1,.bool true] else e.2.1,U)
      |none=>some (if ok then .tuple #[z,.bool false] else z,U))=some (u,U)->Qb (.ext (.lookup mk z ok x i)) evV U=some (u,U):=λu hu=>by
      simp only[Qb,ZA,bR,zI,ha.1,h2,aF,ae];exact hu
     cases ok with
     |true =>
      simp only[zI] at h;obtain⟨rfl,rfl⟩:=Z8 h;rcases aM with⟨e,k1,k2,k3⟩|⟨k1,k2,k3⟩
      .refine⟨.tuple #[e.2.1,.bool true],base _ (by rw[k1];rfl),?_⟩;simp only[SR];refine⟨[e.2.1,.bool true],rfl,?_⟩;simp only[SRs,SR];exact⟨_,_,rfl,Xj k3,_,_,rfl,by simp[KC,k2],rfl⟩
      .refine⟨.tuple #[z,.bool false],base _ (by rw[k1];rfl),?_⟩;simp only[SR];refine⟨[z,.bool false],rfl,?_⟩;simp only[SRs,SR];exact⟨_,_,rfl,by rw[k3];exact Xj qI,_,_,rfl,by simp[KC,k2],rfl⟩
     |false =>
      simp only[zD,if_false] at h;obtain⟨rfl,rfl⟩:=Z8 h;rcases aM with⟨e,k1,k2,k3⟩|⟨k1,k2,k3⟩
      .exact⟨e.2.1,base _ (by rw[k1];rfl),Xj k3⟩
      .exact⟨z,base _ (by rw[k1];rfl),by rw[k3];exact Xj qI⟩
    .cases h
   .cases h
  .cases h
 .cases h
theorem Q23 (ak:∀ x,SR P B pl tb (ev x) (evV x)) {x:Operand}(aA:∀ d,OR P B pl tb U (pl d) (Qf own d)) (h:gq kt raw (.ext (.lenMap x)) ev own=some (cs,v)):QOk P B pl tb U (.ext (.lenMap x)) evV v:=by
 have ha:=ak x;simp only[gq] at h;split at h
 .rename_i o h1;rw[h1] at ha;simp only[SR] at ha;have aq:=aA o;split at h
  .rename_i kk vk m ho;rw[ho] at aq;obtain⟨id,es,clock,h2,h3,h4⟩:=aq;obtain⟨rfl,rfl⟩:=Z8 h;have aF:U.mapAt id=some (es,clock,true):=by simp[Heap.mapAt,h3]
   refine⟨.int .i64 es.length,by simp only[Qb,ZA,ha.1,h2,aF],?_⟩;rw[h4.1.length];exact XH _ _
  .cases h
 .cases h
theorem MR.at {kk vk:Kind}:∀ {m:List (kk.T×vk.T)}{es:List JD}{r:Nat}{e:JD},MR B kk vk m es->es[r]?=some e->∃ h:r<m.length,KV B kk m[r].1 e.1/\KV B vk m[r].2 e.2.1
 |[],es,r,e,h,he=>by simp only[MR] at h;subst h;simp at he
 |x::m,es,r,e,h,he=>by
  obtain⟨e',bV,rfl,h1,h2,h3⟩:=h;cases r with
  |zero=>simp only[List.getElem?_cons_zero,xi] at he;subst he;exact⟨by simp,h1,h2⟩
  |succ r =>obtain⟨k1,k2,k3⟩:=MR.at h3 (by simpa using he);exact⟨by simpa using k1,k2,k3⟩
theorem GJ:∀ {k:Kind},k.keyk=true->∀ {x:k.T}{cs:List Value},KC B k x cs->cs.all QM=true
 |.pair a b,hk,x,cs,h=>by simp only[Kind.keyk,z8] at hk;obtain⟨c1,c2,rfl,h1,h2⟩:=h;rw[List.all_append,GJ hk.1 h1,GJ hk.2 h2];rfl
 |.i _,_,x,cs,h=>by simp only[KC] at h;subst h;rfl
 |.bo,_,x,cs,h=>by simp only[KC] at h;subst h;rfl
 |.st,_,x,cs,h=>by simp only[KC] at h;subst h;rfl
 |.list _,hk,_,_,_=>by cases hk
theorem SI {k:Kind}(hk:k.keyk=true) {x:k.T}{v:Value}(h:KV B k x v):Vc v=true:=by
 rcases h with⟨ho,h⟩|⟨ho,cs,rfl,h⟩
 .have:=GJ hk h;rw[zZ,z8] at this;have hp:=this.1;cases v<;>first|exact hp|cases hp
 .show cs.toArray.toList.all QM=true;exact GJ hk h
theorem GF {es:List JD}{clock:Nat}(h:SOk es clock) {r r':Nat}{e e':JD}(h1:es[r]?=some e) (h2:es[r']?=some e') (he:e.2.2=e'.2.2):r=r':=by
 obtain⟨k1,rfl⟩:=zg.1 h1;obtain⟨k2,rfl⟩:=zg.1 h2;have:=h.1;rw[List.nodup_iff_pairwise_ne,List.pairwise_iff_getElem] at this;rcases Nat.lt_trichotomy r r' with ah|ah|ah
 .exact absurd (by rw[xw,xw];exact he) (this r r' (by simpa using k1) (by simpa using k2) ah)
 .exact ah
 .exact absurd (by rw[xw,xw];exact he.symm) (this r' r (by simpa using k2) (by simpa using k1) ah)
theorem EP {es:List JD}{clock:Nat}(h:SOk es clock) {r:Nat}{e:JD}(h1:es[r]?=some e):es.find? (λe'=>e'.2.2==e.2.2)=some e:=by
 obtain⟨k1,rfl⟩:=zg.1 h1;rw[List.find?_eq_some_iff_getElem];refine⟨by simp,r,k1,rfl,λj hj=>?_⟩;have cm:j<es.length:=by omega
 simp only[Bool.not_eq_true',wq];intro he;have:=GF h (z6 cm) h1 he;omega
theorem Q7d (ak:∀ x,SR P B pl tb (ev x) (evV x)) (hle:B.Le U) (aA:∀ d,OR P B pl tb U (pl d) (Qf own d)) {x:Operand}(h:gq kt raw (.ext (.entry x)) ev own=some (cs,v)) (hc:∀ c∈cs,c):QOk P B pl tb U (.ext (.entry x)) evV v:=by
 simp only[gq] at h;split at h
 .rename_i o f h1;split at h
  .rename_i kk vk m dn ho;split at h
   .rename_i aj;obtain⟨rfl,hk,hv⟩:=aj;obtain⟨rfl,rfl⟩:=Z8 h;have uc:dn≠[]:=hc _ (by simp);have e1:=ak x;rw[h1] at e1;simp only[SR] at e1;obtain⟨b,e2,e3⟩:=e1;have aq:=aA o;rw[ho] at aq;obtain⟨j,i,es,clock,wr,seen,h2,h3,h4,h5,h6⟩:=aq;rw[h2] at e2;obtain rfl:j=b:=by simpa using e2
    have bc:0<dn.length:=xB.2 uc;have dU:dn[dn.length-1]?=some (dn.getLastD 0):=by rw[List.getLastD_eq_getLast?,List.getLast?_eq_getElem?];rw[z6 (show dn.length-1<dn.length by omega)];rfl
    obtain⟨e,gP,eX⟩:=h6.2 _ _ dU;have gO:seen.getLast?=some e.2.2:=by rw[List.getLast?_eq_getElem?,h6.1];exact eX
    obtain⟨hr,k1,k2⟩:=MR.at h5.1 gP;have k2:=k2.kc hv;have aF:U.mapAt i=some (es,clock,wr):=by simp[Heap.mapAt,hle.2 _ _ h4]
    have cZ:=EP h5.2 gP;refine⟨.tuple #[e.1,e.2.1],?_,?_⟩
    .simp only[Qb,ZA,e3,h3,aF,gO,cZ,zI];rw[z7 (SI hk k1)]
    .simp only[SR,SRs];refine⟨[e.1,e.2.1],rfl,e.1,[e.2.1],rfl,?_,e.2.1,[],rfl,?_,rfl⟩
     .have:m.getD (dn.getLastD 0) (kk.dflt,vk.dflt)=m[dn.getLastD 0]:=by rw[zd,z6 hr];rfl
      rw[this];exact Xj k1
     .have:m.getD (dn.getLastD 0) (kk.dflt,vk.dflt)=m[dn.getLastD 0]:=by rw[zd,z6 hr];rfl
      rw[this];exact k2
   .cases h
  .cases h
 .cases h
theorem Ss (ak:∀ x,SR P B pl tb (ev x) (evV x)) (gC:∀ c,evV (.const c)=c) (hle:B.Le U) (aA:∀ d,OR P B pl tb U (pl d) (Qf own d)) {o:VOp}(h:gq kt raw o ev own=some (cs,v)) (hc:∀ c∈cs,c):QOk P B pl tb U o evV v:=by
 cases o with
 |move x=>obtain⟨rfl,rfl⟩:=Z8 h;exact⟨evV x,rfl,ak x⟩
 |arith=>exact Q6m ak h hc
 |div=>exact Z4n ak h hc
 |bits=>exact Z0c ak h
 |shift=>exact Q5n ak h hc
 |cmp=>exact Z2x ak h
 |str=>exact Z28 ak h hc
 |eqB=>exact Z2g ak h
 |un=>exact Z67 ak h hc
 |convI=>exact Q5r ak h hc
 |convS=>exact Q5t ak h
 |build=>exact Q7f ak h
 |load=>exact Z09 ak hle aA h
 |fieldAddr=>exact CB ak h
 |field=>exact Q64 ak h
 |indexAddr=>exact CV ak hle aA h hc
 |indexAddrArr=>exact Ty ak gC h
 |indexStr=>exact EH ak h hc
 |indexArr=>exact Fj ak gC h
 |slice=>exact Q63 ak hle aA h hc
 |sliceStr=>exact EM ak h hc
 |len=>exact Z2m ak aA h
 |lenStr=>exact Q0v ak h
 |max=>exact Z3u ak h
 |max4=>exact Q9l ak h
 |min=>exact Z2z ak h
 |makeFunc=>exact Er ak h
 |extract=>exact I_ ak h
 |nilCheck=>exact Eh ak h
 |ext x =>
  cases x with
  |eqNil k neg a b =>
   match k with
   |1=>exact Q5p ak aA h hc
   |0=>exact Q0n ak aA h hc
   |(n+2)=>cases h
  |eqAgg n s a b=>exact Q62 ak h
  |toUnsafe a=>exact F7 ak aA h
  |fromUnsafe u size a=>exact LM ak aA h
  |sliceData a=>exact Cl ak aA h hc
  |bytesStr a=>exact EK ak hle aA h
  |lookup=>exact Q1x ak hle aA h
  |lenMap=>exact Q23 ak aA h
  |entry a=>exact Q7d ak hle aA h hc
  |_=>cases h
 |_=>cases h
end
end
end Go.V
namespace Go.V
open Go
theorem Z65 {α:Type}{l:List α}(h:¬ l=[]) (b:Bool):(l.isEmpty&&b)=false:=by cases l with|nil=>exact absurd rfl h|cons _ _=>rfl
theorem Z4g {α:Type}{l:List α}(h:¬ l=[]):l.isEmpty=false:=by cases l with|nil=>exact absurd rfl h|cons _ _=>rfl
theorem VJ {c vs:List Value}{o:Nat}(h:o+vs.length<=c.length):Yi c o vs=c.take o++vs++c.drop (o+vs.length):=by
 apply x3;intro k;rcases zn k o with hk|hk
 .rw[Ye vs c o k (.inl hk),xh,xg (by simp;omega),zP,z7 hk]
 .rcases zn k (o+vs.length) with av|av
  .have:=RP vs c o (k-o) h (by omega);rw[show o+(k-o)=k by omega] at this;rw[this,xh,xm (by simp;omega),xg (by simp;omega)];congr 1;simp;omega
  .rw[Ye vs c o k (.inr av),xm (by simp;omega),zH];congr 1;simp;omega
theorem Q0m (us c:List Value) {m p n off:Nat}(h1:off+us.length<=n) (h2:p+n<=m) (h3:m<=c.length) :
  (Yi c (p+off) us).take m=(c.take m).take p++Yi (((c.take m).drop p).take n) off us++(c.take m).drop (p+n):=by
 have l1:(((c.take m).drop p).take n).length=n:=by simp;omega
 have df:∀ q,q<n->(((c.take m).drop p).take n)[q]?=c[p+q]?:=λq hq=>by rw[zP,z7 hq,zH,zP,z7 (by omega)]
 generalize ((c.take m).drop p).take n=row at l1 df;have l2:((c.take m).take p).length=p:=by simp;omega
 have l3:(Yi row off us).length=n:=by rw[Xb,l1]
 have g2:∀ q,q<p->((c.take m).take p)[q]?=c[q]?:=λq hq=>by rw[zP,z7 hq,zP,z7 (by omega)]
 generalize (c.take m).take p=pre at l2 g2;apply x3;intro j;rw[zP,xh];by_cases hj:j<m
 .rw[z7 hj];rcases zn j p with a1|a1
  .rw[Ye us c _ j (.inl (by omega)),xg (by omega),g2 j a1]
  .rw[xm (by omega),l2];rcases zn j (p+n) with a2|a2
   .rw[xg (by omega)];rcases zn (j-p) off with a3|a3
    .rw[Ye us c _ j (.inl (by omega)),Ye us _ _ _ (.inl a3),df _ (by omega)];congr 1;omega
    .rcases zn (j-p) (off+us.length) with a4|a4
     .have b1:=RP us c (p+off) (j-(p+off)) (by omega) (by omega);have b2:=RP us row off (j-(p+off)) (by omega) (by omega);rw[show p+off+(j-(p+off))=j by omega] at b1;rw[show off+(j-(p+off))=j-p by omega] at b2;rw[b1,b2]
     .rw[Ye us c _ j (.inr (by omega)),Ye us _ _ _ (.inr a4),df _ (by omega)];congr 1;omega
   .rw[Ye us c _ j (.inr (by omega)),xm (by omega),zH,zP,l3,z7 (by omega)];congr 1;omega
 .rw[z1 hj,xm (by omega),xm (by omega),zH,zP,z1 (by omega)]
theorem Heap.Le.push {B U:Heap}(h:B.Le U) (b:Blk):B.Le (U.push b) :=
 ⟨by have:=h.1;simp;omega,λi b' hb=>by rw[Heap.q0i _ _ (U.lt (h.2 i b' hb))];exact h.2 i b' hb⟩
theorem Heap.Le.upd {B U:Heap}(h:B.Le U) {i:Nat}(hi:B.get i=none) (b:Blk):B.Le (U.upd i b) :=
 ⟨by simpa using h.1,λj b' hb=>by
  have:j≠i:=λe=>by subst e;rw[hi] at hb;cases hb
  rw[Heap.q0b _ _ this];exact h.2 j b' hb⟩
theorem Heap.Le.kill {B U:Heap}(h:B.Le U) {i:Nat}(hi:B.get i=none):B.Le (U.kill i) :=
 ⟨by simpa using h.1,λj b' hb=>by
  have:j≠i:=λe=>by subst e;rw[hi] at hb;cases hb
  rw[Heap.q0d _ this];exact h.2 j b' hb⟩
theorem Heap.Le.fresh {B U:Heap}(h:B.Le U):B.get U.n=none:=B.wf _ h.1
section
variable {P:Program}{B F:Heap}{pl:Nat->Value}{tb:Nat->Option Bool}{s:St}{env:Env}{U:Heap}
theorem OR.q1d {p:Value}{b:OB}(h:OR P B pl tb U p b) (hl:b.live=true) {i:Nat}(hi:Oid p i):i<U.n:=by
 cases b with
 |dead=>cases hl
 |lst ty k xs nl =>
  rcases h with⟨_,_,rfl⟩|⟨_,i',cap,c,t,rfl,_,h3,_⟩
  .cases hi
  .obtain rfl:=osj hi;exact U.lt h3
 |cells l u=>obtain⟨i',c,e,t,rfl,h2,_⟩:=h;obtain rfl:=osj hi;exact U.lt h2
 |map kk vk m=>obtain⟨i',es,clock,rfl,h2,_⟩:=h;obtain rfl:=osj hi;exact U.lt h2
 |mapE kk vk m key n=>obtain⟨i',es,clock,r,e,rfl,h2,_⟩:=h;obtain rfl:=osj hi;exact U.lt h2
 |iter kk vk m dn=>obtain⟨j,i',es,clock,wr,seen,rfl,h2,_⟩:=h;obtain rfl:=osj hi;exact U.lt h2
 |lpf l q s=>obtain⟨rfl,_,h2⟩:=h;obtain rfl:=osj hi;exact U.lt (h2 hl)
 |deep ty q k xs nl hh =>obtain⟨is,hO,_,_,_,h4,_⟩:=h;obtain⟨b',cy⟩:=(hO i).1 hi;exact U.lt (h4 i b' cy)
 |stk l vals=>cases hl
theorem Gam.push (h:Gam P B F pl tb s env U) (d:Nat) (b:OB) (p:Value) (blk:Blk) (hp:oid p=some U.n) (hb:OR P B (JN pl d p) tb (U.push blk) p b):Gam P B F (JN pl d p) tb (s.make d b) env (U.push blk):=by
 refine h.make d b p (h.le.push blk) (λj i hj hl hi=>?_) hb (λi _ hi=>?_)
 .exact Heap.q0i _ _ ((h.obj j).q1d hl hi)
 .obtain rfl:=OT hp hi;exact⟨h.le.fresh,λj _ hl e=>by have:=(h.obj j).q1d hl e;omega⟩
theorem Rows.cellOk {k:Kind}{xs:List k.T}{cs:List Value}(h:Rows (KC B k) xs cs):cs.all Go.V.cellOk=true:=by
 induction h with
 |nil=>rfl
 |cons h _ ih=>rw[List.all_append,KC.cellOk h,ih];rfl
theorem Be {pl:Nat->Value}:∀ {k:Kind}{off:Nat}{v:SV}{u:Value}{x y:k.T}{row:List Value},Q94 k off v x=some y->KC B k x row->SR P B pl tb v u->off<k.size->KC B k y (Yi row off [u])
 |.pair a b,off,v,u,x,y,row,h,hr,hv,ho=>by
  obtain⟨c1,c2,rfl,h1,h2⟩:=hr;have l1:=KC.length h1;have l2:=KC.length h2;simp only[Q94] at h;simp only[Yi];cases hb:Nat.blt off a.size with
  |true =>
   rw[hb] at h;simp only[zm,zw] at h;obtain⟨z,h3,rfl⟩:=h;have bg:off<a.size:=by simpa [zR] using hb
   have:=Be h3 h1 hv bg;exact⟨c1.set off u,c2,by rw[List.set_append_left _ _ (by omega)],this,h2⟩
  |false =>
   rw[hb] at h;simp only[zW,zw] at h;obtain⟨z,h3,rfl⟩:=h;have bg:¬ off<a.size:=by intro ah;rw[show Nat.blt off a.size=true by rw[zR];exact ah] at hb;cases hb
   simp only[Kind.size] at ho;have:=Be h3 h2 hv (by omega);refine⟨c1,c2.set (off-a.size) u,?_,h1,this⟩;rw[List.set_append_right _ _ (by omega),l1]
 |.i ik,off,v,u,x,y,row,h,hr,hv,ho=>by
  have:=QI (k:=.i ik) h (show SRs P B pl tb [v] [u] by simp only[SRs];exact⟨_,[],rfl,hv,rfl⟩);have hl:=KC.length hr;simp only[Kind.size] at hl ho;obtain⟨c,rfl⟩:=x9.1 hl;obtain rfl:off=0:=by omega
  exact this
 |.bo,off,v,u,x,y,row,h,hr,hv,ho=>by
  have:=QI (k:=.bo) h (show SRs P B pl tb [v] [u] by simp only[SRs];exact⟨_,[],rfl,hv,rfl⟩);have hl:=KC.length hr;simp only[Kind.size] at hl ho;obtain⟨c,rfl⟩:=x9.1 hl;obtain rfl:off=0:=by omega
  exact this
 |.st,off,v,u,x,y,row,h,hr,hv,ho=>by
  have:=QI (k:=.st) h (show SRs P B pl tb [v] [u] by simp only[SRs];exact⟨_,[],rfl,hv,rfl⟩);have hl:=KC.length hr;simp only[Kind.size] at hl ho;obtain⟨c,rfl⟩:=x9.1 hl;obtain rfl:off=0:=by omega
  exact this
 |.list k,off,v,u,x,y,row,h,hr,hv,ho=>by
  have:=QI (k:=.list k) h (show SRs P B pl tb [v] [u] by simp only[SRs];exact⟨_,[],rfl,hv,rfl⟩);have hl:=KC.length hr;simp only[Kind.size] at hl ho;obtain⟨c,rfl⟩:=x9.1 hl;obtain rfl:off=0:=by omega
  exact this
theorem M8 {mk:MK}{kk vk:Kind}(hk:gq.mkOk mk kk=true) {key:kk.T}{x:vk.T}{kv xv:Value}{clock:Nat}(a7:KV B kk key kv) (hx:KV B vk x xv):∀ {m:List (kk.T×vk.T)}{es:List JD},MR B kk vk m es->MR B kk vk (Uo kk m key x) (QC kv xv clock es).1
 |[],es,h=>by simp only[MR] at h;subst h;exact⟨_,[],rfl,a7,hx,rfl⟩
 |m::ms,es,h=>by
  obtain⟨e,bV,rfl,h2,h3,h4⟩:=h;have hq:=GG hk a7 h2;simp only[QC,Uo,hq];cases gq.keq kk key m.1 with
  |true=>exact⟨_,bV,rfl,a7,hx,h4⟩
  |false=>exact⟨e,_,rfl,h2,h3,M8 hk a7 hx h4⟩
theorem De (k v:Value) (clock:Nat):∀ es:List JD,((QC k v clock es).2=clock/\(QC k v clock es).1.map (λe=>e.2.2)=es.map λe=>e.2.2)\/((QC k v clock es).2=clock+1/\(QC k v clock es).1.map (λe=>e.2.2)=(es.map λe=>e.2.2)++[clock])
 |[]=>.inr ⟨rfl,rfl⟩
 |e::es=>by
  simp only[QC];split
  .exact .inl ⟨rfl,rfl⟩
  .rcases De k v clock es with⟨h1,h2⟩|⟨h1,h2⟩
   .exact .inl ⟨h1,by simp[h2]⟩
   .exact .inr ⟨h1,by simp[h2]⟩
theorem SOk.put {es:List JD}{clock:Nat}(h:SOk es clock) {k v:Value}:SOk (QC k v clock es).1 (QC k v clock es).2:=by
 obtain⟨h1,h2⟩:=h;have mem:∀ (l:List JD) (x:Nat),x∈l.map (λe=>e.2.2)<->∃ e∈l,e.2.2=x:=λl x=>by simp
 rcases De k v clock es with⟨e1,e2⟩|⟨e1,e2⟩
 .refine⟨by rw[e2];exact h1,λe he=>?_⟩;have:e.2.2∈es.map λe=>e.2.2:=by rw[<-e2];exact(mem _ _).2 ⟨e,he,rfl⟩
  obtain⟨e',k1,k2⟩:=(mem _ _).1 this;rw[e1,<-k2];exact h2 e' k1
 .refine⟨?_,λe he=>?_⟩
  .rw[e2,List.nodup_append];refine⟨h1,by simp,λa ha b hb=>?_⟩;obtain rfl:=zh.1 hb;obtain⟨e',k1,k2⟩:=(mem _ _).1 ha;have:=h2 e' k1;omega
  .have:e.2.2∈(es.map λe=>e.2.2)++[clock]:=by rw[<-e2];exact(mem _ _).2 ⟨e,he,rfl⟩
   rw[e1];rcases zF.1 this with h3|h3
   .obtain⟨e',k1,k2⟩:=(mem _ _).1 h3;have:=h2 e' k1;omega
   .have:=zh.1 h3;omega
theorem Re {mk:MK}{kk vk:Kind}(hk:gq.mkOk mk kk=true) {key:kk.T}{kv:Value}(a7:KV B kk key kv):∀ {m:List (kk.T×vk.T)}{es:List JD},MR B kk vk m es->MR B kk vk (Q0e kk m key) (KI kv es)
 |[],es,h=>by simp only[MR] at h;subst h;rfl
 |m::ms,es,h=>by
  obtain⟨e,bV,rfl,h2,h3,h4⟩:=h;have hq:=GG hk a7 h2;simp only[KI,Q0e,hq];cases gq.keq kk key m.1 with
  |true=>exact h4
  |false=>exact⟨e,_,rfl,h2,h3,Re hk a7 h4⟩
theorem B5 (k:Value):∀ es:List JD,(KI k es).Sublist es
 |[]=>.slnil
 |e::es=>by
  simp only[KI];split
  .exact List.sublist_cons_self _ _
  .exact(B5 k es).cons_cons _
theorem SOk.del {es:List JD}{clock:Nat}(h:SOk es clock) {k:Value}:SOk (KI k es) clock :=
 ⟨h.1.sublist ((B5 k es).map _),λe he=>h.2 e ((B5 k es).subset he)⟩
def Fr (T:Nat) (s s':St) (pl pl':Nat->Value) (U U':Heap):Prop :=
 ∀ q,q≠T->(Qf s'.own q).live=(Qf s.own q).live/\pl' q=pl q/\((Qf s.own q).live=true->∀ i,Oid (pl q) i->U'.get i=U.get i)
theorem VK (s:St) (d:Nat) (b:OB) {q:Nat}(hq:q≠d):(Qf (s.make d b).own q).live=(Qf s.own q).live:=by simp only[St.make,St.kill,Qz,Vl,z1 hq,OB.q0s]
theorem Gam.makeF {s:St}{env:Env}{U U':Heap}{pl:Nat->Value}(h:Gam P B F pl tb s env U) (d:Nat) (b:OB) (p:Value) (hle:F.Le U') (ho:∀ j i,j≠d->(Qf s.own j).live=true->Oid (pl j) i->U'.get i=U.get i)
  (hb:OR P B (JN pl d p) tb U' p b) (hf:∀ i,b.live=true->Oid p i->F.get i=none/\∀ j,j≠d->(Qf s.own j).live=true->¬ Oid (pl j) i):Gam P B F (JN pl d p) tb (s.make d b) env U'/\Fr d s (s.make d b) pl (JN pl d p) U U' :=
 ⟨h.make d b p hle ho hb hf,λq hq=>⟨VK s d b hq,by simp[JN,hq],λhl i hi=>ho q i hq hl hi⟩⟩
theorem Gam.writeF {s:St}{env:Env}{U U':Heap}{pl:Nat->Value}(h:Gam P B F pl tb s env U) (d:Nat) (b:OB) (hle:F.Le U') (ao:(Qf s.own d).live=true)
  (cR:∀ j i,j≠d->(Qf s.own j).live=true->Oid (pl j) i->U'.get i=U.get i) (hb:OR P B pl tb U' (pl d) b):Gam P B F pl tb ⟨s.env,oset s.own d b,s.nx⟩ env U'/\Fr d s ⟨s.env,oset s.own d b,s.nx⟩ pl pl U U' :=
 ⟨h.write d b hle ao cR hb,λq hq=>⟨by simp only[Qz,z1 hq],rfl,λhl i hi=>cR q i hq hl hi⟩⟩
theorem Gam.pushF {s:St}{env:Env}{U:Heap}{pl:Nat->Value}(h:Gam P B F pl tb s env U) (d:Nat) (b:OB) (p:Value) (blk:Blk) (hp:oid p=some U.n) (hb:OR P B (JN pl d p) tb (U.push blk) p b):Gam P B F (JN pl d p) tb (s.make d b) env (U.push blk)/\Fr d s (s.make d b) pl (JN pl d p) U (U.push blk) :=
 ⟨h.push d b p blk hp hb,λq hq=>⟨VK s d b hq,by simp[JN,hq],λhl i hi=>Heap.q0i _ _ ((h.obj q).q1d hl hi)⟩⟩
def NOk (P:Program) (B F:Heap) (tb:Nat->Option Bool) (o:VOp) (evV:Operand->Value) (env:Env) (U:Heap) (K:SV->St->Prop) (T:Nat) (s:St) (pl:Nat->Value):Prop :=
 ∃ u U' pl' v s',Qb o evV U=some (u,U')/\K v s'/\(Gam P B F pl' tb s' env U'/\Fr T s s' pl pl' U U')/\SR P B pl' tb v u
theorem Wt (pl:Nat->Value) (d:Nat) (p:Value):JN pl d p d=p:=by simp[JN]
section
variable {C:Cx}{d:Nat}{ev:Operand->SV}{evV:Operand->Value}{K:SV->St->Prop}
theorem OG (ak:∀ x,SR P B pl tb (ev x) (evV x)) (hG:Gam P B F pl tb s env U) {t:Nat}{z:List Value}(h:gn C d (.alloc t z) ev s K):NOk P B F tb (.alloc t z) evV env U K (QY d (.alloc t z) ev) s pl:=by
 have _hev:=ak;simp only[gn] at h;refine⟨.pointer (some ⟨U.n,0,none⟩),_,JN pl d (.pointer (some ⟨U.n,0,none⟩)),_,_,rfl,h,hG.pushF d _ _ _ rfl ?_,?_⟩
 .refine⟨U.n,z,_,_,rfl,Heap.q0a _ _,?_,λy hy=>⟨osj hy,rfl⟩⟩;have hz:SRs P B (JN pl d (.pointer (some ⟨U.n,0,none⟩))) tb (z.map cvp) (z.map id):=SRs.map λx _=>GX x
  rwa [List.map_id] at hz
 .simp only[SR,Wt];exact⟨_,rfl,rfl⟩
theorem Q9r (ak:∀ x,SR P B pl tb (ev x) (evV x)) (hG:Gam P B F pl tb s env U) {t:Nat}{x:Operand}(h:gn C d (.box t x) ev s K):NOk P B F tb (.box t x) evV env U K (QY d (.box t x) ev) s pl:=by
 simp only[gn] at h;split at h
 .rename_i l hl;obtain⟨c,h1,h2,_⟩:=Yk hl (ak x);refine⟨.pointer (some ⟨U.n,0,none⟩),U.push (.cells c ⟨c.length,t⟩ true true),JN pl d (.pointer (some ⟨U.n,0,none⟩)),_,_,by simp only[Qb,h1],h,hG.pushF d _ _ _ rfl ?_,?_⟩
  .exact⟨U.n,c,_,_,rfl,Heap.q0a _ _,SRs.upd (Heap.Le.refl B) (λ_ _ h=>h) (λj hj=>by simp[JN,hj]) _ _ h2,λy hy=>⟨osj hy,rfl⟩⟩
  .simp only[SR,Wt];exact⟨_,rfl,rfl⟩
 .cases h
theorem BE (ak:∀ x,SR P B pl tb (ev x) (evV x)) {k:Kind}:∀ {ps:List (Nat×Operand)}{xs ys:List k.T}{c:List Value},SQ k ev ps xs=some ys->Rows (KC B k) xs c ->
  ys.length=xs.length/\∃ c',NK c (ps.map λp=>(p.1*k.size,k.size,evV p.2))=some c'/\Rows (KC B k) ys c'
 |[],xs,ys,c,h,hr=>by obtain rfl:=osj h;exact⟨rfl,c,rfl,hr⟩
 |(j,x)::r,xs,ys,c,h,hr=>by
  simp only[SQ] at h;split at h
  .rename_i l hl;split at h
   .rename_i y hy;split at h
    .rename_i hj;obtain⟨vs,h1,h2,_⟩:=Yk hl (ak x);have hk:=QI hy h2;have hlen:=KC.length hk;have cq:=hr.length KC.q0h;have cm:(j+1)*k.size<=xs.length*k.size:=zx _ hj;rw[zO,xJ] at cm;have aW:=hr.set KC.q0h hj hk;have e:Yi c (j*k.size) vs=c.take (j*k.size)++vs++c.drop (j*k.size+k.size):=by
      rw[VJ (by omega),hlen]
     rw[<-e] at aW;obtain⟨h3,c',h4,h5⟩:=BE ak h aW;refine⟨by rw[h3,xQ],c',?_,h5⟩;simp only[zG,NK,h1];rw[z7 ⟨hlen,by omega⟩];exact h4
    .cases h
   .cases h
  .cases h
theorem NU (ak:∀ x,SR P B pl tb (ev x) (evV x)) (hG:Gam P B F pl tb s env U) {e:El}{z:List Value}{n:Nat}{ps:List (Nat×Operand)}(h:gn C d (.buildSlice e z n ps) ev s K):NOk P B F tb (.buildSlice e z n ps) evV env U K (QY d (.buildSlice e z n ps) ev) s pl:=by
 simp only[gn] at h;split at h
 .rename_i k _;split at h
  .rename_i hc;obtain⟨aG,hz⟩:=hc;split at h
   .rename_i xs hx;have qJ:KC B k k.dflt z:=Yv hz;have df:Rows (KC B k) (List.replicate n k.dflt) (H9 n z):=by rw[Vq];exact Rows.replicate qJ n
    obtain⟨h3,c',h4,h5⟩:=BE (B:=B) ak hx df;rw[xK] at h3;have cq:=h5.length KC.q0h;refine⟨.slice (some ⟨U.n,0,none⟩) n n,U.push (.cells c' e true true),JN pl d (.slice (some ⟨U.n,0,none⟩) n n),_,_,?_,h,hG.pushF d _ _ _ rfl ?_,?_⟩
    .simp only[Qb];rw[<-aG,h4]
    .refine .inr ⟨rfl,U.n,n,c',true,by rw[h3],by omega,?_,by rw[cq,h3];exact ze _,?_⟩
     .rw[Heap.q0a,aG]
     .rw[zN (by omega)];exact h5
    .simp only[SR,Wt];exact⟨trivial,_,_,_,rfl⟩
   .cases h
  .cases h
 .cases h
theorem Pt (ak:∀ x,SR P B pl tb (ev x) (evV x)) (hG:Gam P B F pl tb s env U) {e:El}{bytes:Nat}{z:List Value}{l c:Operand}(h:gn C d (.makeSlice e bytes z l c) ev s K):NOk P B F tb (.makeSlice e bytes z l c) evV env U K (QY d (.makeSlice e bytes z l c) ev) s pl:=by
 simp only[gn] at h;split at h
 .rename_i k k1 a k2 b _ h1 h2;have e1:=Jq h1 (ak l);have e2:=Jq h2 (ak c);split at h
  .rename_i hc;obtain⟨aG,hz⟩:=hc;simp only[Cc,Q7s] at h;obtain⟨k3,k4,k5,k6,h⟩:=h;have qJ:KC B k k.dflt z:=Yv hz;have df:Rows (KC B k) (List.replicate b.toNat k.dflt) (H9 b.toNat z):=by rw[Vq];exact Rows.replicate qJ _
   have cq:=df.length KC.q0h;rw[xK] at cq;have ht:=df.take KC.q0h a.toNat;rw[List.take_replicate,wj (by omega)] at ht;refine⟨.slice (some ⟨U.n,0,none⟩) a.toNat b.toNat,U.push (.cells (H9 b.toNat z) e true true),JN pl d (.slice (some ⟨U.n,0,none⟩) a.toNat b.toNat),_,_,?_,h,hG.pushF d _ _ _ rfl ?_,?_⟩
   .simp only[Qb,e1,e2];rw[z7 ⟨k3,k4,by simpa using k5,by simpa using k6⟩]
   .refine .inr ⟨rfl,U.n,b.toNat,_,true,by rw[xK],by simp;omega,?_,by rw[cq];exact ze _,?_⟩
    .rw[Heap.q0a,aG]
    .rw[xK];exact ht
   .simp only[SR,Wt];exact⟨trivial,_,_,_,rfl⟩
  .cases h
 .cases h
theorem E7 (ak:∀ x,SR P B pl tb (ev x) (evV x)) (hG:Gam P B F pl tb s env U) {e:El}{bytes:Nat}{x y:Operand}(h:gn C d (.append e bytes x y) ev s K):NOk P B F tb (.append e bytes x y) evV env U K (QY d (.append e bytes x y) ev) s pl:=by
 have ha:=ak x;simp only[gn] at h;split at h
 .rename_i k _;split at h
  .rename_i ys hy;obtain⟨cs,ay,ud,aC,dg,r9⟩:=(VC hG.leB hG.obj hy (ak y)).sl;have ai:cs.all cellOk=true:=dg.cellOk;have cq:=dg.length KC.q0h;split at h
   .rename_i hx;have hT:QY d (.append e bytes x y) ev=d:=by simp only[QY,hx]
    rw[hT];rw[hx] at ha;simp only[SR] at ha;split at h
    .rename_i aG;simp only[Cc,Q7s] at h;obtain⟨h1,h⟩:=h;rw[aG] at aC;have base:Qb (.append e bytes x y) evV U=Yz e bytes U (.slice none 0 0) ys.length cs:=by
      simp only[Qb,r9] at aC |-;simp only[aC,ai,zI,ha]
     by_cases hm:ys=[]
     .subst hm;refine⟨.slice none 0 0,U,JN pl d (.slice none 0 0),_,_,by rw[base];rfl,h,?_,?_⟩
      .refine hG.makeF d _ _ hG.le (λj i _ _ _=>rfl) (.inl ⟨rfl,rfl,rfl⟩) λi _ hi=>by cases hi
      .simp only[SR,Wt];exact⟨trivial,_,_,_,rfl⟩
     .have eJ:ys.length≠0:=λe=>hm (zQ.1 e);refine⟨.slice (some ⟨U.n,0,none⟩) ys.length ys.length,U.push (.cells cs e true false),JN pl d (.slice (some ⟨U.n,0,none⟩) ys.length ys.length),_,_,?_,h,hG.pushF d _ _ _ rfl ?_,?_⟩
      .rw[base];simp only[Yz];rw[z1 eJ,z7 (by simpa using h1)]
      .refine .inr ⟨Z4g hm,U.n,ys.length,cs,false,rfl,ze _,?_,by omega,?_⟩
       .rw[Heap.q0a,aG]
       .rw[zN (by omega)];exact dg
      .simp only[SR,Wt];exact⟨trivial,_,_,_,rfl⟩
    .cases h
   .rename_i o hx;have hT:QY d (.append e bytes x y) ev=o:=by simp only[QY,hx]
    rw[hT];rw[hx] at ha;simp only[SR] at ha;have aq:=hG.obj o;split at h
    .rename_i ty k' xs nl ho;rw[ho] at aq;have ao:(Qf s.own o).live=true:=by rw[ho];rfl
     split at h
     .rename_i aG;obtain⟨kz,aG⟩:=aG;split at h
      .rename_i cL kU;obtain rfl:=W0 kU;obtain rfl:=X_ kU;simp only[Cc,Q7s] at h;obtain⟨h1,h⟩:=h;rw[aG] at aC;have base:Qb (.append e bytes x y) evV U=Yz e bytes U (pl o) ys.length cs:=by
        simp only[Qb,r9] at aC |-;simp only[aC,ai,zI,ha.1]
       have he:e=⟨k'.size,ty⟩:=by cases e;simp only at kz aG;rw[kz,aG]
       rcases aq with⟨rfl,rfl,h3⟩|⟨rfl,i,cap,c,t,h3,h4,h5,h6,h7⟩
       .
        rw[h3] at base;by_cases hm:ys=[]
        .subst hm;refine⟨.slice none 0 0,U,JN pl o (.slice none 0 0),_,_,by rw[base];rfl,h,?_,?_⟩
         .refine hG.makeF o _ _ hG.le (λj i _ _ _=>rfl) (.inl ⟨rfl,rfl,rfl⟩) λi _ hi=>by cases hi
         .simp only[SR,Wt];exact⟨trivial,_,_,_,rfl⟩
        .have eJ:ys.length≠0:=λe=>hm (zQ.1 e);refine⟨.slice (some ⟨U.n,0,none⟩) ys.length ys.length,U.push (.cells cs e true false),JN pl o (.slice (some ⟨U.n,0,none⟩) ys.length ys.length),_,_,?_,h,hG.pushF o _ _ _ rfl ?_,?_⟩
         .rw[base];simp only[Yz];rw[z1 eJ,z7 (by simpa using h1)]
         .rw[xk];refine .inr ⟨Z65 hm _,U.n,ys.length,cs,false,rfl,ze _,?_,by omega,?_⟩
          .rw[Heap.q0a,he]
          .rw[zN (by omega)];exact dg
         .simp only[SR,Wt];exact⟨trivial,_,_,_,rfl⟩
       .rw[h3] at base;have k1:cL.length*k'.size<=cap*k'.size:=zx _ h4;have bn:F.get i=none:=hG.fresh o i ao (by rw[h3];rfl);have a_:∀ j i',j≠o->(Qf s.own j).live=true->Oid (pl j) i'->i'≠i:=λj i' hj hl hi e=>by
         subst e;exact hG.sep j o i' hj hl ao hi (by rw[h3];rfl)
        have aj:e=e/\cL.length<=cap/\0+cL.length*e.sz<=c.length:=⟨rfl,h4,by rw[<-aG];omega⟩;simp only[Yz,h5] at base;rw[<-he,z7 aj] at base;by_cases hm:ys=[]
        .subst hm;simp only[List.length_nil,zI] at base;refine⟨_,U,JN pl o (pl o),_,_,base,h,?_,?_⟩
         .refine hG.makeF o _ _ hG.le (λj i _ _ _=>rfl) (.inr ⟨rfl,i,cap,c,t,?_,?_,h5,h6,?_⟩) λi' _ hi=>?_
          .rw[h3];simp
          .simpa using h4
          .simpa using h7
          .rw[h3] at hi;obtain rfl:=osj hi;exact⟨bn,λj hj hl e=>a_ j _ hj hl e rfl⟩
         .simp only[SR,Wt,h3];exact⟨trivial,_,_,_,rfl⟩
        .have eJ:ys.length≠0:=λe=>hm (zQ.1 e);have jO:(ys.isEmpty&&false)=false:=by simp
         have pD:Rows (KC B k') (cL++ys) (c.take (cL.length*k'.size)++cs):=h7.append dg;have dp:=pD.length KC.q0h;rw[z1 eJ] at base;by_cases aZ:cL.length+ys.length<=cap
         .have fU:(cL.length+ys.length)*k'.size<=cap*k'.size:=zx _ aZ;have dY:cL.length*k'.size+ys.length*k'.size<=cap*k'.size:=by rw[<-zO];exact fU
          rw[z7 aZ,z7 ⟨trivial,by rw[<-aG];omega⟩] at base;refine⟨_,_,JN pl o (.slice (some ⟨i,0,none⟩) (cL.length+ys.length) cap),_,_,base,h,?_,?_⟩
          .refine hG.makeF o _ _ (hG.le.upd bn _) (λj i' hj hl hi=>Heap.q0b _ _ (a_ j i' hj hl hi)) (.inr ⟨jO,i,cap,Yi c (0+cL.length*e.sz) cs,t,by rw[zJ],by rw[zJ];exact aZ,?_,?_,?_⟩) λi' _ hi=>?_
           .rw[Heap.q0c _ _ (U.lt h5),he]
           .rw[Xb];exact h6
           .have eU:0+cL.length*e.sz+cs.length<=c.length:=by rw[<-aG];omega
            rw[VJ eU,<-aG,xl,List.take_left' (by rw[dp])];exact pD
           .obtain rfl:=osj hi;exact⟨bn,λj hj hl e=>a_ j _ hj hl e rfl⟩
          .simp only[SR,Wt];exact⟨trivial,_,_,_,rfl⟩
         .rw[z1 aZ,z7 (by simpa using h1)] at base;have jV:((c.drop 0).take (cL.length*e.sz)++cs)=c.take (cL.length*k'.size)++cs:=by rw[x8,aG]
          cases t with
          |true =>
           simp only[zI] at base;rw[jV] at base;refine⟨_,_,JN pl o (.slice (some ⟨U.n,0,none⟩) (cL.length+ys.length) (cL.length+ys.length)),_,_,base,h,hG.pushF o _ _ _ rfl (.inr ⟨jO,U.n,cL.length+ys.length,c.take (cL.length*k'.size)++cs,false,by rw[zJ],by rw[zJ];exact ze _,?_,?_,?_⟩),?_⟩
           .rw[Heap.q0a,he]
           .rw[dp,zJ];exact ze _
           .rw[zN (by rw[dp];exact ze _)];exact pD
           .simp only[SR,Wt];exact⟨trivial,_,_,_,rfl⟩
          |false =>
           simp only[zD,if_false,zI] at base;rw[jV] at base;have hn:(U.kill i).n=U.n:=rfl;refine⟨_,_,JN pl o (.slice (some ⟨U.n,0,none⟩) (cL.length+ys.length) (cL.length+ys.length)),_,_,base,h,?_,?_⟩
           .refine hG.makeF o _ _ ((hG.le.kill bn).push _) (λj i' hj hl hi=>?_) (.inr ⟨jO,U.n,cL.length+ys.length,c.take (cL.length*k'.size)++cs,false,by rw[zJ],by rw[zJ];exact ze _,?_,?_,?_⟩) λi' _ hi=>?_
            .rw[Heap.q0i _ _ (by rw[hn];exact(hG.obj j).q1d hl hi)];exact Heap.q0d _ (a_ j i' hj hl hi)
            .rw[<-hn,Heap.q0a,he]
            .rw[dp,zJ];exact ze _
            .rw[zN (by rw[dp];exact ze _)];exact pD
            .obtain rfl:=osj hi;exact⟨hG.le.fresh,λj _ hl e=>wD U.n ((hG.obj j).q1d hl e)⟩
           .simp only[SR,Wt];exact⟨trivial,_,_,_,rfl⟩
      .cases h
     .cases h
    .cases h
   .cases h
  .cases h
 .cases h
theorem Iy (ak:∀ x,SR P B pl tb (ev x) (evV x)) (hG:Gam P B F pl tb s env U) {size:Nat}{a x:Operand}(h:gn C d (.store size a x) ev s K):NOk P B F tb (.store size a x) evV env U K (QY d (.store size a x) ev) s pl:=by
 have ha:=ak a;simp only[gn] at h;split at h
 .rename_i o off vs h1 h2;have hT:QY d (.store size a x) ev=o:=by simp only[QY,h1]
  rw[hT];obtain⟨us,h3,h4,h5⟩:=Yk h2 (ak x);rw[h1] at ha;simp only[SR] at ha;obtain⟨b,h6,h7⟩:=ha;have aq:=hG.obj o;split at h
  .rename_i l u ho;rw[ho] at aq;have ao:(Qf s.own o).live=true:=by rw[ho];rfl
   obtain⟨i,c,e,t,h8,h9,b7,hU⟩:=aq;rw[h6] at h8;obtain rfl:=(by simpa using h8:b=i);split at h
   .rename_i hc;have bn:F.get b=none:=hG.fresh o b ao (by rw[h6];rfl);have a_:∀ j i',j≠o->(Qf s.own j).live=true->Oid (pl j) i'->i'≠b:=λj i' hj hl hi e=>by
     subst e;exact hG.sep j o i' hj hl ao hi (by rw[h6];rfl)
    refine⟨undef,U.upd b (.cells (Yi c off us) e true t),pl,_,_,?_,h,hG.writeF o _ (hG.le.upd bn _) ao (λj i' hj hl hi=>Heap.q0b _ _ (a_ j i' hj hl hi)) ?_,by simp[SR]⟩
    .simp only[Qb,h7,h3,h9];rw[z7 ⟨trivial,by rw[<-h4.length];exact hc.1,by rw[<-b7.length];exact hc.2,h5⟩]
    .exact⟨b,_,e,t,h6,Heap.q0c _ _ (U.lt h9),Bk b7 h4,hU⟩
   .cases h
  .cases h
 .rename_i o i off sz vs h1 h2;have hT:QY d (.store size a x) ev=o:=by simp only[QY,h1]
  rw[hT];obtain⟨us,h3,h4,h5⟩:=Yk h2 (ak x);rw[h1] at ha;simp only[SR] at ha;obtain⟨b,len,cap,h6,h7,h8,h9⟩:=ha;have aq:=hG.obj o;split at h
  .rename_i ty k xs nl ho;rw[ho] at aq;have ao:(Qf s.own o).live=true:=by rw[ho];rfl
   rcases aq with⟨_,_,k3⟩|⟨rfl,i',aw,c,t,k3,k4,k5,k6,k7⟩
   .rw[h6] at k3;cases k3
   .rw[h6] at k3;obtain⟨rfl,rfl,rfl⟩:=(by simpa using k3:b=i'/\len=xs.length/\cap=aw);have bn:F.get b=none:=hG.fresh o b ao (by rw[h6];rfl);have a_:∀ j i',j≠o->(Qf s.own j).live=true->Oid (pl j) i'->i'≠b:=λj i' hj hl hi e=>by
     subst e;exact hG.sep j o i' hj hl ao hi (by rw[h6];rfl)
    have hi:i.toNat<xs.length:=by omega
    have aG:(i.toNat+1)*k.size<=xs.length*k.size:=zx _ hi;rw[zO,xJ] at aG;have k8:=zx k.size k4
    have fin:∀ (y:k.T) (us:List Value) (dF:Nat),dF+us.length<=k.size->KC B k y (Yi (((c.take (xs.length*k.size)).drop (i.toNat*k.size)).take k.size) dF us) ->
      Gam P B F pl tb ⟨s.env,oset s.own o (.lst ty k (xs.set i.toNat y) false),s.nx⟩ env (U.upd b (.cells (Yi c (i.toNat*k.size+dF) us) ⟨k.size,ty⟩ true t))/\Fr o s ⟨s.env,oset s.own o (.lst ty k (xs.set i.toNat y) false),s.nx⟩ pl pl U (U.upd b (.cells (Yi c (i.toNat*k.size+dF) us) ⟨k.size,ty⟩ true t)):=by
     intro y us dF oo hk;refine hG.writeF o _ (hG.le.upd bn _) ao (λj i' hj hl hi=>Heap.q0b _ _ (a_ j i' hj hl hi)) (.inr ⟨rfl,b,cap,Yi c (i.toNat*k.size+dF) us,t,by rw[h6];simp,by simpa using k4,Heap.q0c _ _ (U.lt k5),by rw[Xb];exact k6,?_⟩);have aW:=k7.set KC.q0h hi hk;rw[xQ];rw[Q0m us c (m:=xs.length*k.size) (p:=i.toNat*k.size) (n:=k.size) (off:=dF) oo aG (by omega)];exact aW
    have df:=k7.at KC.q0h hi;have dp:=KC.length df;split at h
    .rename_i hc;obtain⟨rfl,rfl,rfl⟩:=hc;split at h
     .rename_i y hy;have hk:=QI hy h4;have hl:=KC.length hk;refine⟨undef,U.upd b (.cells (Yi c (i.toNat*k.size+0) us) ⟨k.size,ty⟩ true t),pl,_,_,?_,h,fin y us 0 (by omega) ?_,by simp[SR]⟩
      .simp only[Qb,h9,h3,k5];rw[z7 ⟨trivial,hl,by omega,h5⟩]
      .rw[VJ (by omega),xl,wk,xk,List.drop_of_length_le (by omega),xL];exact hk
     .cases h
    .split at h
     .rename_i hc;obtain⟨rfl,r_,rfl,bg⟩:=hc;split at h
      .rename_i y hy;obtain⟨v0,rfl⟩:∃ v0,vs=[v0]:=by
        cases vs with
        |nil=>cases r_
        |cons a r=>cases r with
         |nil=>exact⟨a,rfl⟩
         |cons _ _=>simp at r_
       obtain⟨u0,rfl,uf⟩:=h4.one;have hx:xs.getD i.toNat k.dflt=xs[i.toNat]:=by simp[zd,z6 hi]
       rw[hx] at hy;refine⟨undef,U.upd b (.cells (Yi c (i.toNat*k.size+off) [u0]) ⟨k.size,ty⟩ true t),pl,_,_,?_,h,fin y [u0] off (by simp;omega) (Be hy df uf bg),by simp[SR]⟩;simp only[Qb,h9,h3,k5];rw[z7 ⟨trivial,rfl,by omega,h5⟩]
      .cases h
     .cases h
  .cases h
 .cases h
theorem Po (ak:∀ x,SR P B pl tb (ev x) (evV x)) (hG:Gam P B F pl tb s env U) {mk:MK}{m kx vx:Operand}(h:gn C d (.ext (.mapUpdate mk m kx vx)) ev s K):NOk P B F tb (.ext (.mapUpdate mk m kx vx)) evV env U K (QY d (.ext (.mapUpdate mk m kx vx)) ev) s pl:=by
 have ha:=ak m;simp only[gn] at h;split at h
 .rename_i o h1;have hT:QY d (.ext (.mapUpdate mk m kx vx)) ev=o:=by simp only[QY,h1]
  rw[hT];rw[h1] at ha;simp only[SR] at ha;have aq:=hG.obj o;split at h
  .rename_i kk vk l ho;rw[ho] at aq;have ao:(Qf s.own o).live=true:=by rw[ho];rfl
   obtain⟨id,es,clock,h2,h3,h4⟩:=aq;split at h
   .rename_i hc;have bX:=hc;split at h
    .rename_i key x a7 hx;have hk:=Vi a7 (ak kx) QI;have hv:=Vi hx (ak vx) QI;have bn:F.get id=none:=hG.fresh o id ao (by rw[h2];rfl);have a_:∀ j i',j≠o->(Qf s.own j).live=true->Oid (pl j) i'->i'≠id:=λj i' hj hl hi e=>by
      subst e;exact hG.sep j o i' hj hl ao hi (by rw[h2];rfl)
     have aF:U.mapAt id=some (es,clock,true):=by simp[Heap.mapAt,h3]
     refine⟨undef,U.upd id (.obj (.map (QC (evV kx) (evV vx) clock es).1 (QC (evV kx) (evV vx) clock es).2) true),pl,_,_,?_,h,hG.writeF o _ (hG.le.upd bn _) ao (λj i' hj hl hi=>Heap.q0b _ _ (a_ j i' hj hl hi)) ?_,by simp[SR]⟩
     .simp only[Qb,ZA,ha.1,h2,aF];rw[z7 (by rw[Uf bX hk,h4.1.keys bX];rfl)]
     .exact⟨id,_,_,h2,Heap.q0c _ _ (U.lt h3),M8 bX hk hv h4.1,h4.2.put⟩
    .cases h
   .cases h
  .cases h
 .cases h
theorem Ad (ak:∀ x,SR P B pl tb (ev x) (evV x)) (hG:Gam P B F pl tb s env U) {mk:MK}{m kx:Operand}(h:gn C d (.ext (.delete mk m kx)) ev s K):NOk P B F tb (.ext (.delete mk m kx)) evV env U K (QY d (.ext (.delete mk m kx)) ev) s pl:=by
 have ha:=ak m;simp only[gn] at h;split at h
 .rename_i o h1;have hT:QY d (.ext (.delete mk m kx)) ev=o:=by simp only[QY,h1]
  rw[hT];rw[h1] at ha;simp only[SR] at ha;have aq:=hG.obj o;split at h
  .rename_i kk vk l ho;rw[ho] at aq;have ao:(Qf s.own o).live=true:=by rw[ho];rfl
   obtain⟨id,es,clock,h2,h3,h4⟩:=aq;split at h
   .rename_i bX;split at h
    .rename_i key a7;have hk:=Vi a7 (ak kx) QI;have bn:F.get id=none:=hG.fresh o id ao (by rw[h2];rfl);have a_:∀ j i',j≠o->(Qf s.own j).live=true->Oid (pl j) i'->i'≠id:=λj i' hj hl hi e=>by
      subst e;exact hG.sep j o i' hj hl ao hi (by rw[h2];rfl)
     have aF:U.mapAt id=some (es,clock,true):=by simp[Heap.mapAt,h3]
     refine⟨.tuple #[],U.upd id (.obj (.map (KI (evV kx) es) clock) true),pl,_,_,?_,h,hG.writeF o _ (hG.le.upd bn _) ao (λj i' hj hl hi=>Heap.q0b _ _ (a_ j i' hj hl hi)) ?_,by simp[SR]⟩
     .simp only[Qb,ZA,ha.1,h2,aF];rw[z7 (by rw[Uf bX hk,h4.1.keys bX];rfl)]
     .exact⟨id,_,_,h2,Heap.q0c _ _ (U.lt h3),Re bX hk h4.1,h4.2.del⟩
    .cases h
   .cases h
  .cases h
 .cases h
theorem AD {mk:MK}{kk:Kind}(hk:gq.mkP mk kk=true) (x:kk.T):gq.keq kk x x=true:=by
 unfold gq.mkP at hk;split at hk
 .simp[gq.keq]
 .simp[gq.keq]
 .simp[gq.keq]
 .cases hk
theorem P9:∀ {k:Kind}{l r:List MK},gq.mkAt k l=some r->∀ x:k.T,gq.keq k x x=true
 |.pair a b,l,r,hk,x=>by
  simp only[gq.mkAt] at hk;split at hk
  .rename_i q hq;simp only[gq.keq,P9 hq,P9 hk,Bool.and_self]
  .cases hk
 |.i _,m::l,r,hk,x|.bo,m::l,r,hk,x|.st,m::l,r,hk,x|.list _,m::l,r,hk,x=>by
  simp only[gq.mkAt] at hk;cases hp:gq.mkP m _ with
  |false=>rw[hp] at hk;cases hk
  |true=>exact AD hp x
 |.i _,[],r,hk,x|.bo,[],r,hk,x|.st,[],r,hk,x|.list _,[],r,hk,x=>by cases hk
theorem Q03 {mk:MK}{kk:Kind}(hk:gq.mkOk mk kk=true) (x:kk.T):gq.keq kk x x=true:=by
 unfold gq.mkOk at hk;cases ho:kk.one with
 |true=>rw[ho] at hk;exact AD hk x
 |false =>
  rw[ho] at hk;simp only[zW] at hk;split at hk
  .split at hk
   .rename_i hr;exact P9 hr x
   .cases hk
  .cases hk
theorem RQ {k v:Value}(hk:XN k k=true) (clock:Nat):∀ es:List JD,Qp k (QC k v clock es).1=some (k,v,match Qp k es with|some e=>e.2.2|none=>clock)
 |[]=>by simp[QC,Qp,hk]
 |e::es=>by
  simp only[QC,Qp];cases he:XN k e.1 with
  |true=>simp[Qp,hk]
  |false =>simp only[zD,if_false,Qp,he];exact RQ hk clock es
theorem RY {k v:Value}{clock:Nat}:∀ {es:List JD}{e:JD},Qp k es=some e->∃ j:Nat,es[j]?=some e/\QC k v clock es=(es.set j (k,v,e.2.2),clock)
 |[],e,h=>by cases h
 |a::es,e,h=>by
  simp only[Qp] at h;split at h
  .rename_i he;obtain rfl:=osj h;exact⟨0,rfl,by simp[QC,he]⟩
  .rename_i he;obtain⟨j,h1,h2⟩:=RY (v:=v) (clock:=clock) h;exact⟨j+1,by simpa using h1,by simp[QC,he,h2]⟩
theorem PU (ak:∀ x,SR P B pl tb (ev x) (evV x)) (hG:Gam P B F pl tb s env U) {mk:MK}{z:Value}{m kx:Operand}(h:gn C d (.ext (.mapEntry mk z m kx)) ev s K):∃ u U' v s' T kv aY i es c,T=QY d (.ext (.mapEntry mk z m kx)) ev/\Qb (.ext (.mapEntry mk z m kx)) evV U=some (u,U')/\K v s'/\(Gam P B F pl tb s' env U'/\Fr T s s' pl pl U U')/\SR P B pl tb v u /\
  (Qf s'.own T).live=true/\pl T=.map (some i)/\U.get i=some (.obj (.map es c) true)/\U'.get i=some (.obj (.map (QC kv aY c es).1 (QC kv aY c es).2) true)/\ZC mk kv=true/\es.all (λe=>ZC mk e.1)=true/\aY=(match Qp kv es with|some e=>e.2.1|none=>z):=by
 have ha:=ak m;simp only[gn] at h;split at h
 .rename_i o h1;have hT:QY d (.ext (.mapEntry mk z m kx)) ev=o:=by simp only[QY,h1]
  rw[h1] at ha;simp only[SR] at ha;have aq:=hG.obj o;split at h
  .rename_i kk vk l ho;rw[ho] at aq;have ao:(Qf s.own o).live=true:=by rw[ho];rfl
   obtain⟨id,es,clock,h2,h3,h4⟩:=aq;split at h
   .rename_i hc;obtain⟨bX,ug⟩:=hc;split at h
    .rename_i key a7;have hk:=Vi a7 (ak kx) QI;have hz:KV B vk vk.dflt z:=BA ug;have bn:F.get id=none:=hG.fresh o id ao (by rw[h2];rfl);have a_:∀ j i',j≠o->(Qf s.own j).live=true->Oid (pl j) i'->i'≠id:=λj i' hj hl hi e=>by
      subst e;exact hG.sep j o i' hj hl ao hi (by rw[h2];rfl)
     have aF:U.mapAt id=some (es,clock,true):=by simp[Heap.mapAt,h3]
     have sd:XN (evV kx) (evV kx)=true:=by rw[GG bX hk hk];exact Q03 bX key
     obtain⟨aY,n,hold,gp⟩:∃ (aY:Value) (n:Nat),KV B vk (gq.aget kk l key vk.dflt) aY/\Qb (.ext (.mapEntry mk z m kx)) evV U=some (.tuple #[aY,.int .i64 n],U.upd id (.obj (.map (QC (evV kx) aY clock es).1 (QC (evV kx) aY clock es).2) true))/\Qp (evV kx) (QC (evV kx) aY clock es).1=some (evV kx,aY,n)/\aY=(match Qp (evV kx) es with|some e=>e.2.1|none=>z):=by
      rcases MR.find bX hk hz h4.1 with⟨e,k1,_,k3⟩|⟨k1,_,k3⟩
      .refine⟨e.2.1,e.2.2,k3,?_,?_,by rw[k1]⟩
       .simp only[Qb,ZA,ha.1,h2,aF];rw[z7 (by rw[Uf bX hk,h4.1.keys bX];rfl),k1]
       .rw[RQ sd,k1]
      .refine⟨z,clock,by rw[k3];exact hz,?_,?_,by rw[k1]⟩
       .simp only[Qb,ZA,ha.1,h2,aF];rw[z7 (by rw[Uf bX hk,h4.1.keys bX];rfl),k1]
       .rw[RQ sd,k1]
     obtain⟨gp,cZ,oq⟩:=gp;obtain⟨r,hr,_⟩:=RY (v:=aY) (clock:=clock) cZ;refine⟨_,_,_,_,o,evV kx,aY,id,es,clock,hT.symm,gp,h n,hG.writeF o _ (hG.le.upd bn _) ao (λj i' hj hl hi=>Heap.q0b _ _ (a_ j i' hj hl hi)) ?_,?_,by simp[Qz,OB.live],h2,h3,Heap.q0c _ _ (U.lt h3),Uf bX hk,h4.1.keys bX,oq⟩
     .exact⟨id,_,_,r,_,h2,Heap.q0c _ _ (U.lt h3),⟨M8 bX hk hold h4.1,h4.2.put⟩,hr,hk,cZ,rfl,mk,bX⟩
     .simp only[SR,SRs];exact⟨_,rfl,_,_,rfl,Xj hold,_,_,rfl,by simp[KC],rfl⟩
    .cases h
   .cases h
  .cases h
 .cases h
theorem TJ (ak:∀ x,SR P B pl tb (ev x) (evV x)) (hG:Gam P B F pl tb s env U) {mk:MK}{z:Value}{m kx:Operand}(h:gn C d (.ext (.mapEntry mk z m kx)) ev s K):NOk P B F tb (.ext (.mapEntry mk z m kx)) evV env U K (QY d (.ext (.mapEntry mk z m kx)) ev) s pl:=by obtain⟨u,U',v,s',T,kv,aY,i,es,c,rfl,h1,h2,h3,h4,_⟩:=PU ak hG h;exact⟨u,U',pl,v,s',h1,h2,h3,h4⟩
theorem Bl (ak:∀ x,SR P B pl tb (ev x) (evV x)) (hG:Gam P B F pl tb s env U) {m st vx:Operand}(h:gn C d (.ext (.entryStore m st vx)) ev s K):NOk P B F tb (.ext (.entryStore m st vx)) evV env U K (QY d (.ext (.entryStore m st vx)) ev) s pl:=by
 have ha:=ak m;simp only[gn] at h;split at h
 .rename_i o h1;have hT:QY d (.ext (.entryStore m st vx)) ev=o:=by simp only[QY,h1]
  rw[hT];rw[h1] at ha;simp only[SR] at ha;have aq:=hG.obj o;split at h
  .rename_i kk vk l key n ho;rw[ho] at aq;have ao:(Qf s.own o).live=true:=by rw[ho];rfl
   obtain⟨id,es,clock,r,e,h2,h3,h4,h5,h6,h7,h8,mk,bX⟩:=aq;split at h
   .rename_i n' x bk hx;obtain⟨rfl,h⟩:=h;have uh:=Jq bk (ak st);have hv:=Vi hx (ak vx) QI;have bn:F.get id=none:=hG.fresh o id ao (by rw[h2];rfl);have a_:∀ j i',j≠o->(Qf s.own j).live=true->Oid (pl j) i'->i'≠id:=λj i' hj hl hi e=>by
     subst e;exact hG.sep j o i' hj hl ao hi (by rw[h2];rfl)
    have aF:U.mapAt id=some (es,clock,true):=by simp[Heap.mapAt,h3]
    obtain⟨q,hq,bq⟩:=RY (v:=evV vx) (clock:=clock) h7;obtain rfl:q=r:=GF h4.2 hq h5 rfl;have jG:es.findIdx? (λa=>(a.2.2:Int)==n')=some q:=by
     obtain⟨mQ,heq⟩:=zg.1 hq;rw[List.findIdx?_eq_some_iff_getElem];refine⟨mQ,by rw[heq,h8];simp,λj hj=>?_⟩;have cm:j<es.length:=by omega
     cases hb:((es[j].2.2:Int)==n') with
     |false=>simp
     |true =>
      have:es[j].2.2=e.2.2:=by have:=eq_of_beq hb;omega
      have:=GF h4.2 (z6 cm) hq this;omega
    refine⟨undef,U.upd id (.obj (.map (es.set q (e.1,evV vx,e.2.2)) clock) true),pl,_,_,?_,h,hG.writeF o _ (hG.le.upd bn _) ao (λj i' hj hl hi=>Heap.q0b _ _ (a_ j i' hj hl hi)) ?_,by simp[SR]⟩
    .simp only[Qb,ZA,ha.1,h2,uh,aF,jG,hq]
    .refine⟨id,_,_,h2,Heap.q0c _ _ (U.lt h3),?_⟩;have e1:=congrArg (λx:List JD×Nat=>x.1) bq;have e2:=congrArg (λx:List JD×Nat=>x.2) bq;simp only at e1 e2;have k1:=M8 (clock:=clock) bX h6 hv h4.1;have k2:=h4.2.put (k:=e.1) (v:=evV vx);rw[e1] at k1 k2;rw[e2] at k2;exact⟨k1,k2⟩
   .cases h
  .cases h
 .cases h
end
theorem O7 (hG:Gam P B F pl tb s env U) (d:Nat) (kk vk:Kind):Gam P B F (JN pl d (.map (some U.n))) tb (s.make d (.map kk vk [])) env (U.push (.obj (.map [] 0) true))/\SR P B (JN pl d (.map (some U.n))) tb (.map d) (.map (some U.n)):=by refine⟨hG.push d _ _ _ rfl ⟨U.n,[],0,rfl,Heap.q0a _ _,rfl,List.nodup_nil,λ_ h=>by cases h⟩,?_⟩;simp only[SR,Wt];exact⟨trivial,_,rfl⟩
end
end Go.V
namespace Go.V
open Go
def Q1v (ρ1 ρ2:Plc):Prop:=∀ i p2,ρ2 i=some p2->∃ p1,ρ1 i=some p1/\p2.blk=p1.blk/\p2.shift=p1.shift/\p2.ext=p1.ext/\p2.esz=p1.esz/\(p2.tight=true->p1.tight=true)
theorem VRel.loose {ρ1 ρ2:Plc}{n:Nat}(hl:Q1v ρ1 ρ2) {v c:Value}(h:VRel ρ1 n v c):VRel ρ2 n v c:=by
 induction h with
 |poison c=>exact .poison c
 |bool b=>exact .bool b
 |int k x=>exact .int k x
 |string s=>exact .string s
 |nilPtr=>exact .nilPtr
 |nilSl=>exact .nilSl
 |nilMap=>exact .nilMap
 |nilFunc=>exact .nilFunc
 |nilIface=>exact .nilIface
 |glob g o s=>exact .glob g o s
 |ptr i o a hi h =>refine .ptr i o a hi λp hp=>?_;obtain⟨p1,h1,h2,h3,_⟩:=hl i p hp;rw[h2,h3];exact h p1 h1
 |sl i o len cap a aw hi h =>refine .sl i o len cap a aw hi λp hp=>?_;obtain⟨p1,h1,h2,h3,h4,h5,h6⟩:=hl i p hp;obtain⟨k1,k2,k3⟩:=h p1 h1;rw[h2,h3,h4,h5];exact⟨k1,λht=>k2 (h6 ht),k3⟩
 |slx i o len cap a hi h =>refine .slx i o len cap a hi λp hp=>?_;obtain⟨p1,h1,h2,h3,h4,h5,h6⟩:=hl i p hp;rw[h2,h3,h4,h5];exact h p1 h1
 |map i r hi h =>refine .map i r hi λp hp=>?_;obtain⟨p1,h1,h2,_⟩:=hl i p hp;rw[h2];exact h p1 h1
 |yield i r hi h =>refine .yield i r hi λp hp=>?_;obtain⟨p1,h1,h2,_⟩:=hl i p hp;rw[h2];exact h p1 h1
 |iface t v c _ ih=>exact .iface t v c ih
 |func fn fs gs cs ds hf hc _ _ ln lq=>exact .func fn fs gs cs ds hf hc ln lq
 |agg cs ds hc _ ih=>exact .agg cs ds hc ih
 |tuple cs ds hc _ ih=>exact .tuple cs ds hc ih
theorem LRel.loose {ρ1 ρ2:Plc}{n:Nat}(hl:Q1v ρ1 ρ2) {v c:List Value}(h:LRel ρ1 n v c):LRel ρ2 n v c:=⟨h.1,λi a b h1 h2=>(h.2 i a b h1 h2).loose hl⟩
theorem ORel.loose {ρ1 ρ2:Plc}{n:Nat}(hl:Q1v ρ1 ρ2) {o:VObj}{O:Obj}(h:ORel ρ1 n o O):ORel ρ2 n o O:=by
 cases o with
 |map es clock =>obtain⟨entries,h1,h2,h3⟩:=h;exact⟨entries,h1,h2,λk kv hk=>let ⟨e,he,h4,h5,hv⟩:=h3 k kv hk;⟨e,he,h4,h5,hv.loose hl⟩⟩
 |iter m since seen last=>obtain⟨rm,h1,h2⟩:=h;exact⟨rm,h1,h2.loose hl⟩
 |lp env r st pend=>exact⟨h.1,h.2.loose hl⟩
inductive Weak (n0:Nat->Prop):Value->Value->Prop
 |refl (v:Value):Weak n0 v v
 |sl (i len cap:Nat) (hi:n0 i) (hc:len<=cap):Weak n0 (.slice (some ⟨i,0,none⟩) len cap) (.slice (some ⟨i,0,none⟩) len len)
 |agg (cs ds:List Value) (hc:cs.length=ds.length) (h:∀ (i:Nat) (a b:Value),cs[i]?=some a->ds[i]?=some b->Weak n0 a b):Weak n0 (.agg cs.toArray) (.agg ds.toArray)
 |tuple (cs ds:List Value) (hc:cs.length=ds.length) (h:∀ (i:Nat) (a b:Value),cs[i]?=some a->ds[i]?=some b->Weak n0 a b):Weak n0 (.tuple cs.toArray) (.tuple ds.toArray)
theorem Weak.rel {ρ:Plc}{n:Nat}{n0:Nat->Prop}(hρ:∀ i p,n0 i->ρ i=some p->p.tight=false) {v v':Value}(h:Weak n0 v v'):∀ {c:Value},VRel ρ n v c->VRel ρ n v' c:=by
 induction h with
 |refl v=>exactλh=>h
 |sl i len cap hi hc =>
  intro c h;cases h with
  |sl _ _ _ _ a aw cI h =>
   refine .sl _ _ _ _ _ _ cI λp hp=>?_;obtain⟨k1,k2,k6|⟨o',k3,k4,k5⟩⟩:=h p hp
   .exact⟨by omega,(λht=>by rw[hρ i p hi hp] at ht;cases ht),.inl k6⟩
   refine⟨by omega,(λht=>by rw[hρ i p hi hp] at ht;cases ht),.inr ⟨o',k3,k4,?_⟩⟩;rcases k5 with k5|k5
   .exact .inl k5
   .exact .inr ⟨k5.1,k5.1⟩
 |agg cs ds hc h ih =>
  intro c hr;cases hr with
  |agg _ es cO hr =>
   refine .agg _ _ (by simpa [hc] using cO) λi h1 h2=>?_;have l1:i<cs.length:=by simpa [hc] using h1
   have l2:i<ds.length:=by simpa using h1
   have:=ih i cs[i] ds[i] (z6 l1) (z6 l2) (hr i (by simpa using l1) h2);simpa using this
 |tuple cs ds hc h ih =>
  intro c hr;cases hr with
  |tuple _ es cO hr =>
   refine .tuple _ _ (by simpa [hc] using cO) λi h1 h2=>?_;have l1:i<cs.length:=by simpa [hc] using h1
   have l2:i<ds.length:=by simpa using h1
   have:=ih i cs[i] ds[i] (z6 l1) (z6 l2) (hr i (by simpa using l1) h2);simpa using this
theorem DropTo.trans {σ0 σ1 σ2 σ3:Heap}{v1 v2 v3:Value}(h:DropTo σ0 v1 σ1 v2 σ2) (k:DropTo σ0 v2 σ2 v3 σ3):DropTo σ0 v1 σ1 v3 σ3:=by intro ρ0 w0 ρ w c gu hE hH hv;obtain⟨ρ',gK,gQ,b6⟩:=h ρ0 w0 ρ w c gu hE hH hv;exact k ρ0 w0 ρ' w c gu b6 gQ gK
theorem DropTo.weaken {σ0 σ1 σ2:Heap}{v v':Value}(S:Nat->Bool) (hS:∀ i,S i=true->σ0.n<=i) (hn:σ2.n=σ1.n) (h0:σ0.n<=σ1.n) (h1:∀ i,S i=false->σ2.get i=σ1.get i)
  (h2:∀ i,S i=true->∃ c e wr t m,σ1.get i=some (.cells c e wr t)/\σ2.get i=some (.cells (c.take m) e wr false)) (hv:Weak (λi=>S i=true) v v'):DropTo σ0 v σ1 v' σ2:=by
 intro ρ0 w0 ρ w c gu hE hH eH;let ρ':Plc:=λi=>if S i=false then ρ i else (ρ i).map λp=>{p with tight:=false}
 have hl:Q1v ρ ρ':=λi p2 hp=>by
  change (if S i=false then ρ i else (ρ i).map λp=>{p with tight:=false})=some p2 at hp;by_cases hi:S i=false
  .rw[z7 hi] at hp;exact⟨p2,hp,rfl,rfl,rfl,rfl,λh=>h⟩
  .rw[z1 hi,zw] at hp;obtain⟨p1,iL,rfl⟩:=hp;exact⟨p1,iL,rfl,rfl,rfl,rfl,λh=>by cases h⟩
 have eM:∀ i p2,ρ' i=some p2->∃ p1,ρ i=some p1/\p2.blk=p1.blk/\p2.ext=p1.ext:=λi p2 hp=>by obtain⟨p1,k1,k2,k3,k4,_⟩:=hl i p2 hp;exact⟨p1,k1,k2,k4⟩
 have f_:∀ i b,σ2.get i=some b->∃ b1,σ1.get i=some b1/\b.wr=b1.wr:=λi b hb=>by
  by_cases hi:S i=false
  .rw[h1 i hi] at hb;exact⟨b,hb,rfl⟩
  .obtain⟨c,e,wr,t,m,k1,k2⟩:=h2 i (by simpa using hi);rw[k2] at hb;obtain rfl:=osj hb;exact⟨_,k1,rfl⟩
 have hX:Ext ρ0 σ0 w0 ρ' σ2 w:=by
  refine⟨hE.os,hE.tape,hE.output,hE.size,hE.keep,?_,by omega,λi hi p hp=>?_⟩
  .rintro B hB ⟨i,p,b,hp,hb,hw,rfl⟩;obtain⟨p1,k1,k2,_⟩:=eM i p hp;obtain⟨b1,k7,k8⟩:=f_ i b hb;exact hE.wr _ hB ⟨i,p1,b1,k1,k7,by rw[<-k8];exact hw,k2.symm⟩
  .have:S i=false:=by
    cases hs:S i with
    |false=>rfl
    |true=>have:=hS i hs;omega
   simp only[ρ',this,zI] at hp;exact hE.pl i hi p hp
 refine⟨ρ',?_,gu.ext ⟨λi b hb=>?_,λi hi=>?_,λi p hp=>?_,λi j p q b bN hp hq hb hw hx=>?_⟩ hX,hX⟩
 .rw[hn];refine hv.rel (λi p hi hp=>?_) (eH.loose hl);have:¬ S i=false:=by simp[hi]
  change (if S i=false then ρ i else (ρ i).map λp=>{p with tight:=false})=some p at hp;rw[z1 this,zw] at hp;obtain⟨p1,_,rfl⟩:=hp;rfl
 .by_cases hi:S i=false
  .rw[h1 i hi] at hb;obtain⟨p,hp,hB⟩:=hH.live i b hb;refine⟨p,by simp only[ρ',hi,zI];exact hp,?_⟩;rw[hn];cases b with
   |cells c e wr t =>obtain⟨k1,k2,k3,k4,k5,k6⟩:=hB;exact⟨k1,k2,k3,k4,λk v hk=>let ⟨u,a1,a2⟩:=k5 k v hk;⟨u,a1,a2.loose hl⟩,k6⟩
   |obj o wr =>obtain⟨k1,O,k2,k3⟩:=hB;exact⟨k1,O,k2,k3.loose hl⟩
  .obtain⟨c,e,wr,t,m,k1,k2⟩:=h2 i (by simpa using hi);rw[k2] at hb;obtain rfl:=osj hb;obtain⟨p,hp,hB⟩:=hH.live i _ k1;obtain⟨a1,a2,a3,a4,a5,a6⟩:=hB;refine⟨{p with tight:=false},by simp[ρ',hi,hp],a1,rfl,by simp;omega,a4,λk v hk=>?_,λf_=>⟨(λh=>by cases h),(a6 f_).2⟩⟩;rw[zP] at hk;split at hk
   .obtain⟨u,b1,b2⟩:=a5 k v hk;rw[hn];exact⟨u,b1,b2.loose hl⟩
   .cases hk
 .have hd:σ1.get i=none:=by
   by_cases cI:S i=false
   .rw[<-h1 i cI];exact hi
   .obtain⟨c,e,wr,t,m,k1,k2⟩:=h2 i (by simpa using cI);rw[k2] at hi;cases hi
  have:=hH.dead i hd;simp only[ρ',this];split<;>rfl
 .obtain⟨p1,k1,k2,_⟩:=eM i p hp;rw[k2];exact hH.lt i p1 k1
 .obtain⟨p1,k1,k2,k3⟩:=eM i p hp;obtain⟨q1,k4,k5,k6⟩:=eM j q hq;obtain⟨b1,k7,k8⟩:=f_ i b hb;rw[k2,k5];exact hH.sep i j p1 q1 b1 bN k1 k4 k7 (by rw[<-k8];exact hw) (by rw[<-k6];exact hx)
def mkP (U:Heap) (v:Value) (is:List Nat):Value:=.tuple (v::is.map λi=>match U.get i with|some b=>Z62 i b|none=>.bool true).toArray
theorem KO.imp {H H':Heap}:∀ {k:Kind}{q:Option Nat}{x:k.T}{cs:List Value}{is:List Nat},KO H q k x cs is->(∀ i∈is,H'.get i=H.get i)->KO H' q k x cs is
 |.i _,_,_,_,_,h,_|.bo,_,_,_,_,h,_|.st,_,_,_,_,h,_=>by simp only[KO] at h |-;exact h
 |.list k,q,l,cs,is,h,g=>by
  simp only[KO] at h |-;rcases h with h|⟨i,cap,c,e,t,js,h1,rfl,h3,h4,h5,h6,h7,h8⟩
  .exact .inl h
  .refine .inr ⟨i,cap,c,e,t,js,h1,rfl,h3,by rw[g i zl];exact h4,h5,h6,h7,?_⟩;have key:∀ {xs:List k.T}{cs:List Value}{js:List Nat},RowsO (λx c is=>KO H none k x c is) xs cs js->(∀ i∈js,H'.get i=H.get i)->RowsO (λx c is=>KO H' none k x c is) xs cs js:=λh=>by
    induction h with
    |nil=>exactλ_=>.nil
    |cons h _ ih=>exactλg=>.cons (KO.imp (k:=k) h λi hi=>g i (xE _ hi)) (ih λi hi=>g i (xA _ hi))
   exact key h8 λi hi=>g i (zi _ hi)
 |.pair a b,_,x,cs,is,h,g=>by simp only[KO] at h |-;obtain⟨c1,c2,i1,i2,h1,rfl,h3,h4⟩:=h;exact⟨c1,c2,i1,i2,h1,rfl,h3.imp λi hi=>g i (xE _ hi),h4.imp λi hi=>g i (xA _ hi)⟩
theorem KO.cells {H:Heap}:∀ {k:Kind}{q:Option Nat}{x:k.T}{cs:List Value}{is:List Nat},KO H q k x cs is->∀ i∈is,∃ c e t,H.get i=some (.cells c e true t)
 |.i _,_,_,_,_,h,i,hi|.bo,_,_,_,_,h,i,hi|.st,_,_,_,_,h,i,hi=>by simp only[KO] at h;rw[h.2] at hi;cases hi
 |.list k,q,l,cs,is,h,i,hi=>by
  simp only[KO] at h;rcases h with⟨_,_,rfl⟩|⟨i',cap,c,e,t,js,h1,rfl,h3,h4,h5,h6,h7,h8⟩
  .cases hi
  .rcases zk.1 hi with rfl|hi
   .exact⟨_,_,_,h4⟩
   .have key:∀ {xs:List k.T}{cs:List Value}{js:List Nat},RowsO (λx c is=>KO H none k x c is) xs cs js->∀ i∈js,∃ c e t,H.get i=some (.cells c e true t):=λh=>by
     induction h with
     |nil=>exactλi hi=>by cases hi
     |cons h _ ih=>exactλi hi=>(zF.1 hi).elim (KO.cells (k:=k) h i) (ih i)
    exact key h8 i hi
 |.pair a b,_,x,cs,is,h,i,hi=>by simp only[KO] at h;obtain⟨c1,c2,i1,i2,h1,rfl,h3,h4⟩:=h;exact(zF.1 hi).elim (h3.cells i) (h4.cells i)
theorem KO.weak {H:Heap}:∀ {k:Kind}{q:Option Nat}{x:k.T}{cs:List Value}{is:List Nat},KO H q k x cs is->KO H none k x cs is
 |.i _,_,_,_,_,h|.bo,_,_,_,_,h|.st,_,_,_,_,h=>by simp only[KO] at h |-;exact h
 |.list k,q,l,cs,is,h=>by
  simp only[KO] at h |-;rcases h with h|⟨i,cap,c,e,t,js,h1,h2,h3,h4,h5,h6,h7,h8⟩
  .exact .inl h
  .exact .inr ⟨i,cap,c,e,t,js,h1,h2,h3,h4,h5,(λ_ e=>by cases e),h7,h8⟩
 |.pair a b,_,x,cs,is,h=>by simp only[KO] at h |-;exact h
theorem KO.q0h {H:Heap}{q:Option Nat}{k:Kind}:∀ (x:k.T) (c:List Value) (is:List Nat),KO H q k x c is->c.length=k.size:=λ_ _ _ h=>KC.length h.kc
section
variable {α:Type}{R R':α->List Value->List Nat->Prop}{sz:Nat}
theorem RowsH.imp:∀ {xs:List α}{h:Option Nat}{j:Nat}{cs:List Value}{is:List Nat},RowsH R sz h j xs cs is->(∀ x c js,R x c js->(∀ i∈js,i∈is)->R' x c js)->RowsH R' sz h j xs cs is
 |[],_,_,_,_,h,_=>h
 |x::xs,hh,j,cs,is,h,g=>by
  obtain⟨c,cs',i1,i2,rfl,rfl,h1,h2⟩:=h;refine⟨c,cs',i1,i2,rfl,rfl,?_,h2.imp λx c js hr hj=>g x c js hr λi hi=>xA _ (hj i hi)⟩;by_cases e:hh=some j
  .rw[z7 e] at h1 |-;exact h1
  .rw[z1 e] at h1 |-;exact g _ _ _ h1 λi hi=>xE _ hi
theorem RowsH.hole:∀ {xs:List α}{h h':Option Nat}{j j':Nat}{cs:List Value}{is:List Nat},RowsH R sz h j xs cs is->(∀ m,h=some (j+m)<->h'=some (j'+m))->RowsH R sz h' j' xs cs is
 |[],_,_,_,_,_,_,h,_=>h
 |x::xs,h,h',j,j',cs,is,hr,g=>by
  obtain⟨c,cs',i1,i2,rfl,rfl,h1,h2⟩:=hr;refine⟨c,cs',i1,i2,rfl,rfl,?_,h2.hole λm=>?_⟩
  .have:=g 0;simp only[zU] at this;by_cases e:h=some j
   .rw[z7 e] at h1;rw[z7 (this.1 e)];exact h1
   .rw[z1 e] at h1;rw[z1 λe'=>e (this.2 e')];exact h1
  .have:=g (1+m);rw[<-zt,<-zt] at this;exact this
theorem RowsH.length (hR:∀ x c is,R x c is->c.length=sz):∀ {xs:List α}{h:Option Nat}{j:Nat}{cs:List Value}{is:List Nat},RowsH R sz h j xs cs is->cs.length=xs.length*sz
 |[],_,_,_,_,h=>by rw[h.1];simp
 |x::xs,_,j,cs,is,h=>by
  obtain⟨c,cs',i1,i2,rfl,rfl,h1,h2⟩:=h;have hc:c.length=sz:=by
   split at h1
   .exact h1.1
   .exact hR _ _ _ h1
  rw[zJ,hc,h2.length hR,zS,zO,xJ,xW]
theorem RowsH.append:∀ {xs ys:List α}{j j':Nat}{cs ds:List Value}{is js:List Nat},RowsH R sz none j xs cs is->RowsH R sz none j' ys ds js->RowsH R sz none j (xs++ys) (cs++ds) (is++js)
 |[],ys,j,j',cs,ds,is,js,h,h'=>by obtain⟨rfl,rfl⟩:=h;exact h'.hole λm=>by simp
 |x::xs,ys,j,j',cs,ds,is,js,h,h'=>by obtain⟨c,cs',i1,i2,rfl,rfl,h1,h2⟩:=h;exact⟨c,cs'++ds,i1,i2++js,by rw[xh],by rw[xh],h1,h2.append h'⟩
theorem RowsH.replicate {x:α}{c:List Value}(h:R x c []):∀ (n j:Nat),RowsH R sz none j (List.replicate n x) (List.replicate n c).flatten []
 |0,_=>⟨rfl,rfl⟩
 |n+1,j=>⟨c,_,[],[],rfl,rfl,by rw[z1 (by simp)];exact h,RowsH.replicate h n (j+1)⟩
theorem RowsH.take (hR:∀ x c is,R x c is->c.length=sz):∀ {xs:List α}{j:Nat}{cs:List Value},RowsH R sz none j xs cs []->∀ n,RowsH R sz none j (xs.take n) (cs.take (n*sz)) []
 |[],j,cs,h,n=>by obtain⟨rfl,_⟩:=h;simp[RowsH]
 |x::xs,j,cs,h,0=>by simp[RowsH]
 |x::xs,j,cs,h,n+1=>by
  obtain⟨c,cs',i1,i2,rfl,e,h1,h2⟩:=h;obtain⟨rfl,rfl⟩:=List.append_eq_nil_iff.1 e.symm;have hc:c.length=sz:=by rw[z1 (by simp)] at h1;exact hR _ _ _ h1
  refine⟨c,cs'.take (n*sz),[],[],?_,rfl,h1,h2.take hR n⟩;rw[zO,xJ,xW,List.take_append,hc,zN (by omega),Nat.add_sub_cancel_left]
theorem RowsH.set (hR:∀ x c is,R x c is->c.length=sz):∀ {xs:List α}{h h':Option Nat}{j i:Nat}{cs:List Value}{is:List Nat}{x:α}{c':List Value}{inew:List Nat},
  RowsH R sz h j xs cs is->(hi:i<xs.length)->(∀ m,m≠i->(h=some (j+m)<->h'=some (j+m)))->c'.length=sz->(if h'=some (j+i) then inew=[] else R x c' inew) ->
  ∃ ot ix ou,is=ot++ix++ou/\RowsH R sz h' j (xs.set i x) (cs.take (i*sz)++c'++cs.drop (i*sz+sz)) (ot++inew++ou)/\(if h=some (j+i) then ix=[] else R xs[i] ((cs.drop (i*sz)).take sz) ix)
 |[],_,_,_,_,_,_,_,_,_,_,hi,_,_,_=>by simp at hi
 |y::ys,h,h',j,0,cs,is,x,c',inew,hr,hi,g,hl,hn=>by
  obtain⟨c,cs',i1,i2,rfl,rfl,h1,h2⟩:=hr;have hc:c.length=sz:=by
   split at h1
   .exact h1.1
   .exact hR _ _ _ h1
  have ht:RowsH R sz h' (j+1) ys cs' i2:=h2.hole λm=>by have:=g (m+1) (by omega);rw[show j+1+m=j+(m+1) by omega];exact this
  refine⟨[],i1,i2,rfl,?_,?_⟩
  .rw[List.set_cons_zero];refine⟨c',cs',inew,i2,?_,rfl,?_,ht⟩
   .rw[Nat.zero_mul,wk,xk,xl,List.drop_append,hc,wh,x8,List.drop_of_length_le (by omega),xk]
   .rw[zU] at hn;split
    .rename_i e;rw[z7 e] at hn;exact⟨hl,hn⟩
    .rename_i e;rw[z1 e] at hn;exact hn
  .rw[zU];split
   .rename_i e;rw[z7 e] at h1;exact h1.2
   .rename_i e;rw[z1 e] at h1;rw[Nat.zero_mul,x8,List.take_append,hc,wh,wk,xL,zN (by omega)];exact h1
 |y::ys,h,h',j,i+1,cs,is,x,c',inew,hr,hi,g,hl,hn=>by
  obtain⟨c,cs',i1,i2,rfl,rfl,h1,h2⟩:=hr;have hc:c.length=sz:=by
   split at h1
   .exact h1.1
   .exact hR _ _ _ h1
  obtain⟨ot,ix,ou,rfl,k1,k2⟩:=RowsH.set hR h2 (i:=i) (h':=h') (x:=x) (c':=c') (inew:=inew) (by simpa using hi) (λm hm=>by
   have:=g (m+1) (by omega);rw[show j+1+m=j+(m+1) by omega];exact this) hl (by rw[show j+1+i=j+(i+1) by omega];exact hn)
  have e0:(i+1)*sz=sz+i*sz:=by rw[zO,xJ,xW]
  refine⟨i1++ot,ix,ou,by simp[xh],?_,?_⟩
  .rw[List.set_cons_succ];refine⟨c,_,i1,ot++inew++ou,?_,by simp[xh],?_,k1⟩
   .have e1:(c++cs').take ((i+1)*sz)=c++cs'.take (i*sz):=by
     rw[e0,List.take_append,hc,zN (by omega),Nat.add_sub_cancel_left]
    have e2:(c++cs').drop ((i+1)*sz+sz)=cs'.drop (i*sz+sz):=by rw[e0,List.drop_append,hc,List.drop_of_length_le (by omega),xk];congr 1;omega
    rw[e1,e2];simp[xh]
   .have:=g 0 (by omega);rw[zU] at this;by_cases e:h=some j
    .rw[z7 e] at h1;rw[z7 (this.1 e)];exact h1
    .rw[z1 e] at h1;rw[z1 λe'=>e (this.2 e')];exact h1
  .rw[show j+(i+1)=j+1+i by omega];have e3:(c++cs').drop ((i+1)*sz)=cs'.drop (i*sz):=by
    rw[e0,List.drop_append,hc,List.drop_of_length_le (by omega),xk];congr 1;omega
   rw[e3];exact k2
end
theorem DO.imp {H H':Heap}{ty:Nat}{q:Option Nat}{k:Kind}{xs:List k.T}{h:Option Nat}{v:Value}{is:List Nat}(hd:DO H ty q k xs h v is) (g:∀ i∈is,H'.get i=H.get i):DO H' ty q k xs h v is:=by
 rcases hd with hd|⟨i,cap,c,t,js,h1,rfl,h3,h4,h5,h6⟩
 .exact .inl hd
 .exact .inr ⟨i,cap,c,t,js,h1,rfl,h3,by rw[g i zl];exact h4,h5,h6.imp λx c vM hr hj=>KO.imp hr λi hi=>g i (zi _ (hj i hi))⟩
theorem RowsH.cells {H:Heap}{q:Option Nat}{k:Kind}{sz:Nat}:∀ {xs:List k.T}{h:Option Nat}{j:Nat}{cs:List Value}{is:List Nat},RowsH (KO H q k) sz h j xs cs is->∀ i∈is,∃ c e t,H.get i=some (.cells c e true t)
 |[],_,_,_,_,h,i,hi=>by rw[h.2] at hi;cases hi
 |x::xs,_,j,cs,is,h,i,hi=>by
  obtain⟨c,cs',i1,i2,rfl,rfl,h1,h2⟩:=h;rcases zF.1 hi with hi|hi
  .split at h1
   .rw[h1.2] at hi;cases hi
   .exact KO.cells h1 i hi
  .exact h2.cells i hi
theorem DO.cells {H:Heap}{ty:Nat}{q:Option Nat}{k:Kind}{xs:List k.T}{h:Option Nat}{v:Value}{is:List Nat}(hd:DO H ty q k xs h v is):∀ i∈is,∃ c e t,H.get i=some (.cells c e true t):=by
 rcases hd with⟨_,_,rfl⟩|⟨i,cap,c,t,js,h1,rfl,h3,h4,h5,h6⟩
 .exact λi hi=>by cases hi
 .exact λj hj=>(zk.1 hj).elim (λe=>by subst e;exact⟨_,_,_,h4⟩) (h6.cells j)
theorem DP.open {U:Heap}{p:Value}{ty:Nat}{q:Option Nat}{k:Kind}{xs:List k.T}{nl:Bool}{h:Option Nat}(hd:DP U p ty q k xs nl h) :
  ∃ is,is.Nodup/\DO U ty q k xs h (phd p) is/\(∀ i,Oid p i<->i∈is)/\(nl=true<->phd p=.slice none 0 0):=by
 obtain⟨is,hO,h1,h2,h3,h4,h5⟩:=hd;refine⟨is,h1,h2.imp λi hi=>?_,λi=>(hO i).trans (h3 i),h5⟩;obtain⟨b,hb⟩:=(h3 i).2 hi;rw[hb,h4 i b hb]
end Go.V
namespace Go.V
open Go
section
variable {P:Program}{B F:Heap}{pl:Nat->Value}{tb:Nat->Option Bool}{s:St}{env:Env}{U U':Heap}
theorem KO.nil {H:Heap}{q:Option Nat}{k:Kind}:KO H q (.list k) [] [.slice none 0 0] []:=by unfold KO;exact .inl ⟨rfl,rfl,rfl⟩
def FrL (Ts:List Nat) (s s':St) (pl pl':Nat->Value) (U U':Heap):Prop :=
 ∀ q,q∉Ts->(Qf s'.own q).live=(Qf s.own q).live/\pl' q=pl q/\((Qf s.own q).live=true->∀ i,Oid (pl q) i->U'.get i=U.get i)
theorem FrL.mono {Ts se:List Nat}{s s':St}{pl pl':Nat->Value}{U U':Heap}(h:FrL Ts s s' pl pl' U U') (hs:∀ t∈Ts,t∈se):FrL se s s' pl pl' U U':=λq hq=>h q λh=>hq (hs q h)
def Z0m (P:Program) (B F:Heap) (tb:Nat->Option Bool) (o:VOp) (evV:Operand->Value) (env:Env) (U:Heap) (K:SV->St->Prop) (Ts:List Nat) (s:St) (pl:Nat->Value):Prop :=
 ∃ u U' pl' v s',Qb o evV U=some (u,U')/\K v s'/\(Gam P B F pl' tb s' env U'/\FrL Ts s s' pl pl' U U')/\SR P B pl' tb v u
section
variable {C:Cx}{d:Nat}{ev:Operand->SV}{evV:Operand->Value}{K:SV->St->Prop}
theorem DO.sl {ty:Nat}{q:Option Nat}{k:Kind}{xs:List k.T}{v:Value}{is:List Nat}(hd:DO U ty q k xs none v is) (hn:is.Nodup) :
  ∃ a cap cs js,v=.slice a xs.length cap/\U.sl k.size v=some cs/\RowsH (KO U q k) k.size none 0 xs cs js/\(∀ i∈js,i∈is)/\js.Nodup/\cs.all cellOk=true/\cs.length=xs.length*k.size:=by
 rcases hd with⟨rfl,rfl,rfl⟩|⟨i,cap,c,t,js,rfl,rfl,h1,h3,h4,h5⟩
 .exact⟨_,_,[],[],rfl,rfl,⟨rfl,rfl⟩,λi hi=>hi,List.nodup_nil,rfl,by simp⟩
 .have hl:=h5.length KO.q0h;refine⟨_,_,c.take (xs.length*k.size),js,rfl,?_,h5,λi hi=>zi _ hi,(xn.1 hn).2,(h5.rows (R':=KC U k) λ_ _ _ h=>h.kc).cellOk,hl⟩;have:=zx k.size h1;simp only[Heap.sl,h3];rw[z7 ⟨trivial,by omega⟩];simp
theorem Hp (ak:∀ x,SR P B pl tb (ev x) (evV x)) (hG:Gam P B F pl tb s env U) {o:VOp}(h:gnd C d o ev s K):Z0m P B F tb o evV env U K (Lb d o ev) s pl:=h.elim
end
end
end Go.V
namespace Go.V
open Go
def X1:Nat->Value:=λ_=>poison
def J3:Nat->Option Bool:=λ_=>none
def hNil:Heap:=⟨λ_=>none,0,λ_ _=>rfl⟩
theorem Ao (B:Heap):hNil.Le B:=⟨Nat.zero_le _,λi b h=>by cases h⟩
section
variable {P:Program}
mutual
theorem SR.retd {B B':Heap}{pl pl':Nat->Value}{tb tb':Nat->Option Bool}{n:Nat}(hp:∀ j,j<n->pl' j=pl j) :
  ∀ (s:SV) (v:Value),s.ret n=true->SR P B pl tb s v->SR P B' pl' tb' s v
 |.any,_,h,_|.bid _ _,_,h,_|.grd _ _,_,h,_|.sub _ _ _ _,_,h,_|.elp _ _ _ _,_,h,_|.rop _ _ _ _,_,h,_|.cp _ _,_,h,_|.fn _ _ _,_,h,_|.pf _ _ _ _,_,h,_=>by cases h
 |.val k x,v,h,hs=>by simp only[SR] at hs |-;exact KC.flat h hs
 |.nilS,v,_,hs|.nilP,v,_,hs|.nilM,v,_,hs|.nilF,v,_,hs=>by simp only[SR] at hs |-;exact hs
 |.lst j,v,h,hs=>by
  have hj:j<n:=by simpa [SV.ret,zR] using h
  simp only[SR] at hs |-;rw[hp j hj];exact hs
 |.map j,v,h,hs=>by
  have hj:j<n:=by simpa [SV.ret,zR] using h
  simp only[SR] at hs |-;rw[hp j hj];exact hs
 |.dd j w,v,h,hs=>by
  cases w with
  |out =>
   have hj:j<n:=by simpa [SV.ret,zR] using h
   simp only[SR] at hs |-;rw[hp j hj];exact hs
  |_=>cases h
 |.box j off,v,h,hs=>by
  have hj:j<n:=by simpa [SV.ret,zR] using h
  simp only[SR] at hs |-;rw[hp j hj];exact hs
 |.agg l,v,h,hs=>by simp only[SR] at hs |-;obtain⟨cs,h1,h2⟩:=hs;exact⟨cs,h1,SRs.retd hp l cs h h2⟩
 |.tup l,v,h,hs=>by simp only[SR] at hs |-;obtain⟨cs,h1,h2⟩:=hs;exact⟨cs,h1,SRs.retd hp l cs h h2⟩
theorem SRs.retd {B B':Heap}{pl pl':Nat->Value}{tb tb':Nat->Option Bool}{n:Nat}(hp:∀ j,j<n->pl' j=pl j) :
  ∀ (s:List SV) (v:List Value),SVs.ret n s=true->SRs P B pl tb s v->SRs P B' pl' tb' s v
 |[],v,_,hs=>by simp only[SRs] at hs |-;exact hs
 |s::ss,v,h,hs=>by simp only[SVs.ret,z8] at h;simp only[SRs] at hs |-;obtain⟨x,y,h1,h2,h3⟩:=hs;exact⟨x,y,h1,SR.retd hp s x h.1 h2,SRs.retd hp ss y h.2 h3⟩
end
mutual
theorem SR.ren {B:Heap}{pl pl':Nat->Value}{tb tb':Nat->Option Bool}{n d nt:Nat}(hp:∀ j,j<n->pl' (d+j*nt)=pl j) :
  ∀ (s:SV) (v:Value),s.ret n=true->SR P B pl tb s v->SR P B pl' tb' (s.ren d nt) v
 |.any,_,h,_|.bid _ _,_,h,_|.grd _ _,_,h,_|.sub _ _ _ _,_,h,_|.elp _ _ _ _,_,h,_|.rop _ _ _ _,_,h,_|.cp _ _,_,h,_|.fn _ _ _,_,h,_|.pf _ _ _ _,_,h,_=>by cases h
 |.val k x,v,h,hs=>by simp only[SR,SV.ren] at hs |-;exact hs
 |.nilS,v,_,hs|.nilP,v,_,hs|.nilM,v,_,hs|.nilF,v,_,hs=>by simp only[SR,SV.ren] at hs |-;exact hs
 |.lst j,v,h,hs=>by
  have hj:j<n:=by simpa [SV.ret,zR] using h
  simp only[SR,SV.ren] at hs |-;rw[hp j hj];exact hs
 |.map j,v,h,hs=>by
  have hj:j<n:=by simpa [SV.ret,zR] using h
  simp only[SR,SV.ren] at hs |-;rw[hp j hj];exact hs
 |.dd j w,v,h,hs=>by
  cases w with
  |out =>
   have hj:j<n:=by simpa [SV.ret,zR] using h
   simp only[SR,SV.ren] at hs |-;rw[hp j hj];exact hs
  |_=>cases h
 |.box j off,v,h,hs=>by
  have hj:j<n:=by simpa [SV.ret,zR] using h
  simp only[SR,SV.ren] at hs |-;rw[hp j hj];exact hs
 |.agg l,v,h,hs=>by simp only[SR,SV.ren] at hs |-;obtain⟨cs,h1,h2⟩:=hs;exact⟨cs,h1,SRs.ren hp l cs h h2⟩
 |.tup l,v,h,hs=>by simp only[SR,SV.ren] at hs |-;obtain⟨cs,h1,h2⟩:=hs;exact⟨cs,h1,SRs.ren hp l cs h h2⟩
theorem SRs.ren {B:Heap}{pl pl':Nat->Value}{tb tb':Nat->Option Bool}{n d nt:Nat}(hp:∀ j,j<n->pl' (d+j*nt)=pl j) :
  ∀ (s:List SV) (v:List Value),SVs.ret n s=true->SRs P B pl tb s v->SRs P B pl' tb' (SVs.ren d nt s) v
 |[],v,_,hs=>by simp only[SRs,SVs.ren] at hs |-;exact hs
 |s::ss,v,h,hs=>by simp only[SVs.ret,z8] at h;simp only[SRs,SVs.ren] at hs |-;obtain⟨x,y,h1,h2,h3⟩:=hs;exact⟨x,y,h1,SR.ren hp s x h.1 h2,SRs.ren hp ss y h.2 h3⟩
end
theorem MR.flat {B B':Heap}{kk vk:Kind}(h1:kk.flat=true) (h2:vk.flat=true):∀ {m:List (kk.T×vk.T)}{es:List JD},MR B kk vk m es->MR B' kk vk m es
 |[],es,h=>h
 |m::ms,es,h=>by obtain⟨e,bV,k1,k2,k3,k4⟩:=h;exact⟨e,bV,k1,k2.flat h1,k3.flat h2,MR.flat h1 h2 k4⟩
theorem OR.retd {B B':Heap}{pl pl':Nat->Value}{tb tb':Nat->Option Bool}{U U':Heap}{p:Value}{b:OB}(hb:b.ret=true) (h:OR P B pl tb U p b) (hg:∀ i,Oid p i->U'.get i=U.get i):OR P B' pl' tb' U' p b:=by
 cases b with
 |dead=>trivial
 |lst ty k xs nl =>
  rcases h with h|⟨h0,i,cap,c,t,h1,h2,h3,h4,h5⟩
  .exact .inl h
  .exact .inr ⟨h0,i,cap,c,t,h1,h2,by rw[hg i (by rw[h1];rfl)];exact h3,h4,h5.mono λ_ _ e=>KC.flat hb e⟩
 |cells l u =>obtain⟨i,c,e,t,h1,h2,h3,h4⟩:=h;exact⟨i,c,e,t,h1,by rw[hg i (by rw[h1];rfl)];exact h2,SRs.retd (n:=0) (λj hj=>by omega) l c hb h3,h4⟩
 |map kk vk m =>simp only[OB.ret,z8] at hb;obtain⟨i,es,clock,h1,h2,h3⟩:=h;exact⟨i,es,clock,h1,by rw[hg i (by rw[h1];rfl)];exact h2,h3.1.flat hb.1 hb.2,h3.2⟩
 |stk l vals=>cases hb
 |deep ty q k xs nl hh=>exact DP.mono h hg
 |mapE kk vk m key n=>cases hb
 |iter kk vk m dn=>cases hb
 |lpf l q s=>cases hb
def Mw:(k:Kind)->k.T->List Value
 |.i ik,x=>[.int ik x]
 |.bo,x=>[.bool x]
 |.st,x=>[.string ⟨x.toArray⟩]
 |.list _,_=>[]
 |.pair a b,x=>Mw a x.1++Mw b x.2
def FM:OB->Option Blk
 |.lst ty k xs nl=>if nl then none else some (.cells (xs.map (Mw k)).flatten ⟨k.size,ty⟩ true false)
 |_=>none
def BQ (U:Heap) (bs:List OB):Heap where
 get i:=if i<U.n then U.get i else (bs[i-U.n]?).bind FM
 n:=U.n+bs.length
 wf i h:=by rw[z1 (by omega),zr (by omega)];rfl
def Ro (U:Heap) (bs:List OB) (j:Nat):Value:=match bs[j]? with
 |some (.lst _ _ xs nl)=>if nl then .slice none 0 0 else .slice (some ⟨U.n+j,0,none⟩) xs.length xs.length
 |_=>poison
mutual
def Vf (p:Nat->Value):SV->Value
 |.val k x=>(Mw k x).headD poison
 |.nilS=>.slice none 0 0
 |.nilP=>.pointer none
 |.nilM=>.map none
 |.nilF=>.nilFunc
 |.lst j=>p j
 |.agg l=>.agg (YW p l).toArray
 |.tup l=>.tuple (YW p l).toArray
 |_=>poison
def YW (p:Nat->Value):List SV->List Value
 |[]=>[]
 |s::ss=>Vf p s::YW p ss
end
def Dead (U U':Heap):Prop:=U.n<=U'.n/\∀ i,i<U.n->U.get i=none->U'.get i=none
theorem Dead.refl (U:Heap):Dead U U:=⟨ze _,λ_ _ h=>h⟩
theorem Dead.trans {σ0 U U':Heap}(h:Dead σ0 U) (h':Dead U U'):Dead σ0 U':=⟨x4 h.1 h'.1,λi hi hg=>h'.2 i (xj hi h.1) (h.2 i hi hg)⟩
def Ret (P:Program) (U:Heap) (v:SV) (bs:List OB) (u:Value) (U':Heap):Prop :=
 (U.Le U'/\Dead U U')/\(bs=[]->U'=U)/\∃ pl:Nat->Value,(∀ j b,bs[j]?=some b->OR P hNil pl J3 U' (pl j) b/\∀ i,Oid (pl j) i->U.get i=none/\U.n<=i) /\
  (∀ j j' i,j<bs.length->j'<bs.length->j≠j'->Oid (pl j) i->Oid (pl j') i->False)/\SR P hNil pl J3 v u
def Q09 (P:Program) (ap:SV->List SV->Option (Prop×SV)):Prop :=
 ∀ U f args c v fV vs,SR P U X1 J3 f fV->SRs P U X1 J3 args vs->ap f args=some (c,v)->c->v.ret 0=true/\∃ g a b,fV=.func (.func g) a b/\VCalled P g (a.toList++vs++b.toList) U λu U'=>U'=U/\SR P hNil X1 J3 v u
def OkC (P:Program) (f:Nat) (sp:CSp):Prop :=
 ∀ ap,Q09 P ap->∀ U args vs c v bs,SRs P U X1 J3 args vs->sp ap args=some (c,v,bs)->v.ret bs.length=true->bs.all OB.ret=true->c->(VCalled P f vs U λu U'=>Ret P U v bs u U') /\
  (bs.all OB.isL=true->V8 v=true->VCalled P f vs U λu U'=>u=Vf (Ro U bs) v/\U'=BQ U bs)
def CsOk (P:Program) (cs:List (Nat×CSp)):Prop:=∀ f sp,QO cs f=some sp->OkC P f sp
theorem VCalled.mono {f:FuncId}{args:List Value}{U:Heap}{R R':Value->Heap->Prop}(h:VCalled P f args U R) (hr:∀ v U',R v U'->R' v U'):VCalled P f args U R':=by
 intro ρ w ax hH hL;rcases h ρ w ax hH hL with⟨h1,h2⟩|⟨c,h1,h2⟩
 .exact .inl ⟨h1,h2.mono λ_ _ ⟨c,he,hg⟩=>⟨c,he,hg.mono hr⟩⟩
 .exact .inr ⟨c,h1.mono hr,h2⟩
theorem Hz {B:Heap}{pl:Nat->Value}{tb:Nat->Option Bool}{k:Kind}{v:SV}{u:Value}{x:k.T}(h:gap.asV k v=some x) (hs:SR P B pl tb v u):KV B k x u:=by
 unfold gap.asV at h;cases bT:k.one with
 |true =>rw[bT] at h;exact .inl ⟨bT,QI h (by simp only[SRs];exact⟨u,[],rfl,hs,rfl⟩)⟩
 |false =>
  rw[bT] at h;simp only[zW] at h;split at h
  .simp only[SR] at hs;obtain⟨cs,rfl,hs⟩:=hs;exact .inr ⟨bT,cs,rfl,QI h hs⟩
  .cases h
theorem R4 {B:Heap}{pl:Nat->Value}{tb:Nat->Option Bool}:∀ {ks:List Kind}{args:List SV}{x:AT ks}{vs:List Value},gap.deca ks args=some x->SRs P B pl tb args vs->Rg B ks x vs
 |[],[],x,vs,_,hs=>by simp only[SRs] at hs;exact hs
 |[],_::_,x,vs,h,_=>by cases h
 |[k],[],x,vs,h,_=>by cases h
 |[k],[v],x,vs,h,hs=>by obtain⟨u,rfl,h1⟩:=hs.one;exact⟨u,rfl,Hz h h1⟩
 |[k],_::_::_,x,vs,h,_=>by cases h
 |k::k'::ks,[],x,vs,h,_=>by cases h
 |k::k'::ks,v::args,x,vs,h,hs=>by
  simp only[gap.deca] at h;split at h
  .rename_i y z h1 h2;obtain rfl:=osj h;simp only[SRs] at hs;obtain⟨u,us,rfl,h3,h4⟩:=hs;exact⟨u,us,rfl,Hz h1 h3,R4 h2 h4⟩
  .cases h
theorem Ret.flat {U U':Heap}{v:SV}{u:Value}(h:Ret P U v [] u U') (hv:v.ret 0=true):U'=U/\SR P hNil X1 J3 v u:=by obtain⟨_,h2,pl,_,_,h5⟩:=h;exact⟨h2 rfl,h5.retd (λj hj=>by omega) _ _ hv⟩
theorem KV.vcall {B U:Heap}(hB:B.Le U) {k:Kind}{x:k.T}{v:Value}(h:KV B k x v):KV U k x v:=by
 rcases h with⟨h1,h2⟩|⟨h1,cs,h2,h3⟩
 .exact .inl ⟨h1,h2.mono hB⟩
 .exact .inr ⟨h1,cs,h2,h3.mono hB⟩
theorem B7:∀ {k:Kind}{x:k.T},k.flat=true->SVs.ret 0 (M3 k x)=true
 |.i _,_,_|.bo,_,_|.st,_,_=>rfl
 |.list _,_,h=>by cases h
 |.pair a b,x,h=>by
  simp only[Kind.flat,z8] at h;have app:∀ l m:List SV,SVs.ret 0 l=true->SVs.ret 0 m=true->SVs.ret 0 (l++m)=true:=by
   intro l m hl hm;induction l with
   |nil=>exact hm
   |cons s l ih =>simp only[SVs.ret,z8,xF] at hl |-;exact⟨hl.1,ih hl.2⟩
  exact app _ _ (B7 h.1) (B7 h.2)
theorem Q1b {k:Kind}{x:k.T}(h:k.flat=true):(FO k x).ret 0=true:=by
 cases k with
 |pair a b=>exact B7 (k:=.pair a b) h
 |list k=>cases h
 |_=>rfl
theorem IP {cs:List (Nat×CSp)}(h:CsOk P cs):∀ n,Q09 P (gap cs n)
 |0=>λU f args c v fV vs _ _ h=>by cases h
 |n+1=>by
  intro U f args c v fV vs hf ha hg hc;cases f with
  |fn g a b =>
   simp only[gap] at hg;split at hg
   .rename_i sp bM;split at hg
    .rename_i c' v' heq;cases hv:v'.ret 0 with
     |false=>rw[hv] at hg;cases hg
     |true =>rw[hv] at hg;simp only[zm,xi,Prod.mk.injEq] at hg;obtain⟨rfl,rfl⟩:=hg;simp only[SR] at hf;obtain⟨x,y,rfl,h1,h2⟩:=hf;refine⟨hv,g,x.toArray,y.toArray,rfl,?_⟩;have:=(h g sp bM (gap cs n) (IP h n) U (a++args++b) (x++vs++y) c' v' [] ((h1.append ha).append h2) heq hv rfl hc).1;simpa using this.mono λu U' hr=>hr.flat hv
    .cases hg
   .cases hg
  |pf ks r cT p =>
   simp only[gap] at hg;split at hg
   .rename_i x hx;cases hr:r.flat with
    |false=>rw[hr] at hg;cases hg
    |true =>rw[hr] at hg;obtain⟨rfl,rfl⟩:=Z8 hg;simp only[SR] at hf;obtain⟨g,first,cap,rfl,aD⟩:=hf;have h2:=aD x hc U vs (Heap.Le.refl _) (R4 hx ha);have dG:=Q1b (x:=p x) hr;exact⟨dG,g,first,cap,rfl,h2.mono λu U' hu=>⟨hu.1,(Xj (P:=P) (pl:=X1) (tb:=J3) hu.2).retd (λj hj=>by omega) _ _ dG⟩⟩
   .cases hg
  |_=>cases hg
end
end Go.V
namespace Go.V
open Go
theorem DropTo.rename2 {σ0 σf U':Heap}{v v':Value}(π:Nat->Nat) (h1:σ0.n<=U'.n)
  (h2:∀ i,i<σ0.n->π i=i/\U'.get i=σf.get i/\(σf.get i=σ0.get i\/∃ b,σf.get i=some b/\b.plain=true))
  (h3:∀ i,σ0.n<=i->i<U'.n->σ0.n<=π i/\((U'.get i=none/\σf.get (π i)=none)\/∃ b' b,U'.get i=some b'/\σf.get (π i)=some b/\BRen U'.n π b' b))
  (h4:∀ i j,σ0.n<=i->i<U'.n->σ0.n<=j->j<U'.n->π i=π j->i=j) (h5:Ren U'.n π v' v):DropTo σ0 v σf v' U':=by
 intro ρ0 w0 ρ w c gu hE hH hv;have hπ:∀ i,i<σ0.n->π i=i:=λi hi=>(h2 i hi).1;have hblk:∀ i b',U'.get i=some b'->∃ b,σf.get (π i)=some b/\BRen U'.n π b' b:=λi b' hb=>by
  have hi:=U'.lt hb;rcases zn i σ0.n with ah|bG
  .obtain⟨k1,k2,k3⟩:=h2 i ah;rw[k1];rw[k2] at hb;refine⟨b',hb,?_⟩;rcases k3 with k3|⟨b,k3,k4⟩
   .rw[k3] at hb;obtain⟨p,_,hB⟩:=gu.live i b' hb;exact hB.ren h1 hπ
   .rw[k3] at hb;obtain rfl:=osj hb;exact BRen.plain k4
  .obtain⟨_,⟨k1,_⟩|⟨b1,b,k1,k2,k3⟩⟩:=h3 i bG hi
   .rw[k1] at hb;cases hb
   .rw[k1] at hb;obtain rfl:=osj hb;exact⟨b,k2,k3⟩
 have e6:∀ i j,i<U'.n->j<U'.n->π i=π j->i=j:=λi j hi hj he=>by
  rcases zn i σ0.n with ah|bG<;>rcases zn j σ0.n with b8|iV
  .rw[hπ i ah,hπ j b8] at he;exact he
  .have:=(h3 j iV hj).1;rw[hπ i ah] at he;omega
  .have:=(h3 i bG hi).1;rw[hπ j b8] at he;omega
  .exact h4 i j bG hi iV hj he
 have hX:Ext ρ0 σ0 w0 (λi=>if i<U'.n then ρ (π i) else none) U' w:=by
  refine⟨hE.os,hE.tape,hE.output,hE.size,hE.keep,?_,h1,λi hi p hp=>?_⟩
  .rintro B hB ⟨i,p,b,hp,hb,hw,rfl⟩;change (if i<U'.n then ρ (π i) else none)=some p at hp;split at hp
   .obtain⟨b0,br,bB⟩:=hblk i b hb;exact hE.wr _ hB ⟨π i,p,b0,hp,br,by rw[<-bB.wr];exact hw,rfl⟩
   .cases hp
  .change (if i<U'.n then ρ (π i) else none)=some p at hp;split at hp
   .rw[hπ i hi] at hp;exact hE.pl i hi p hp
   .cases hp
 refine⟨λi=>if i<U'.n then ρ (π i) else none,h5.rel hv,gu.ext ⟨λi b' hb=>?_,λi hi=>?_,λi p hp=>?_,λi j p q b bN hp hq hb hw hx=>?_⟩ hX,hX⟩
 .obtain⟨b,br,bB⟩:=hblk i b' hb;obtain⟨p,hp,hB⟩:=hH.live _ b br;exact⟨p,by simp[U'.lt hb,hp],bB.rel hB⟩
 .show (if i<U'.n then ρ (π i) else none)=none;split
  .rename_i ah;rcases zn i σ0.n with b8|bG
   .obtain⟨k1,k2,_⟩:=h2 i b8;rw[k1];exact hH.dead i (by rw[<-k2];exact hi)
   .obtain⟨_,⟨_,k2⟩|⟨b1,b,k1,_⟩⟩:=h3 i bG ah
    .exact hH.dead _ k2
    .rw[k1] at hi;cases hi
  .rfl
 .change (if i<U'.n then ρ (π i) else none)=some p at hp;split at hp
  .exact hH.lt _ p hp
  .cases hp
 .change (if i<U'.n then ρ (π i) else none)=some p at hp;change (if j<U'.n then ρ (π j) else none)=some q at hq;split at hp
  .rename_i hi;split at hq
   .rename_i hj;obtain⟨b0,br,bB⟩:=hblk i b hb;exact hH.sep (π i) (π j) p q b0 (λe=>bN (e6 i j hi hj e)) hp hq br (by rw[<-bB.wr];exact hw) hx
   .cases hq
  .cases hp
theorem KC.enc {h:Heap}:∀ {k:Kind}{x:k.T}{cs:List Value},k.flat=true->KC h k x cs->cs=Mw k x
 |.i _,_,_,_,e|.bo,_,_,_,e|.st,_,_,_,e=>e
 |.list _,_,_,f,_=>by cases f
 |.pair a b,x,cs,f,e=>by simp only[Kind.flat,z8] at f;obtain⟨c1,c2,rfl,h1,h2⟩:=e;rw[KC.enc f.1 h1,KC.enc f.2 h2];rfl
theorem Rows.enc {h:Heap}{k:Kind}(hk:k.flat=true) {xs:List k.T}{cs:List Value}(hr:Rows (KC h k) xs cs):cs=(xs.map (Mw k)).flatten:=by
 induction hr with
 |nil=>rfl
 |cons h _ ih=>rw[zG,List.flatten_cons,<-ih,KC.enc hk h]
theorem No:∀ {k:Kind}{x:k.T},k.flat=true->(Mw k x).all QM=true
 |.i _,_,_|.bo,_,_|.st,_,_=>rfl
 |.list _,_,h=>by cases h
 |.pair a b,x,h=>by simp only[Kind.flat,z8] at h;simp only[Mw,List.all_append,z8];exact⟨No h.1,No h.2⟩
section
variable {P:Program}
mutual
theorem Vn {B:Heap}{pl:Nat->Value}{tb:Nat->Option Bool}{n:Nat}:∀ (s:SV) (v:Value),s.ret n=true->V8 s=true->SR P B pl tb s v->v=Vf pl s
 |.val k x,v,h,_,hs=>by simp only[SR] at hs;have:=KC.enc h hs;simp only[Vf,<-this,List.headD_cons]
 |.nilS,v,_,_,hs|.nilP,v,_,_,hs|.nilM,v,_,_,hs|.nilF,v,_,_,hs=>by simp only[SR] at hs;exact hs
 |.lst j,v,_,_,hs=>by simp only[SR] at hs;exact hs.1
 |.agg l,v,h,hb,hs=>by simp only[SR] at hs;obtain⟨cs,rfl,h2⟩:=hs;rw[Gj l cs h hb h2];rfl
 |.tup l,v,h,hb,hs=>by simp only[SR] at hs;obtain⟨cs,rfl,h2⟩:=hs;rw[Gj l cs h hb h2];rfl
 |.box _ _,_,_,hb,_|.map _,_,_,hb,_=>by cases hb
 |.any,_,h,_,_|.bid _ _,_,h,_,_|.grd _ _,_,h,_,_|.sub _ _ _ _,_,h,_,_|.elp _ _ _ _,_,h,_,_|.rop _ _ _ _,_,h,_,_|.cp _ _,_,h,_,_|.fn _ _ _,_,h,_,_|.pf _ _ _ _,_,h,_,_=>by cases h
theorem Gj {B:Heap}{pl:Nat->Value}{tb:Nat->Option Bool}{n:Nat}:∀ (s:List SV) (v:List Value),SVs.ret n s=true->NB s=true->SRs P B pl tb s v->v=YW pl s
 |[],v,_,_,hs=>by simp only[SRs] at hs;exact hs
 |s::ss,v,h,hb,hs=>by simp only[SVs.ret,z8] at h;simp only[NB,z8] at hb;simp only[SRs] at hs;obtain⟨x,y,rfl,h1,h2⟩:=hs;rw[Vn s x h.1 hb.1 h1,Gj ss y h.2 hb.2 h2];rfl
end
theorem IL {k:Kind}{x:k.T}(h:k.flat=true):QM ((Mw k x).headD poison)=true\/(Mw k x).headD poison=poison:=by
 have:=No (x:=x) h;cases e:Mw k x with
 |nil=>exact .inr rfl
 |cons a l=>rw[e] at this;simp only[zZ,z8] at this;exact .inl this.1
mutual
theorem AI {n m:Nat}{π:Nat->Nat}{p q:Nat->Value}(h:∀ j,j<m->Ren n π (p j) (q j)):∀ (s:SV),s.ret m=true->V8 s=true->Ren n π (Vf p s) (Vf q s)
 |.val k x,hr,_=>by
  simp only[Vf];rcases IL (x:=x) hr with h|h
  .exact .plain _ h
  .rw[h];exact .poison _
 |.nilS,_,_|.nilP,_,_|.nilM,_,_|.nilF,_,_=>.plain _ rfl
 |.lst j,hr,_=>h j (by simpa [SV.ret,zR] using hr)
 |.agg l,hr,hb=>by have:=HO h l hr hb;simp only[Vf];refine .agg _ _ (by simpa using this.1) λi h1 h2=>this.2 i _ _ (by simp) (by simp)
 |.tup l,hr,hb=>by have:=HO h l hr hb;simp only[Vf];refine .tuple _ _ (by simpa using this.1) λi h1 h2=>this.2 i _ _ (by simp) (by simp)
 |.box _ _,_,hb|.map _,_,hb=>by cases hb
 |.any,h,_|.bid _ _,h,_|.grd _ _,h,_|.sub _ _ _ _,h,_|.elp _ _ _ _,h,_|.rop _ _ _ _,h,_|.cp _ _,h,_|.fn _ _ _,h,_|.pf _ _ _ _,h,_=>by cases h
theorem HO {n m:Nat}{π:Nat->Nat}{p q:Nat->Value}(h:∀ j,j<m->Ren n π (p j) (q j)):∀ (s:List SV),SVs.ret m s=true->NB s=true->LRen n π (YW p s) (YW q s)
 |[],_,_=>⟨rfl,λi v c hv=>by simp[YW] at hv⟩
 |s::ss,hr,hb=>by
  simp only[SVs.ret,z8] at hr;simp only[NB,z8] at hb;have h1:=AI h s hr.1 hb.1;have h2:=HO h ss hr.2 hb.2;refine⟨by simp[YW,h2.1],λi v c hv hc=>?_⟩;cases i with
  |zero=>simp[YW] at hv hc;subst hv;subst hc;exact h1
  |succ i=>simp[YW] at hv hc;exact h2.2 i v c hv hc
end
mutual
theorem LP {m:Nat}{S:Nat->Prop}{p q:Nat->Value}(h:∀ j,j<m->Weak S (p j) (q j)):∀ (s:SV),s.ret m=true->V8 s=true->Weak S (Vf p s) (Vf q s)
 |.val k x,_,_=>.refl _
 |.nilS,_,_|.nilP,_,_|.nilM,_,_|.nilF,_,_=>.refl _
 |.lst j,hr,_=>h j (by simpa [SV.ret,zR] using hr)
 |.agg l,hr,hb=>by have:=D_ h l hr hb;simp only[Vf];exact .agg _ _ this.1 this.2
 |.tup l,hr,hb=>by have:=D_ h l hr hb;simp only[Vf];exact .tuple _ _ this.1 this.2
 |.box _ _,_,hb|.map _,_,hb=>by cases hb
 |.any,h,_|.bid _ _,h,_|.grd _ _,h,_|.sub _ _ _ _,h,_|.elp _ _ _ _,h,_|.rop _ _ _ _,h,_|.cp _ _,h,_|.fn _ _ _,h,_|.pf _ _ _ _,h,_=>by cases h
theorem D_ {m:Nat}{S:Nat->Prop}{p q:Nat->Value}(h:∀ j,j<m->Weak S (p j) (q j)):∀ (s:List SV),SVs.ret m s=true->NB s=true->(YW p s).length=(YW q s).length/\∀ (i:Nat) (a b:Value),(YW p s)[i]?=some a->(YW q s)[i]?=some b->Weak S a b
 |[],_,_=>⟨rfl,λi v c hv=>by simp[YW] at hv⟩
 |s::ss,hr,hb=>by
  simp only[SVs.ret,z8] at hr;simp only[NB,z8] at hb;have h1:=LP h s hr.1 hb.1;have h2:=D_ h ss hr.2 hb.2;refine⟨by simp[YW,h2.1],λi v c hv hc=>?_⟩;cases i with
  |zero=>simp[YW] at hv hc;subst hv;subst hc;exact h1
  |succ i=>simp[YW] at hv hc;exact h2.2 i v c hv hc
end
theorem KC.ofEnc {h:Heap}:∀ {k:Kind}{x:k.T},k.flat=true->KC h k x (Mw k x)
 |.i _,_,_|.bo,_,_|.st,_,_=>by simp[KC,Mw]
 |.list _,_,f=>by cases f
 |.pair a b,x,f=>by simp only[Kind.flat,z8] at f;exact⟨_,_,rfl,KC.ofEnc f.1,KC.ofEnc f.2⟩
theorem Rows.ofEnc {h:Heap}{k:Kind}(hk:k.flat=true):∀ xs:List k.T,Rows (KC h k) xs (xs.map (Mw k)).flatten
 |[]=>.nil
 |x::xs=>by rw[zG,List.flatten_cons];exact .cons (KC.ofEnc hk) (Rows.ofEnc hk xs)
mutual
theorem RF {pl:Nat->Value}{m:Nat}(h:∀ j,j<m->∃ a n c,pl j=.slice a n c):∀ (s:SV),s.ret m=true->V8 s=true->SR P hNil pl J3 s (Vf pl s)
 |.val k x,hr,hb=>by have h1:=KC.ofEnc (h:=hNil) (x:=x) hr;have h2:=KC.length h1;rw[Kind.q1s hb] at h2;obtain⟨c,e⟩:=x9.1 h2;simp only[Vf,SR,e,List.headD_cons];rw[e] at h1;exact h1
 |.nilS,_,_|.nilP,_,_|.nilM,_,_|.nilF,_,_=>by simp[Vf,SR]
 |.lst j,hr,_=>by simp only[Vf,SR];exact⟨trivial,h j (by simpa [SV.ret,zR] using hr)⟩
 |.agg l,hr,hb=>by simp only[Vf,SR];exact⟨_,rfl,SB h l hr hb⟩
 |.tup l,hr,hb=>by simp only[Vf,SR];exact⟨_,rfl,SB h l hr hb⟩
 |.box _ _,_,hb|.map _,_,hb=>by cases hb
 |.any,h,_|.bid _ _,h,_|.grd _ _,h,_|.sub _ _ _ _,h,_|.elp _ _ _ _,h,_|.rop _ _ _ _,h,_|.cp _ _,h,_|.fn _ _ _,h,_|.pf _ _ _ _,h,_=>by cases h
theorem SB {pl:Nat->Value}{m:Nat}(h:∀ j,j<m->∃ a n c,pl j=.slice a n c):∀ (s:List SV),SVs.ret m s=true->NB s=true->SRs P hNil pl J3 s (YW pl s)
 |[],_,_=>by simp[YW,SRs]
 |s::ss,hr,hb=>by simp only[SVs.ret,z8] at hr;simp only[NB,z8] at hb;simp only[YW,SRs];exact⟨_,_,rfl,RF h s hr.1 hb.1,SB h ss hr.2 hb.2⟩
end
theorem Q5w {U:Heap}{bs:List OB}(hl:bs.all OB.isL=true) {j:Nat}(hj:j<bs.length):∃ a n c,Ro U bs j=.slice a n c:=by
 have hb:=zf.1 hl _ (zp hj);simp only[Ro,z6 hj];cases e:bs[j] with
 |lst ty k xs nl=>cases nl<;>simp
 |_=>rw[e] at hb;cases hb
theorem Ft {σ0 σf:Heap}(hA:Agree σ0 σf) (hn:σ0.n<=σf.n) {v:SV}{bs:List OB}(hv:v.ret bs.length=true) (cJ:V8 v=true) (hb:bs.all OB.ret=true) (hl:bs.all OB.isL=true) {pl:Nat->Value}{u:Value}
  (aq:∀ j b,bs[j]?=some b->OR P hNil pl J3 σf (pl j) b/\∀ i,oid (pl j)=some i->σ0.n<=i)
  (fK:∀ j j' i,j<bs.length->j'<bs.length->j≠j'->oid (pl j)=some i->oid (pl j')=some i->False) (hu:SR P hNil pl J3 v u) :
  DropTo σ0 u σf (Vf (Ro σ0 bs) v) (BQ σ0 bs):=by
 have cD:=Vn v u hv cJ hu;subst cD;have kind:∀ j,j<bs.length->∃ ty k xs nl,bs[j]?=some (.lst ty k xs nl)/\k.flat=true/\((nl=true/\xs=[]/\pl j=.slice none 0 0)\/(nl=false/\∃ i cap c t,pl j=.slice (some ⟨i,0,none⟩) xs.length cap/\xs.length<=cap/\σ0.n<=i/\σf.get i=some (.cells c ⟨k.size,ty⟩ true t)/\c.take (xs.length*k.size)=(xs.map (Mw k)).flatten/\Rows (KC hNil k) xs (xs.map (Mw k)).flatten)):=by
  intro j hj;have e:=z6 hj;have h1:=zf.1 hb _ (zp hj);have h2:=zf.1 hl _ (zp hj);obtain⟨ho,hi⟩:=aq j _ e;cases ck:bs[j] with
  |lst ty k xs nl =>
   rw[ck] at e ho h1;refine⟨ty,k,xs,nl,e,h1,?_⟩;rcases ho with⟨k1,k2,k3⟩|⟨k0,i,cap,c,t,k1,k2,k3,k4,k5⟩
   .exact .inl ⟨k1,k2,k3⟩
   .have k6:=Rows.enc h1 k5;exact .inr ⟨k0,i,cap,c,t,k1,k2,hi i (by rw[k1];rfl),k3,k6,by rw[<-k6];exact k5⟩
  |_=>rw[ck] at h2;cases h2
 let S:Nat->Bool:=λi=>(List.range bs.length).any λj=>decide (oid (pl j)=some i);have hS:∀ i,S i=true<->∃ j,j<bs.length/\oid (pl j)=some i:=λi=>by simp only[S,xD,zz,zC]
 let σw:Heap:=⟨λi=>if S i=true then ((List.range bs.length).find? λj=>decide (oid (pl j)=some i)).bind λj=>(bs[j]?).bind FM else σf.get i,σf.n,λi hi=>by
  by_cases h:S i=true
  .obtain⟨j,hj,bn⟩:=(hS i).1 h;obtain⟨ty,k,xs,nl,_,_,h3⟩:=kind j hj;rcases h3 with⟨_,_,k3⟩|⟨_,i',cap,c,t,k1,_,_,k3,_⟩
   .rw[k3] at bn;cases bn
   .rw[k1] at bn;obtain rfl:=osj bn;exact absurd (σf.lt k3) (wB.2 hi)
  .rw[z1 h];exact σf.wf i hi⟩
 have cZ:∀ j i,j<bs.length->oid (pl j)=some i->σw.get i=(bs[j]?).bind FM:=λj i hj bn=>by
  have h1:S i=true:=(hS i).2 ⟨j,hj,bn⟩;show (if S i=true then _ else _)=_;rw[z7 h1];cases hf:(List.range bs.length).find? λj=>decide (oid (pl j)=some i) with
  |none=>have:=List.find?_eq_none.1 hf j (zz.2 hj);simp[bn] at this
  |some j' =>have h2:=List.find?_some hf;have h3:=zz.1 (List.mem_of_find?_eq_some hf);have h4:j'=j:=Classical.byContradiction λaz=>fK j' j i h3 hj az (by simpa using h2) bn;subst h4;rfl
 let q:Nat->Value:=λj=>match pl j with
  |.slice (some a) n _=>.slice (some a) n n
  |v=>v
 have hq:∀ j,j<bs.length->Weak (λi=>S i=true) (pl j) (q j):=λj hj=>by
  obtain⟨ty,k,xs,nl,_,_,h3⟩:=kind j hj;rcases h3 with⟨_,_,k3⟩|⟨_,i',cap,c,t,k1,k2,_,k3,_⟩
  .simp only[q,k3];exact .refl _
  .simp only[q,k1];exact .sl _ _ _ ((hS i').2 ⟨j,hj,by rw[k1];rfl⟩) k2
 have ov:DropTo σ0 (Vf pl v) σf (Vf q v) σw:=by
  refine DropTo.weaken S (λi hi=>?_) rfl hn (λi hi=>?_) (λi hi=>?_) (LP hq v hv cJ)
  .obtain⟨j,hj,bn⟩:=(hS i).1 hi;exact(aq j _ (z6 hj)).2 i bn
  .show (if S i=true then _ else _)=_;rw[z1 (by simp[hi])]
  .obtain⟨j,hj,bn⟩:=(hS i).1 hi;obtain⟨ty,k,xs,nl,e,_,h3⟩:=kind j hj;rcases h3 with⟨_,_,k3⟩|⟨k0,i',cap,c,t,k1,k2,_,k3,k4,_⟩
   .rw[k3] at bn;cases bn
   .rw[k1] at bn;obtain rfl:=osj bn;refine⟨c,_,true,t,xs.length*k.size,k3,?_⟩;rw[cZ j _ hj (by rw[k1];rfl),e];simp only[xt,FM,k0];rw[k4];rfl
 have jy:∀ j i,j<bs.length->oid (pl j)=some i->i<σf.n:=λj i hj bn=>by
  obtain⟨ty,k,xs,nl,_,_,h3⟩:=kind j hj;rcases h3 with⟨_,_,k3⟩|⟨_,i',cap,c,t,k1,_,_,k3,_⟩
  .rw[k3] at bn;cases bn
  .rw[k1] at bn;obtain rfl:=osj bn;exact σf.lt k3
 let π:Nat->Nat:=λi=>if i<σ0.n then i else match oid (pl (i-σ0.n)) with
  |some id=>id
  |none=>σf.n+i
 have ui:σw.n=σf.n:=rfl;have ox:DropTo σ0 (Vf q v) σw (Vf (Ro σ0 bs) v) (BQ σ0 bs):=by
  refine DropTo.rename2 π (by simp[BQ]) (λi hi=>⟨by simp[π,hi],?_,.inl ?_⟩) (λi h1 h2=>?_) (λi j h1 h2 h3 h4 he=>?_) (AI (λj hj=>?_) v hv cJ)
  .have hs:S i=false:=by
    cases hs:S i with
    |false=>rfl
    |true=>obtain⟨j,hj,bn⟩:=(hS i).1 hs;have:=(aq j _ (z6 hj)).2 i bn;omega
   show (if i<σ0.n then _ else _)=(if S i=true then _ else _);rw[z7 hi,z1 (by simp[hs]),hA i hi]
  .have hs:S i=false:=by
    cases hs:S i with
    |false=>rfl
    |true=>obtain⟨j,hj,bn⟩:=(hS i).1 hs;have:=(aq j _ (z6 hj)).2 i bn;omega
   show (if S i=true then _ else _)=_;rw[z1 (by simp[hs]),hA i hi]
  .have hj:i-σ0.n<bs.length:=by simp[BQ] at h2;omega
   have bG:¬ i<σ0.n:=by omega
   obtain⟨ty,k,xs,nl,e,qK,h3⟩:=kind _ hj;have oy:(BQ σ0 bs).get i=(bs[i-σ0.n]?).bind FM:=by show (if i<σ0.n then _ else _)=_;rw[z1 bG]
   rcases h3 with⟨k0,_,k3⟩|⟨k0,i',cap,c,t,k1,k2,l7,k3,k4,_⟩
   .have hp:π i=σf.n+i:=by simp only[π,z1 bG,k3,oid]
    refine⟨by omega,.inl ⟨?_,σw.wf _ (by rw[hp,ui];omega)⟩⟩;rw[oy,e];simp[FM,k0]
   .have hp:π i=i':=by simp only[π,z1 bG,k1,oid]
    rw[hp];have hw:=cZ _ i' hj (by rw[k1];rfl);rw[e] at hw;simp only[xt,FM,k0] at hw;refine⟨l7,.inr ⟨_,_,?_,hw,BRen.plain ?_⟩⟩
    .rw[oy,e];simp[FM,k0]
    .simp only[Blk.plain,List.all_flatten,List.all_map];rw[zf];intro x _;exact No qK
  .have hi:i-σ0.n<bs.length:=by simp[BQ] at h2;omega
   have hj:j-σ0.n<bs.length:=by simp[BQ] at h4;omega
   have iz:¬ i<σ0.n:=by omega
   have uj:¬ j<σ0.n:=by omega
   simp only[π,z1 iz,z1 uj] at he;cases e1:oid (pl (i-σ0.n)) with
   |none =>
    cases e2:oid (pl (j-σ0.n)) with
    |none=>rw[e1,e2] at he;simp only at he;omega
    |some b=>rw[e1,e2] at he;have:=jy _ b hj e2;simp only at he;omega
   |some a =>
    cases e2:oid (pl (j-σ0.n)) with
    |none=>rw[e1,e2] at he;have:=jy _ a hi e1;simp only at he;omega
    |some b =>rw[e1,e2] at he;simp only at he;subst he;have:i-σ0.n=j-σ0.n:=Classical.byContradiction λaz=>fK _ _ a hi hj az e1 e2;omega
  .obtain⟨ty,k,xs,nl,e,_,h3⟩:=kind j hj;rcases h3 with⟨k0,kx,k3⟩|⟨k0,i',cap,c,t,k1,k2,_,k3,_⟩
   .simp only[Ro,e,k0,zI,q,k3];exact .plain _ rfl
   .simp only[Ro,e,k0,zD,if_false,q,k1];have hp:π (σ0.n+j)=i':=by
     have:¬ σ0.n+j<σ0.n:=by omega
     simp only[π,z1 this,Nat.add_sub_cancel_left,k1,oid]
    have:=Ren.sl (n:=(BQ σ0 bs).n) (π:=π) (σ0.n+j) 0 xs.length xs.length (by simp[BQ];omega)
    rwa [hp] at this
 exact ov.trans ox
def OB.wfL:OB->Prop
 |.lst _ _ xs nl=>nl=true->xs=[]
 |_=>True
theorem LR (σ0:Heap) {v:SV}{bs:List OB}(hv:v.ret bs.length=true) (cJ:V8 v=true) (hb:bs.all OB.ret=true) (hl:bs.all OB.isL=true) (hw:∀ b∈bs,b.wfL):Ret P σ0 v bs (Vf (Ro σ0 bs) v) (BQ σ0 bs):=by
 have kind:∀ j,j<bs.length->∃ ty k xs nl,bs[j]?=some (.lst ty k xs nl)/\k.flat=true/\(nl=true->xs=[]):=λj hj=>by
  have e:=z6 hj;have h1:=zf.1 hb _ (zp hj);have h2:=zf.1 hl _ (zp hj);have h3:=hw _ (zp hj);cases ck:bs[j] with
  |lst ty k xs nl=>rw[ck] at e h1 h3;exact⟨ty,k,xs,nl,e,h1,h3⟩
  |_=>rw[ck] at h2;cases h2
 refine⟨⟨?_,?_⟩,?_,Ro σ0 bs,λj b hj=>?_,λj j' i hj dy az h1 h2=>?_,RF (λj hj=>Q5w hl hj) v hv cJ⟩
 .refine⟨by simp[BQ],λi b hg=>?_⟩;show (if i<σ0.n then _ else _)=_;rw[z7 (σ0.lt hg)];exact hg
 .refine⟨by simp[BQ],λi hi hg=>?_⟩;show (if i<σ0.n then _ else _)=_;rw[z7 hi];exact hg
 .rintro rfl;apply Heap.ext'
  .intro i;show (if i<σ0.n then _ else _)=_;by_cases hi:i<σ0.n
   .rw[z7 hi]
   .rw[z1 hi,σ0.wf i (by omega)];rfl
  .simp[BQ]
 .have cm:j<bs.length:=(zg.1 hj).1;obtain⟨ty,k,xs,nl,e,qK,h3⟩:=kind j cm;obtain rfl:=osj (e.symm.trans hj);cases nl with
  |true =>
   have hp:Ro σ0 bs j=.slice none 0 0:=by simp[Ro,e]
   rw[hp];exact⟨.inl ⟨rfl,h3 rfl,rfl⟩,λi hi=>by cases hi⟩
  |false =>
   have hp:Ro σ0 bs j=.slice (some ⟨σ0.n+j,0,none⟩) xs.length xs.length:=by simp[Ro,e]
   have k5:=Rows.ofEnc (h:=hNil) qK xs;have dp:=k5.length KC.q0h;rw[hp];refine⟨.inr ⟨rfl,σ0.n+j,xs.length,(xs.map (Mw k)).flatten,false,rfl,ze _,?_,by omega,?_⟩,λi hi=>?_⟩
   .show (if σ0.n+j<σ0.n then _ else _)=_;rw[z1 (by omega),Nat.add_sub_cancel_left,e];simp[FM]
   .rw[zN (by omega)];exact k5
   .obtain rfl:=osj hi;exact⟨σ0.wf _ (by simp),by simp⟩
 .obtain⟨ty,k,xs,nl,e,_,h3⟩:=kind j hj;obtain⟨gB,k',cL,l5,e',_,kV⟩:=kind j' dy;simp only[Ro,e] at h1;simp only[Ro,e'] at h2;cases nl with
  |true=>simp[Oid,oid] at h1
  |false =>
   cases l5 with
   |true=>simp[Oid,oid] at h2
   |false=>simp[Oid,oid] at h1 h2;omega
end
end Go.V