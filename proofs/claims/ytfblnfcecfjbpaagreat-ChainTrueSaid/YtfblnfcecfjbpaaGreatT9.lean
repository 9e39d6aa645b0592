/- A framework for walks, contracts of functions, and their proofs: part 9. -/
import Derived.Laws.Closers25b
import Derived.Test.YtfblnfcecfjbpaaGreatT8
namespace Go.V
open Go
inductive Kind where
 |i (k:IntKind)
 |bo
 |st
 |list (k:Kind)
 |pair (a b:Kind)
 deriving DecidableEq,Inhabited
abbrev Kind.T:Kind->Type
 |.i _=>Int
 |.bo=>Bool
 |.st=>List UInt8
 |.list k=>List k.T
 |.pair a b=>a.T×b.T
def Kind.size:Kind->Nat
 |.pair a b=>a.size+b.size
 |_=>1
def Kind.dflt:(k:Kind)->k.T
 |.i _=>(0:Int)
 |.bo=>false
 |.st=>([]:List UInt8)
 |.list _=>[]
 |.pair a b=>(a.dflt,b.dflt)
def Kind.one:Kind->Bool
 |.pair _ _=>false
 |_=>true
theorem Kind.size_pos:∀ k:Kind,0<k.size
 |.pair a b=>by have:=a.size_pos;simp only[Kind.size];omega
 |.i _|.bo|.st|.list _=>by simp[Kind.size]
theorem Kind.q1p:∀ {k:Kind},k.one=true->k.size=1
 |.pair _ _,h=>by cases h
 |.i _,_|.bo,_|.st,_|.list _,_=>rfl
def Kind.prim:Kind->Bool
 |.i _|.bo|.st=>true
 |_=>false
def Kind.keyk:Kind->Bool
 |.pair a b=>a.keyk&&b.keyk
 |k=>k.prim
abbrev AT:List Kind->Type
 |[]=>Unit
 |[k]=>k.T
 |k::k'::ks=>k.T×AT (k'::ks)
structure Gd where
 id:Nat
 want:Bool
 c:Bool
inductive DW where
 |out
 |el (i:Int) (off sz:Nat)
 |row (k:Kind) (x:List k.T) (i:Int)
 |rowp (k:Kind) (x:List k.T) (i j:Int) (off:Nat)
 |inn (k:Kind) (x:List k.T)
 |inp (k:Kind) (l:List k.T) (j:Int) (off:Nat)
 |dat
 |obx (c:Bool)
 |yv
inductive SV where
 |dd (o:Nat) (w:DW)
 |any
 |val (k:Kind) (x:k.T)
 |bid (n:Nat) (c:Bool)
 |grd (gs:List Gd) (v:SV)
 |nilS
 |nilP
 |nilM
 |nilF
 |lst (o:Nat)
 |sub (o:Nat) (lo n sz:Nat)
 |elp (o:Nat) (i:Int) (off sz:Nat)
 |rop (k:Kind) (l:List k.T) (i:Int) (off:Nat)
 |box (o:Nat) (off:Nat)
 |cp (l:List SV) (off:Nat)
 |map (o:Nat)
 |agg (l:List SV)
 |tup (l:List SV)
 |fn (f:Nat) (first dK:List SV)
 |pf (ks:List Kind) (r:Kind) (cX:AT ks->Prop) (p:AT ks->r.T)
structure LpD where
 i:Nat
 vals:List Value
 r:Loop
inductive LpS where
 |busy
 |rdy
 |ret
 |exit (id:Nat)
def LpS.st:LpS->LoopState
 |.busy=>.busy
 |.rdy=>.ready
 |.ret=>.done
 |.exit _=>.done
def LpS.pend:LpS->Option Code
 |.busy=>none
 |.rdy=>none
 |.ret=>some .ret
 |.exit id=>some (.exit id)
def LpS.live:LpS->Bool
 |.busy=>false
 |_=>true
inductive OB where
 |dead
 |lst (ty:Nat) (k:Kind) (xs:List k.T) (nl:Bool)
 |cells (l:List SV) (u:Option Nat)
 |map (kk vk:Kind) (m:List (kk.T×vk.T))
 |stk (l:List SV) (vals:List Value)
 |deep (ty:Nat) (q:Option Nat) (k:Kind) (xs:List k.T) (nl:Bool) (hole:Option Nat)
 |iter (kk vk:Kind) (m:List (kk.T×vk.T)) (dn:List Nat)
 |mapE (kk vk:Kind) (m:List (kk.T×vk.T)) (key:kk.T) (n:Int)
 |lpf (l:List SV) (q:LpD) (s:LpS)
instance:Inhabited SV:=⟨.any⟩
instance:Inhabited OB:=⟨.dead⟩
inductive Rows {α:Type}(R:α->List Value->Prop):List α->List Value->Prop
 |nil:Rows R [] []
 |cons {x:α}{xs:List α}{c cs:List Value}(h:R x c) (t:Rows R xs cs):Rows R (x::xs) (c++cs)
def SlRel (h:Heap) (sz:Nat) {α:Type}(R:α->List Value->Prop) (l:List α) (v:Value):Prop :=
 (l=[]/\v=.slice none 0 0)\/∃ i o cap c e wr t,v=.slice (some ⟨i,o,none⟩) l.length cap/\l.length<=cap/\h.get i=some (.cells c e wr t)/\e.sz=sz/\o+l.length*sz<=c.length/\Rows R l ((c.drop o).take (l.length*sz))
def KC (h:Heap):(k:Kind)->k.T->List Value->Prop
 |.i ik,x,cs=>cs=[.int ik x]
 |.bo,x,cs=>cs=[.bool x]
 |.st,x,cs=>cs=[.string ⟨x.toArray⟩]
 |.list k,l,cs=>∃ v,cs=[v]/\SlRel h k.size (λx c=>KC h k x c) l v
 |.pair a b,x,cs=>∃ c1 c2,cs=c1++c2/\KC h a x.1 c1/\KC h b x.2 c2
theorem Rows.length {α:Type}{R:α->List Value->Prop}{n:Nat}(hR:∀ x c,R x c->c.length=n) {xs:List α}{cs:List Value}(h:Rows R xs cs):cs.length=xs.length*n:=by
 induction h with
 |nil=>simp
 |cons h _ ih=>simp only[zI,hR _ _ h,ih,xh,zH,xF];omega
theorem Rows.mono {α:Type}{R R':α->List Value->Prop}(hR:∀ x c,R x c->R' x c) {xs:List α}{cs:List Value}(h:Rows R xs cs):Rows R' xs cs:=by
 induction h with
 |nil=>exact .nil
 |cons h _ ih=>exact .cons (hR _ _ h) ih
theorem Rows.append {α:Type}{R:α->List Value->Prop}{xs ys:List α}{cs ds:List Value}(h:Rows R xs cs) (h':Rows R ys ds):Rows R (xs++ys) (cs++ds):=by
 induction h with
 |nil=>exact h'
 |cons h _ ih=>rw[zZ];exact .cons h ih
theorem Rows.at {α:Type}{R:α->List Value->Prop}{n:Nat}(hR:∀ x c,R x c->c.length=n) {xs:List α}{cs:List Value}(h:Rows R xs cs) {k:Nat}(hk:k<xs.length):R xs[k] ((cs.drop (k*n)).take n):=by
 induction h generalizing k with
 |nil=>simp at hk
 |@cons x xs c cs h t ih =>
  have hc:=hR _ _ h;cases k with
  |zero=>simp only[Nat.zero_mul,x5,List.getElem_cons_zero];rw[<-hc,List.take_left];exact h
  |succ k =>
   have:=ih (k:=k) (by simpa using hk);rw[List.getElem_cons_succ,zH,xF];have e:(c++cs).drop (k*n+n)=cs.drop (k*n):=by rw[List.drop_append,hc];rw[List.drop_eq_nil_of_le (by omega)];simp
   rw[e];exact this
theorem Rows.take {α:Type}{R:α->List Value->Prop}{n:Nat}(hR:∀ x c,R x c->c.length=n) {xs:List α}{cs:List Value}(h:Rows R xs cs) (k:Nat):Rows R (xs.take k) (cs.take (k*n)):=by
 induction h generalizing k with
 |nil=>simp;exact .nil
 |@cons x xs c cs h t ih =>
  have hc:=hR _ _ h;cases k with
  |zero=>simp;exact .nil
  |succ k =>have e1:c.take ((k+1)*n)=c:=zx (by rw[hc,zH];omega);rw[wC,List.take_append,hc,show (k+1)*n-n=k*n by rw[zH];omega,e1];exact .cons h (ih k)
theorem Rows.drop {α:Type}{R:α->List Value->Prop}{n:Nat}(hR:∀ x c,R x c->c.length=n) {xs:List α}{cs:List Value}(h:Rows R xs cs) (k:Nat):Rows R (xs.drop k) (cs.drop (k*n)):=by
 induction h generalizing k with
 |nil=>simp;exact .nil
 |@cons x xs c cs h t ih =>
  have hc:=hR _ _ h;cases k with
  |zero=>simp;exact .cons h t
  |succ k =>have e1:c.drop ((k+1)*n)=[]:=List.drop_eq_nil_of_le (by rw[hc,zH];omega);rw[wG,List.drop_append,hc,show (k+1)*n-n=k*n by rw[zH];omega,e1,xj];exact ih k
theorem Rows.set {α:Type}{R:α->List Value->Prop}{n:Nat}(hR:∀ x c,R x c->c.length=n) {xs:List α}{cs:List Value}(h:Rows R xs cs) {k:Nat}(hk:k<xs.length) {y:α}{d:List Value}(hd:R y d):Rows R (xs.set k y) (cs.take (k*n)++d++cs.drop (k*n+n)):=by
 have e:xs.set k y=xs.take k++([y]++xs.drop (k+1)):=by rw[List.set_eq_take_append_cons_drop,z7 hk];rfl
 rw[e,zZ];have h2:=h.drop hR (k+1);rw[zH,xF] at h2;exact(h.take hR k).append ((show Rows R [y] d by simpa using Rows.cons hd .nil).append h2)
theorem Rows.replicate {α:Type}{R:α->List Value->Prop}{x:α}{c:List Value}(h:R x c):∀ n,Rows R (List.replicate n x) (List.replicate n c).flatten
 |0=>by simp;exact .nil
 |n+1=>by simp only[xy,List.flatten_cons];exact .cons h (Rows.replicate h n)
theorem KC.length {h:Heap}:∀ {k:Kind}{x:k.T}{cs:List Value},KC h k x cs->cs.length=k.size
 |.i _,_,_,e|.bo,_,_,e|.st,_,_,e=>by simp only[KC] at e;subst e;rfl
 |.list k,l,cs,e=>by obtain⟨v,rfl,_⟩:=e;rfl
 |.pair a b,x,cs,e=>by obtain⟨c1,c2,rfl,h1,h2⟩:=e;simp only[zI,KC.length h1,KC.length h2,Kind.size]
theorem SlRel.mono {h h':Heap}(hl:h.Le h') {sz:Nat}{α:Type}{R R':α->List Value->Prop}(hR:∀ x c,R x c->R' x c) {l:List α}{v:Value}(hs:SlRel h sz R l v):SlRel h' sz R' l v:=by
 rcases hs with hs|⟨i,o,cap,c,e,wr,t,h1,h2,h3,h4,h5,h6⟩
 .exact .inl hs
 .exact .inr ⟨i,o,cap,c,e,wr,t,h1,h2,hl.2 _ _ h3,h4,h5,h6.mono hR⟩
theorem KC.mono {h h':Heap}(hl:h.Le h'):∀ {k:Kind}{x:k.T}{cs:List Value},KC h k x cs->KC h' k x cs
 |.i _,_,_,e|.bo,_,_,e|.st,_,_,e=>e
 |.list k,l,cs,e=>by obtain⟨v,hv,hs⟩:=e;exact⟨v,hv,hs.mono hl λx c hx=>KC.mono (k:=k) hl hx⟩
 |.pair a b,x,cs,e=>by obtain⟨c1,c2,hc,h1,h2⟩:=e;exact⟨c1,c2,hc,KC.mono hl h1,KC.mono hl h2⟩
theorem KC.cellOk {h:Heap}:∀ {k:Kind}{x:k.T}{cs:List Value},KC h k x cs->cs.all cellOk=true
 |.i _,_,_,e|.bo,_,_,e|.st,_,_,e=>by simp only[KC] at e;subst e;rfl
 |.list k,l,cs,e=>by obtain⟨v,rfl,hs⟩:=e;rcases hs with⟨_,rfl⟩|⟨i,o,cap,c,e,wr,t,rfl,_⟩<;>rfl
 |.pair a b,x,cs,e=>by obtain⟨c1,c2,rfl,h1,h2⟩:=e;rw[List.all_append,KC.cellOk h1,KC.cellOk h2];rfl
def N0:(k:Kind)->k.T->List SV
 |.pair a b,x=>N0 a x.1++N0 b x.2
 |.i k,x=>[.val (.i k) x]
 |.bo,x=>[.val .bo x]
 |.st,x=>[.val .st x]
 |.list k,x=>[.val (.list k) x]
def C6:(k:Kind)->k.T->SV
 |.pair a b,x=>.agg (N0 (.pair a b) x)
 |.i k,x=>.val (.i k) x
 |.bo,x=>.val .bo x
 |.st,x=>.val .st x
 |.list k,x=>.val (.list k) x
inductive RowsO {α:Type}(R:α->List Value->List Nat->Prop):List α->List Value->List Nat->Prop
 |nil:RowsO R [] [] []
 |cons {x:α}{xs:List α}{c cs:List Value}{is js:List Nat}(h:R x c is) (t:RowsO R xs cs js):RowsO R (x::xs) (c++cs) (is++js)
def KO (H:Heap):(q:Option Nat)->(k:Kind)->k.T->List Value->List Nat->Prop
 |_,.i ik,x,cs,is=>cs=[.int ik x]/\is=[]
 |_,.bo,x,cs,is=>cs=[.bool x]/\is=[]
 |_,.st,x,cs,is=>cs=[.string ⟨x.toArray⟩]/\is=[]
 |q,.list k,l,cs,is=>(l=[]/\cs=[.slice none 0 0]/\is=[])\/∃ i cap c e t js,cs=[.slice (some ⟨i,0,none⟩) l.length cap]/\is=i::js/\l.length<=cap/\H.get i=some (.cells c e true t)/\e.sz=k.size/\(∀ ty,q=some ty->e.ty=ty)/\cap*k.size<=c.length /\
   RowsO (λx c is=>KO H none k x c is) l (c.take (l.length*k.size)) js
 |_,.pair a b,x,cs,is=>∃ c1 c2 i1 i2,cs=c1++c2/\is=i1++i2/\KO H none a x.1 c1 i1/\KO H none b x.2 c2 i2
def Z69 (i:Nat):Blk->Value
 |.cells c e _ t=>.tuple #[.int .i64 (i:Nat),.agg c.toArray,.int .i64 (e.sz:Nat),.int .i64 (e.ty:Nat),.bool t]
 |_=>.bool true
def Z5d:Value->Option (Nat×Blk)
 |.tuple ⟨[.int _ i,.agg c,.int _ sz,.int _ ty,.bool t]⟩=>some (i.toNat,.cells c.toList ⟨sz.toNat,ty.toNat⟩ true t)
 |_=>none
def Q9a:List Value->List (Nat×Blk)
 |[]=>[]
 |v::vs=>match Z5d v with|some p=>p::Q9a vs|none=>Q9a vs
def Sw:List (Nat×Blk)->Nat->Option Blk
 |[],_=>none
 |(j,b)::r,i=>if i=j then some b else Sw r i
def Q7q:List (Nat×Blk)->Nat
 |[]=>0
 |(j,_)::r=>max (j+1) (Q7q r)
theorem LQ:∀ (l:List (Nat×Blk)) (i:Nat),Q7q l<=i->Sw l i=none
 |[],_,_=>rfl
 |(j,b)::r,i,h=>by
  simp only[Q7q] at h;have:¬ i=j:=by omega
  simp only[Sw,z8 this];exact LQ r i (by omega)
def listH (l:List (Nat×Blk)):Heap:=⟨Sw l,Q7q l,λi h=>LQ l i h⟩
def phd:Value->Value
 |.tuple ⟨v::_⟩=>v
 |v=>v
def Xy:Value->Heap
 |.tuple ⟨_::vs⟩=>listH (Q9a vs)
 |_=>listH []
def DR (p:Value):DW->Value->Prop
 |.out,v=>v=phd p/\∃ a n c,v=.slice a n c
 |.el i off sz,v=>∃ b len cap,phd p=.slice (some ⟨b,0,none⟩) len cap/\0<=i/\i<len/\v=.pointer (some ⟨b,i.toNat*sz+off,none⟩)
 |.row k x i,v=>KC (Xy p) (.list k) x [v]/\(∀ a n c,v=.slice (some a) n c->a.off=0)/\∃ b len cap c e t,phd p=.slice (some ⟨b,0,none⟩) len cap/\0<=i/\i<len/\(Xy p).get b=some (.cells c e true t)/\c[i.toNat]?=some v
 |.rowp k x i j off,v=>∃ b len cap c e t r rl rc bL re rt,phd p=.slice (some ⟨b,0,none⟩) len cap/\0<=i/\i<len/\(Xy p).get b=some (.cells c e true t)/\c[i.toNat]?=some (.slice (some ⟨r,0,none⟩) rl rc)/\0<=j/\j<rl/\x.length=rl/\(Xy p).get r=some (.cells bL re true rt)/\rl*k.size<=bL.length/\Rows (KC (Xy p) k) x (bL.take (rl*k.size))/\v=.pointer (some ⟨r,j.toNat*k.size+off,none⟩)
 |.inn k x,v=>KC (Xy p) (.list k) x [v]
 |.inp k l j off,v=>∃ b o c e wr t,0<=j/\j<l.length/\(Xy p).get b=some (.cells c e wr t)/\v=.pointer (some ⟨b,o+j.toNat*k.size+off,none⟩)/\o+l.length*k.size<=c.length/\Rows (KC (Xy p) k) l ((c.drop o).take (l.length*k.size))
 |.dat,v=>(phd p=.slice none 0 0/\v=.pointer none)\/∃ b n cap,phd p=.slice (some ⟨b,0,none⟩) n cap/\0<n/\v=.pointer (some ⟨b,0,none⟩)
 |.yv,v=>∃ i,p=.pointer (some ⟨i,0,none⟩)/\v=.func (.yield i) #[] #[]
 |.obx c,v=>(c=false/\v=.pointer none)\/(c=true/\∃ b,phd p=.pointer (some ⟨b,0,none⟩)/\v=.pointer (some ⟨b,0,none⟩))
def KV (h:Heap) (k:Kind) (x:k.T) (v:Value):Prop:=(k.one=true/\KC h k x [v])\/(k.one=false/\∃ cs,v=.agg cs.toArray/\KC h k x cs)
theorem KV.mono {h h':Heap}(hl:h.Le h') {k:Kind}{x:k.T}{v:Value}(e:KV h k x v):KV h' k x v:=by
 rcases e with⟨ho,e⟩|⟨ho,cs,hv,e⟩
 .exact .inl ⟨ho,e.mono hl⟩
 .exact .inr ⟨ho,cs,hv,e.mono hl⟩
def TU (h:Heap):(ks:List Kind)->AT ks->List Value->Prop
 |[],_,vs=>vs=[]
 |[k],x,vs=>∃ v,vs=[v]/\KV h k x v
 |k::k'::ks,x,vs=>∃ v cS,vs=v::cS/\KV h k x.1 v/\TU h (k'::ks) x.2 cS
def gtb (tb:Nat->Option Bool):SV->Prop
 |.bid n c=>tb n=some c
 |_=>True
section
variable (P:Program)
def PfRel (B:Heap) (ks:List Kind) (r:Kind) (cX:AT ks->Prop) (p:AT ks->r.T) (v:Value):Prop :=
 ∃ g first cap,v=.func (.func g) first cap/\∀ x,cX x->∀ M vs,B.Le M->TU M ks x vs->VCalled P g (first.toList++vs++cap.toList) M λv' M'=>M'=M/\KV M r (p x) v'
mutual
def SR (B:Heap) (pl:Nat->Value) (tb:Nat->Option Bool):SV->Value->Prop
 |.any,_=>True
 |.val k x,v=>KC B k x [v]
 |.bid n c,v=>v=.bool c/\tb n=some c
 |.grd gs v,u=>((∀ g∈gs,tb g.id=some g.c)/\gtb tb v)/\((∀ g∈gs,g.c=g.want)->SR B pl tb v u)/\((∃ g∈gs,g.c≠g.want)->u=undef)
 |.nilS,v=>v=.slice none 0 0
 |.nilP,v=>v=.pointer none
 |.nilM,v=>v=.map none
 |.nilF,v=>v=.nilFunc
 |.lst o,v=>v=pl o/\∃ a n c,v=.slice a n c
 |.sub o lo n sz,v=>(lo=0/\n=0/\v=.slice none 0 0/\pl o=.slice none 0 0)\/∃ i len cap au,pl o=.slice (some ⟨i,0,none⟩) len cap/\lo+n<=len/\n<=au/\v=.slice (some ⟨i,lo*sz,none⟩) n au
 |.elp o i off sz,v=>∃ b len cap,pl o=.slice (some ⟨b,0,none⟩) len cap/\0<=i/\i<len/\v=.pointer (some ⟨b,i.toNat*sz+off,none⟩)
 |.rop k l i off,v=>∃ b o c e wr t,0<=i/\i<l.length/\B.get b=some (.cells c e wr t)/\v=.pointer (some ⟨b,o+i.toNat*k.size+off,none⟩)/\o+l.length*k.size<=c.length/\Rows (KC B k) l ((c.drop o).take (l.length*k.size))
 |.box o off,v=>∃ b,pl o=.pointer (some ⟨b,0,none⟩)/\v=.pointer (some ⟨b,off,none⟩)
 |.cp l off,v=>∃ b c e wr t,B.get b=some (.cells c e wr t)/\v=.pointer (some ⟨b,off,none⟩)/\SRs B pl tb l c
 |.map o,v=>v=pl o/\∃ m,v=.map m
 |.agg l,v=>∃ cs,v=.agg cs.toArray/\SRs B pl tb l cs
 |.tup l,v=>∃ cs,v=.tuple cs.toArray/\SRs B pl tb l cs
 |.dd o w,v=>DR (pl o) w v
 |.fn f first dK,v=>∃ a b,v=.func (.func f) a.toArray b.toArray/\SRs B pl tb first a/\SRs B pl tb dK b
 |.pf ks r cX p,v=>PfRel P B ks r cX p v
def SRs (B:Heap) (pl:Nat->Value) (tb:Nat->Option Bool):List SV->List Value->Prop
 |[],vs=>vs=[]
 |s::ss,vs=>∃ v cS,vs=v::cS/\SR B pl tb s v/\SRs B pl tb ss cS
end
end
end Go.V
namespace Go.V
open Go
abbrev Own:=List (Nat×OB)
def Q9:Own->Nat->OB
 |[],_=>.dead
 |(k,b)::r,d=>bif Nat.beq k d then b else Q9 r d
def oset:Own->Nat->OB->Own
 |[],d,b=>[(d,b)]
 |(k,c)::r,d,b=>bif Nat.beq k d then (d,b)::r else bif Nat.blt d k then (d,b)::(k,c)::r else (k,c)::oset r d b
structure St where
 env:List SV
 own:Own
 nx:Nat
mutual
def SV.kill (o:Nat):SV->SV
 |.lst o'=>bif Nat.beq o' o then .any else .lst o'
 |.sub o' lo n sz=>bif Nat.beq o' o then .any else .sub o' lo n sz
 |.elp o' i off sz=>bif Nat.beq o' o then .any else .elp o' i off sz
 |.dd o' w=>bif Nat.beq o' o then .any else .dd o' w
 |.box o' off=>bif Nat.beq o' o then .any else .box o' off
 |.map o'=>bif Nat.beq o' o then .any else .map o'
 |.grd gs v=>.grd gs (SV.kill o v)
 |.agg l=>.agg (SVs.kill o l)
 |.tup l=>.tup (SVs.kill o l)
 |.cp l off=>.cp (SVs.kill o l) off
 |.fn f a b=>.fn f (SVs.kill o a) (SVs.kill o b)
 |.any=>.any
 |.val k x=>.val k x
 |.bid n c=>.bid n c
 |.nilS=>.nilS
 |.nilP=>.nilP
 |.nilM=>.nilM
 |.nilF=>.nilF
 |.rop k l i off=>.rop k l i off
 |.pf ks r cX p=>.pf ks r cX p
def SVs.kill (o:Nat):List SV->List SV
 |[]=>[]
 |s::ss=>SV.kill o s::SVs.kill o ss
end
def OB.kill (o:Nat):OB->OB
 |.cells l u=>.cells (SVs.kill o l) u
 |.dead=>.dead
 |.lst ty k xs nl=>.lst ty k xs nl
 |.map kk vk m=>.map kk vk m
 |.stk l vals=>.stk (SVs.kill o l) vals
 |.deep ty q k xs nl h=>.deep ty q k xs nl h
 |.iter kk vk m dn=>.iter kk vk m dn
 |.mapE kk vk m key n=>.mapE kk vk m key n
 |.lpf l q s=>.lpf (SVs.kill o l) q s
def EG (o:Nat):Own->Own
 |[]=>[]
 |(k,b)::r=>bif Nat.beq k o then EG o r else (k,b.kill o)::EG o r
def St.kill (s:St) (o:Nat):St:=⟨SVs.kill o s.env,EG o s.own,s.nx⟩
def St.make (s:St) (o:Nat) (b:OB):St:=⟨(s.kill o).env,oset (s.kill o).own o b,s.nx⟩
def St.put (s:St) (d:Option Nat) (v:SV):St:=match d with
 |some d=>⟨s.env.set d v,s.own,s.nx⟩
 |none=>s
def cvp:Value->SV
 |.bool b=>.val .bo b
 |.int k x=>.val (.i k) x
 |.string s=>.val .st s.data.toList
 |.pointer none=>.nilP
 |.slice none 0 0=>.nilS
 |.map none=>.nilM
 |.nilFunc=>.nilF
 |_=>.any
def cv:Value->SV
 |.agg cs=>.agg (cs.toList.map cvp)
 |v=>cvp v
def Q60:List Gd->List Gd->Bool
 |[],_=>true
 |_::_,[]=>false
 |a::l,b::m=>bif Nat.beq a.id b.id&&(a.want==b.want) then Q60 l m else Q60 (a::l) m
def Fq (gs:List Gd):SV->SV
 |.grd g v=>bif Q60 g gs then v else .any
 |v=>v
def gev (gs:List Gd) (env:List SV):Operand->SV
 |.tmp t=>Fq gs (env.getD t .any)
 |.const v=>cv v
 |.func f=>.fn f [] []
 |.global _=>.any
def Ue {k:Kind}(l:List k.T) (k':Kind):Option (List k'.T):=if h:k=k' then some (h▸l) else none
def Iw {k:Kind}(x:k.T) (k':Kind):Option k'.T:=if h:k=k' then some (h▸x) else none
def asB:SV->Option Bool
 |.val .bo b=>some b
 |.bid _ c=>some c
 |_=>none
def asI:SV->Option (IntKind×Int)
 |.val (.i k) x=>some (k,x)
 |_=>none
def asS:SV->Option (List UInt8)
 |.val .st x=>some x
 |_=>none
def Kind.flat:Kind->Bool
 |.list _=>false
 |.pair a b=>a.flat&&b.flat
 |_=>true
def view (own:Own) (k:Kind):SV->Option (List k.T)
 |.nilS=>some []
 |.val (.list _k') l=>Ue l k
 |.lst o=>match Q9 own o with|.lst _ _k' xs _=>Ue xs k|_=>none
 |.sub o lo n sz=>match Q9 own o with|.lst _ k' xs _=>if sz=k'.size then (Ue xs k).map λxs=>(xs.drop lo).take n else none|_=>none
 |.dd o w=>bif k.flat then (match Q9 own o with
  |.deep _ _ _ xs _ h=>(match w with
   |.out=>(match h with|none=>Ue xs k|some _=>none)
   |.inn _ l=>Ue l k
   |.row _ l _=>Ue l k
   |_=>none)
  |_=>none) else none
 |_=>none
def Z36 (own:Own):SV->Option Nat
 |.nilS=>some 0
 |.val (.list _) l=>some l.length
 |.lst o=>match Q9 own o with|.lst _ _ xs _=>some xs.length|_=>none
 |.sub _ _ n _=>some n
 |.dd o w=>(match Q9 own o with
  |.deep _ _ _ xs _ h=>(match w with
   |.out=>(match h with|none=>some xs.length|some _=>none)
   |.inn _ l=>some l.length
   |.row _ l _=>some l.length
   |_=>none)
  |_=>none)
 |_=>none
def SV.solid:SV->Bool
 |.agg _|.tup _|.any|.grd _ _=>false
 |_=>true
def Gq:SV->Option (List SV)
 |.agg l=>bif l.all SV.solid then some l else none
 |.tup _=>none
 |.any=>none
 |.grd _ _=>none
 |v=>some [v]
def Tm:(k:Kind)->List SV->Option k.T
 |.i ik,[v]=>match v with|.val (.i sA) x=>if ik=sA then some x else none|_=>none
 |.bo,[v]=>asB v
 |.st,[v]=>asS v
 |.list k,[v]=>match v with|.nilS=>some []|.val (.list _k') l=>Ue l k|_=>none
 |.pair a b,l=>match Tm a (l.take a.size),Tm b (l.drop a.size) with
  |some x,some y=>some (x,y)
  |_,_=>none
 |_,_=>none
def dkV (k:Kind) (v:SV):Option k.T:=bif k.one then Tm k [v] else match v with|.agg l=>Tm k l|_=>none
def A9 (k:Kind) (z:Value):List Value:=bif k.one then [z] else match z with|.agg a=>a.toList|_=>[]
def Z0o:(k:Kind)->Nat->SV->k.T->Option k.T
 |.pair a b,off,v,x=>bif Nat.blt off a.size then (Z0o a off v x.1).map λy=>(y,x.2) else (Z0o b (off-a.size) v x.2).map λy=>(x.1,y)
 |.i ik,_,v,_=>Tm (.i ik) [v]
 |.bo,_,v,_=>Tm .bo [v]
 |.st,_,v,_=>Tm .st [v]
 |.list k,_,v,_=>Tm (.list k) [v]
def Ve:Kind->List Value->Bool
 |.i ik,[.int k x]=>decide (ik=k)&&(x==0)
 |.bo,[.bool b]=>!b
 |.st,[.string s]=>s.data.toList.isEmpty
 |.list _,[.slice none 0 0]=>true
 |.pair a b,l=>Ve a (l.take a.size)&&Ve b (l.drop a.size)
 |_,_=>false
def InK (k:IntKind) (x:Int):Prop:=k.min<=x/\x<=k.max
def Q7e:List Gd->Prop->Prop
 |[],p=>p
 |g::gs,p=>g.c=g.want->Q7e gs p
def C5 (gs:List Gd):List Prop->Prop->Prop
 |[],q=>q
 |c::cs,q=>Q7e gs c/\C5 gs cs q
abbrev CSp:=(SV->List SV->Option (Prop×SV))->List SV->Option (Prop×SV×List OB)
abbrev XSp:=Nat->List SV->St->(SV->St->Prop)->Prop
abbrev ISp:=List SV->Option (Prop×Nat×Nat×(Nat->List SV))
abbrev YSp:=List SV->St->(SV->St->Prop)->Prop
abbrev Q7g:=Nat->List SV->Nat×YSp->St->(St->Prop)->Prop
structure Cx where
 kt:List (Nat×Kind)
 cs:List (Nat×CSp)
 nt:Nat
 raw:List Nat
 off:Nat
 xs:List (Nat×XSp)
 it:List (Nat×ISp)
 el:List (Nat×Nat):=[]
 jn:List Nat:=[]
 nm:Bool:=false
 yl:List (Nat×YSp):=[]
 iy:List (Nat×Q7g):=[]
 spl:List Nat:=[]
 xf:List (Nat×Nat):=[]
def Qs {α:Type _}:List (Nat×α)->Nat->Option α
 |[],_=>none
 |(k,x)::r,d=>bif Nat.beq k d then some x else Qs r d
mutual
def Td (own:Own) (bx:List SV->Nat->SV):SV->SV
 |.lst o=>match Q9 own o with|.lst _ k xs _=>.val (.list k) xs|_=>.any
 |.sub o lo n sz=>match Q9 own o with|.lst _ k xs _=>if sz=k.size then .val (.list k) ((xs.drop lo).take n) else .any|_=>.any
 |.box o off=>match Q9 own o with|.cells l _=>bx l off|_=>.any
 |.agg l=>.agg (He own bx l)
 |.fn f a b=>.fn f (He own bx a) (He own bx b)
 |.bid _ c=>.val .bo c
 |.val k x=>.val k x
 |.nilS=>.nilS
 |.nilP=>.nilP
 |.nilM=>.nilM
 |.nilF=>.nilF
 |.rop k l i off=>.rop k l i off
 |.cp l off=>.cp (He own bx l) off
 |.pf ks r cX p=>.pf ks r cX p
 |.any=>.any
 |.grd _ _=>.any
 |.elp _ _ _ _=>.any
 |.dd o w=>(match Q9 own o with
  |.deep _ _ k xs _ h=>(match w with
   |.out=>(match h with|none=>.val (.list k) xs|some _=>.any)
   |.inn k x=>.val (.list k) x
   |.row k x _=>.val (.list k) x
   |_=>.any)
  |_=>.any)
 |.map _=>.any
 |.tup _=>.any
def He (own:Own) (bx:List SV->Nat->SV):List SV->List SV
 |[]=>[]
 |s::ss=>Td own bx s::He own bx ss
end
def Z5k (own:Own) (l:List SV):List SV:=He own (λ_ _=>.any) l
def Z5a (own:Own) (l:List SV):List SV:=He own (λc off=>.cp (Z5k own c) off) l
def Z5h (own:Own) (l:List SV):List SV:=He own (λc off=>.cp (Z5a own c) off) l
def BM (own:Own) (l:List SV):List SV:=Z5h own l
def PI:BinOp->Int->Int->Int
 |.add,a,b=>a+b
 |.sub,a,b=>a-b
 |_,a,b=>a*b
def Q41 (a b:Int):Int:=if b > a then b else a
def B9 (a b:Int):Int:=if b<a then b else a
def XA (k:IntKind) (x y:Int):Int:=x*2 ^ (Nat.min y.toNat k.bits)
def Xf (k:IntKind) (x y:Int):Int:=x.fdiv (2 ^ (Nat.min y.toNat k.bits))
def gfill (c:List SV):List (Nat×Nat×SV)->Option (List SV)
 |[]=>some c
 |(o,sz,v)::rest=>match Gq v with
  |some vs=>if vs.length=sz/\o+sz<=c.length then gfill (setS c o vs) rest else none
  |none=>none
 where setS (c:List SV) (o:Nat):List SV->List SV
 |[]=>c
 |v::vs=>setS (c.set o v) (o+1) vs
def Hh (agg:Bool) (size:Nat) (l:List SV) (off:Nat):Option SV :=
 bif agg then (if off+size<=l.length then some (.agg ((l.drop off).take size)) else none) else l[off]?
def G9 (o:Nat):(k:Kind)->k.T->List SV
 |.pair a b,x=>G9 o a x.1++G9 o b x.2
 |.list k,x=>[.dd o (.inn k x)]
 |.i k,x=>[.val (.i k) x]
 |.bo,x=>[.val .bo x]
 |.st,x=>[.val .st x]
def Z37 (o:Nat) (i:Int):(k:Kind)->k.T->List SV
 |.list k,x=>[.dd o (.row k x i)]
 |.pair a b,x=>G9 o (.pair a b) x
 |.i k,x=>[.val (.i k) x]
 |.bo,x=>[.val .bo x]
 |.st,x=>[.val .st x]
def Q1x (own:Own) (agg:Bool) (size:Nat):SV->Option SV
 |.box o off=>match Q9 own o with|.cells l _=>Hh agg size l off|_=>none
 |.cp l off=>Hh agg size l off
 |.elp o i off sz=>match Q9 own o with|.lst _ k xs _=>if sz=k.size/\off+size<=sz then Hh agg size (N0 k (xs.getD i.toNat k.dflt)) off else none|_=>none
 |.rop k l i off=>if off+size<=k.size then Hh agg size (N0 k (l.getD i.toNat k.dflt)) off else none
 |.dd o w=>(match Q9 own o with
  |.deep _ _ k xs _ h=>(match h with
   |none=>(match w with
    |.el i off sz=>if sz=k.size/\off+size<=sz then Hh agg size (Z37 o i k (xs.getD i.toNat k.dflt)) off else none
    |.rowp k' x _ j off=>if off+size<=k'.size then Hh agg size (G9 o k' (x.getD j.toNat k'.dflt)) off else none
    |.inp k' l j off=>if off+size<=k'.size then Hh agg size (G9 o k' (l.getD j.toNat k'.dflt)) off else none
    |_=>none)
   |some _=>none)
  |_=>none)
 |_=>none
def WB (ev:Operand->SV):Option Operand->Int->Option Int
 |none,d=>some d
 |some x,_=>(asI (ev x)).map (·.2)
def Fe (k:MK) (a b:SV):Option Bool:=match k with
 |.int q=>(match asI a,asI b with|some (q1,x),some (q2,y)=>if q1=q/\q2=q then some (x==y) else none|_,_=>none)
 |.bool=>(match asB a,asB b with|some x,some y=>some (x==y)|_,_=>none)
 |.string=>(match asS a,asS b with|some x,some y=>some (x==y)|_,_=>none)
 |.agg _=>none
def PH:List MK->List SV->List SV->Option Bool
 |[],_,_=>none
 |k::ks,a::l,b::m=>(match ks with
  |[]=>(match l,m with|[],[]=>Fe k a b|_,_=>none)
  |k'::ks=>(match Fe k a b,PH (k'::ks) l m with|some x,some y=>some (x&&y)|_,_=>none))
 |_::_,_,_=>none
def Q4r (xs:List Int):List UInt8:=xs.map λx=>x.toNat.toUInt8
def gq (_kt:List (Nat×Kind)) (raw:Bool) (o:VOp) (ev:Operand->SV) (own:Own):Option (List Prop×SV) :=
 match o with
 |.move x=>some ([],ev x)
 |.arith op x y=>match asI (ev x),asI (ev y) with
  |some (k,a),some (k',b)=>if k=k' then (bif raw then some ([],.val (.i k) (k.wrap (PI op a b))) else some ([InK k (PI op a b)],.val (.i k) (PI op a b))) else none
  |_,_=>none
 |.div op x y=>match asI (ev x),asI (ev y) with
  |some (k,a),some (k',b)=>if k=k' then (match op with
   |.quo=>some ([b≠0,InK k (a.tdiv b)],.val (.i k) (a.tdiv b))
   |_=>some ([b≠0],.val (.i k) (a.tmod b))) else none
  |_,_=>none
 |.bits op x y=>match asI (ev x),asI (ev y) with
  |some (k,a),some (k',b)=>if k=k' then some ([],.val (.i k) (Q8 op k a b)) else none
  |_,_=>none
 |.shift op x y=>match asI (ev x),asI (ev y) with
  |some (k,a),some (_,b)=>(match op with
   |.shl=>bif raw then some ([0<=b],.val (.i k) (k.wrap (XA k a b))) else some ([0<=b,InK k (XA k a b)],.val (.i k) (XA k a b))
   |_=>some ([0<=b],.val (.i k) (Xf k a b)))
  |_,_=>none
 |.cmp op x y=>match asI (ev x),asI (ev y) with
  |some (k,a),some (k',b)=>if k=k' then some ([],.val .bo (Z1i op a b)) else none
  |_,_=>none
 |.str op x y=>match asS (ev x),asS (ev y) with
  |some a,some b=>(match op with
   |.add=>some ([a.length+b.length<=4611686018427387904],.val .st (a++b))
   |.eql=>some ([],.val .bo (a==b))
   |.neq=>some ([],.val .bo (!(a==b)))
   |.lss=>some ([],.val .bo (Op.bytesLess a b))
   |_=>none)
  |_,_=>none
 |.eqB neg x y=>match asB (ev x),asB (ev y) with
  |some a,some b=>some ([],.val .bo (if neg then !(a==b) else (a==b)))
  |_,_=>none
 |.un op x=>match op with
  |.not=>match asB (ev x) with|some b=>some ([],.val .bo (!b))|none=>none
  |.neg=>match asI (ev x) with|some (k,n)=>some ([InK k (0-n)],.val (.i k) (0-n))|none=>none
  |.xor=>match asI (ev x) with|some (k,n)=>some ([],.val (.i k) (Q8 .xor k (if k.signed then -1 else k.max) n))|none=>none
  |_=>none
 |.convI k x=>match asI (ev x) with
  |some (_,n)=>bif raw then some ([],.val (.i k) (k.wrap n)) else some ([InK k n],.val (.i k) n)
  |none=>none
 |.convS x=>match asS (ev x) with|some s=>some ([],.val .st s)|none=>none
 |.build z parts=>match gfill (z.map cvp) (parts.map λp=>(p.1,p.2.1,ev p.2.2)) with|some l=>some ([],.agg l)|none=>none
 |.load agg size a=>bif Nat.blt 0 size then (Q1x own agg size (ev a)).map λv=>([],v) else none
 |.fieldAddr off a=>match ev a with
  |.box o f=>some ([],.box o (f+off))
  |.cp l f=>some ([],.cp l (f+off))
  |.elp o i f sz=>some ([],.elp o i (f+off) sz)
  |.dd o w=>(match w with
   |.el i f sz=>some ([],.dd o (.el i (f+off) sz))
   |.rowp k x i j f=>some ([],.dd o (.rowp k x i j (f+off)))
   |.inp k l j f=>some ([],.dd o (.inp k l j (f+off)))
   |_=>none)
  |.rop k l i f=>some ([],.rop k l i (f+off))
  |_=>none
 |.field agg off size x=>match ev x with|.agg l=>(Hh agg size l off).map λv=>([],v)|_=>none
 |.indexAddr size x i=>match ev x,asI (ev i) with
  |.lst o,some (_,j)=>(match Q9 own o with|.lst _ k xs _=>if k.size=size then some ([0<=j,j<xs.length],.elp o j 0 size) else none|_=>none)
  |.dd o w,some (_,j)=>(match Q9 own o with
   |.deep _ _ k xs _ h=>(match w with
    |.out=>(match h with|none=>(if k.size=size then some ([0<=j,j<xs.length],.dd o (.el j 0 size)) else none)|some _=>(if k.size=size then some ([0<=j,j<xs.length],.dd o (.el j 0 size)) else none))
    |.row k x i=>if k.size=size then some ([0<=j,j<x.length],.dd o (.rowp k x i j 0)) else none
    |.inn k l=>if k.size=size then some ([0<=j,j<l.length],.dd o (.inp k l j 0)) else none
    |_=>none)
   |_=>none)
  |.sub o lo n sz,some (_,j)=>(match Q9 own o with|.lst _ k _ _=>if k.size=size/\sz=size then some ([0<=j,j<n],.elp o (lo+j) 0 size) else none|_=>none)
  |.val (.list k) l,some (_,j)=>if k.size=size then some ([0<=j,j<l.length],.rop k l j 0) else none
  |_,_=>none
 |.indexStr x i=>match asS (ev x),asI (ev i) with
  |some s,some (_,j)=>some ([0<=j,j<s.length],.val (.i .u8) ((s.getD j.toNat 0).toNat:Int))
  |_,_=>none
 |.indexArr len agg size x i=>match ev x,i with
  |.agg l,.const (.int _ (Int.ofNat j))=>if j<len then (Hh agg size l (j*size)).map λv=>([],v) else none
  |_,_=>none
 |.indexAddrArr len size x i=>match ev x,i with
  |.box o f,.const (.int _ (Int.ofNat j))=>if j<len then some ([],.box o (f+j*size)) else none
  |.cp l f,.const (.int _ (Int.ofNat j))=>if j<len then some ([],.cp l (f+j*size)) else none
  |_,_=>none
 |.slice size x lo hi none=>match ev x with
  |.lst o=>(match Q9 own o with
   |.lst _ k xs _=>if k.size=size then (match WB ev lo 0,WB ev hi xs.length with
    |some a,some b=>some ([0<=a,a<=b,b<=xs.length],.sub o a.toNat (b-a).toNat size)
    |_,_=>none) else none
   |_=>none)
  |.sub o l0 n sz=>(match Q9 own o with
   |.lst _ k _ _=>if k.size=size/\sz=size then (match WB ev lo 0,WB ev hi n with
    |some a,some b=>some ([0<=a,a<=b,b<=n],.sub o (l0+a.toNat) (b-a).toNat size)
    |_,_=>none) else none
   |_=>none)
  |.val (.list k) l=>if k.size=size then (match WB ev lo 0,WB ev hi l.length with
   |some a,some b=>some ([0<=a,a<=b,b<=l.length],.val (.list k) ((l.drop a.toNat).take (b-a).toNat))
   |_,_=>none) else none
  |.dd o w=>(match Q9 own o with
   |.deep _ _ _ _ _ _=>(match w with
    |.inn k l=>if k.size=size then (match WB ev lo 0,WB ev hi l.length with
     |some a,some b=>some ([0<=a,a<=b,b<=l.length],.dd o (.inn k ((l.drop a.toNat).take (b-a).toNat)))
     |_,_=>none) else none
    |.row k l _=>if k.size=size then (match WB ev lo 0,WB ev hi l.length with
     |some a,some b=>some ([0<=a,a<=b,b<=l.length],.dd o (.inn k ((l.drop a.toNat).take (b-a).toNat)))
     |_,_=>none) else none
    |_=>none)
   |_=>none)
  |.nilS=>(match WB ev lo 0,WB ev hi 0 with
   |some a,some b=>some ([a=0,b=0],.nilS)
   |_,_=>none)
  |_=>none
 |.sliceStr x lo hi=>match asS (ev x) with
  |some s=>(match WB ev lo 0,WB ev hi s.length with
   |some a,some b=>some ([0<=a,a<=b,b<=s.length],.val .st ((s.drop a.toNat).take (b-a).toNat))
   |_,_=>none)
  |none=>none
 |.len x=>match Z36 own (ev x) with|some n=>some ([],.val (.i .i64) (n:Nat))|none=>none
 |.lenStr x=>match asS (ev x) with|some s=>some ([],.val (.i .i64) (s.length:Nat))|none=>none
 |.max4 x y z w=>match asI (ev x),asI (ev y),asI (ev z),asI (ev w) with
  |some (k,a),some (k2,b),some (k3,c),some (k4,d)=>if k=k2/\k=k3/\k=k4 then some ([],.val (.i k) (Q41 (Q41 (Q41 a b) c) d)) else none
  |_,_,_,_=>none
 |.max x y=>match asI (ev x),asI (ev y) with
  |some (k,a),some (k',b)=>if k=k' then some ([],.val (.i k) (Q41 a b)) else none
  |_,_=>none
 |.min x y=>match asI (ev x),asI (ev y) with
  |some (k,a),some (k',b)=>if k=k' then some ([],.val (.i k) (B9 a b)) else none
  |_,_=>none
 |.makeFunc (.func f) first cap=>some ([],.fn f (first.map ev) (cap.map ev))
 |.extract x i=>match ev x with|.tup l=>(l[i]?).map λv=>([],v)|_=>none
 |.nilCheck x=>match ev x with
  |.box o f=>some ([],.box o f)
  |.cp l f=>some ([],.cp l f)
  |.fn f a b=>some ([],.fn f a b)
  |_=>none
 |.ext (.eqNil 1 neg x y)=>match ev x,ev y with
  |.nilS,.nilS=>some ([],.val .bo (!neg))
  |.lst o,.nilS=>(match Q9 own o with|.lst _ _ _ nl=>some ([],.val .bo (bif neg then !nl else nl))|_=>none)
  |.dd o .out,.nilS=>(match Q9 own o with|.deep _ _ _ _ nl _=>some ([],.val .bo (bif neg then !nl else nl))|_=>none)
  |.val (.list _) l,.nilS=>some ([l≠[]],.val .bo neg)
  |_,_=>none
 |.ext (.eqNil 0 neg x y)=>match ev x,ev y with
  |.nilP,.nilP=>some ([],.val .bo (!neg))
  |.box _ _,.nilP=>some ([],.val .bo neg)
  |.cp _ _,.nilP=>some ([],.val .bo neg)
  |.dd _ (.obx c),.nilP=>some ([],.val .bo (bif neg then c else !c))
  |.dd o (.obx c),.box o' f=>(match Q9 own o with
   |.cells _ _=>if o=o'/\f=0 then some ([c=true],.val .bo (!neg)) else none
   |_=>none)
  |_,_=>none
 |.ext (.eqAgg neg s x y)=>match ev x,ev y with
  |.agg l,.agg m=>(PH s l m).map λb=>([],.val .bo (bif neg then !b else b))
  |_,_=>none
 |.ext (.toUnsafe x)=>match ev x with
  |.box o f=>(match Q9 own o with|.cells l _=>if f<l.length then some ([],.box o f) else none|_=>none)
  |_=>none
 |.ext (.fromUnsafe u size x)=>match ev x with
  |.box o f=>(match Q9 own o with
   |.cells l (some t)=>if f=0/\t=u/\size<=l.length then some ([],.box o 0) else none
   |_=>none)
  |_=>none
 |.ext (.bytesStr x)=>match view own (.i .u8) (ev x) with
  |some xs=>some ([],.val .st (Q4r xs))
  |none=>none
 |.ext (.sliceData x)=>match ev x with
  |.nilS=>some ([],.nilP)
  |.lst o=>(match Q9 own o with|.lst _ _ xs nl=>some ([nl=false->xs≠[]],.dd o .dat)|_=>none)
  |_=>none
 |.ext (.lookup mk z ok x i)=>match ev x with
  |.map o=>(match Q9 own o with
   |.map kk vk m=>if mkOk mk kk=true/\Ve vk (A9 vk z)=true then (match dkV kk (ev i) with
    |some key=>(if ok then some ([],.tup [C6 vk (aget kk m key vk.dflt),.val .bo (ahas kk m key)]) else some ([],C6 vk (aget kk m key vk.dflt)))
    |none=>none) else none
   |_=>none)
  |_=>none
 |.ext (.entry x)=>match ev x with
  |.box o f=>(match Q9 own o with
   |.iter kk vk m dn=>if f=0/\kk.keyk=true/\vk.one=true then some ([dn≠[]],.tup [C6 kk (m.getD (dn.getLastD 0) (kk.dflt,vk.dflt)).1,.val vk (m.getD (dn.getLastD 0) (kk.dflt,vk.dflt)).2]) else none
   |_=>none)
  |_=>none
 |.ext (.lenMap x)=>match ev x with
  |.map o=>(match Q9 own o with|.map _ _ m=>some ([],.val (.i .i64) m.length)|_=>none)
  |_=>none
 |_=>none
 where
 mkP:MK->Kind->Bool
  |.int k,.i k'=>decide (k=k')
  |.string,.st=>true
  |.bool,.bo=>true
  |_,_=>false
 mkAt:Kind->List MK->Option (List MK)
  |.pair a b,l=>(match mkAt a l with|some r=>mkAt b r|none=>none)
  |k,m::r=>bif mkP m k then some r else none
  |_,[]=>none
 mkOk (m:MK) (k:Kind):Bool:=bif k.one then mkP m k else match m with
  |.agg l=>(match mkAt k l with|some []=>true|_=>false)
  |_=>false
 keq:(k:Kind)->k.T->k.T->Bool
  |.i _,(a:Int),b=>a==b
  |.bo,(a:Bool),b=>a==b
  |.st,(a:List UInt8),b=>a==b
  |.pair k l,x,y=>keq k x.1 y.1&&keq l x.2 y.2
  |_,_,_=>false
 aget (kk:Kind) {V:Type}:List (kk.T×V)->kk.T->V->V
  |[],_,d=>d
  |(k,v)::r,key,d=>if keq kk key k then v else aget kk r key d
 ahas (kk:Kind) {V:Type}:List (kk.T×V)->kk.T->Bool
  |[],_=>false
  |(k,_)::r,key=>keq kk key k||ahas kk r key
def TB (kk:Kind) {V:Type}:List (kk.T×V)->kk.T->V->List (kk.T×V)
 |[],key,v=>[(key,v)]
 |(k,x)::r,key,v=>if gq.keq kk key k then (key,v)::r else (k,x)::TB kk r key v
mutual
def SV.ret (n:Nat):SV->Bool
 |.val k _=>k.flat
 |.nilS|.nilP|.nilM|.nilF=>true
 |.lst j=>Nat.blt j n
 |.box j _=>Nat.blt j n
 |.map j=>Nat.blt j n
 |.dd j w=>(match w with|.out=>Nat.blt j n|_=>false)
 |.agg l=>SVs.ret n l
 |.tup l=>SVs.ret n l
 |_=>false
def SVs.ret (n:Nat):List SV->Bool
 |[]=>true
 |s::ss=>SV.ret n s&&SVs.ret n ss
end
mutual
def VB:SV->Bool
 |.val k _=>k.one
 |.box _ _=>false
 |.map _=>false
 |.dd _ _=>false
 |.agg l=>NS l
 |.tup l=>NS l
 |_=>true
def NS:List SV->Bool
 |[]=>true
 |s::ss=>VB s&&NS ss
end
def OB.isL:OB->Bool
 |.lst _ _ _ _=>true
 |_=>false
def OB.ret:OB->Bool
 |.lst _ k _ _=>k.flat
 |.cells l _=>SVs.ret 0 l
 |.map kk vk _=>kk.flat&&vk.flat
 |.dead=>false
 |.stk _ _=>false
 |.deep _ _ _ _ _ h=>h.isNone
 |.iter _ _ _ _=>false
 |.mapE _ _ _ _ _=>false
 |.lpf _ _ _=>false
def gap (cs:List (Nat×CSp)):Nat->SV->List SV->Option (Prop×SV)
 |0,_,_=>none
 |n+1,f,args=>match f with
  |.fn g a b=>(match Qs cs g with
   |some sp=>(match sp (gap cs n) (a++args++b) with
    |some (c,v,[])=>bif v.ret 0 then some (c,v) else none
    |_=>none)
   |none=>none)
  |.pf ks r cX p=>(match deca ks args with
   |some x=>bif r.flat then some (cX x,C6 r (p x)) else none
   |none=>none)
  |_=>none
 where
 deca:(ks:List Kind)->List SV->Option (AT ks)
  |[],[]=>some ()
  |[k],[v]=>asV k v
  |k::k'::ks,v::vs=>match asV k v,deca (k'::ks) vs with|some x,some y=>some (x,y)|_,_=>none
  |_,_=>none
 asV (k:Kind) (v:SV):Option k.T:=bif k.one then Tm k [v] else match v with|.agg l=>Tm k l|_=>none
def VD (cs:List (Nat×CSp)) (f:SV) (args:List SV):Option (Prop×SV×List OB) :=
 match f with
 |.fn g a b=>(match Qs cs g with|some sp=>sp (gap cs 3) (a++args++b)|none=>none)
 |f=>(gap cs 3 f args).map λ(c,v)=>(c,v,[])
mutual
def SV.ren (d nt:Nat):SV->SV
 |.lst j=>.lst (d+j*nt)
 |.box j off=>.box (d+j*nt) off
 |.map j=>.map (d+j*nt)
 |.dd j w=>(match w with|.out=>.dd (d+j*nt) .out|_=>.any)
 |.agg l=>.agg (SVs.ren d nt l)
 |.tup l=>.tup (SVs.ren d nt l)
 |.any=>.any
 |.val k x=>.val k x
 |.bid _ c=>.val .bo c
 |.nilS=>.nilS
 |.nilP=>.nilP
 |.nilM=>.nilM
 |.nilF=>.nilF
 |.sub _ _ _ _|.elp _ _ _ _|.grd _ _|.cp _ _|.fn _ _ _|.rop _ _ _ _|.pf _ _ _ _=>.any
def SVs.ren (d nt:Nat):List SV->List SV
 |[]=>[]
 |s::ss=>SV.ren d nt s::SVs.ren d nt ss
end
def St.makes (s:St) (d nt:Nat):Nat->List OB->St
 |_,[]=>s
 |j,b::bs=>(s.make (d+j*nt) b).makes d nt (j+1) bs
def LA (k:Kind) (ev:Operand->SV):List (Nat×Operand)->List k.T->Option (List k.T)
 |[],xs=>some xs
 |(j,x)::r,xs=>match Gq (ev x) with
  |some l=>(match Tm k l with
   |some y=>if j<xs.length then LA k ev r (xs.set j y) else none
   |none=>none)
  |none=>none
mutual
def nmV:SV->(SV->Prop)->Prop
 |.val k x,K=>∀ y:k.T,y=x->K (.val k y)
 |.agg l,K=>Q7m l λl'=>K (.agg l')
 |.tup l,K=>Q7m l λl'=>K (.tup l')
 |.any,K=>K .any
 |.dd o w,K=>K (.dd o w)
 |.bid n c,K=>K (.bid n c)
 |.grd gs v,K=>K (.grd gs v)
 |.nilS,K=>K .nilS
 |.nilP,K=>K .nilP
 |.nilM,K=>K .nilM
 |.nilF,K=>K .nilF
 |.lst o,K=>K (.lst o)
 |.sub o lo n sz,K=>K (.sub o lo n sz)
 |.elp o i off sz,K=>K (.elp o i off sz)
 |.rop k l i off,K=>K (.rop k l i off)
 |.box o off,K=>K (.box o off)
 |.cp l off,K=>K (.cp l off)
 |.map o,K=>K (.map o)
 |.fn f a b,K=>K (.fn f a b)
 |.pf ks r cX p,K=>K (.pf ks r cX p)
def Q7m:List SV->(List SV->Prop)->Prop
 |[],K=>K []
 |v::r,K=>nmV v λv'=>Q7m r λr'=>K (v'::r')
end
def Z52 (o:VOp) (ev:Operand->SV):Bool:=match o with
 |.load _ _ a=>(match ev a with|.elp _ _ _ _=>true|.rop _ _ _ _=>true|.dd _ _=>true|_=>false)
 |.cmp ..|.str ..|.eqB ..|.un ..|.pick ..|.indexStr ..|.bits ..|.shift ..|.div ..|.sliceStr ..|.max ..|.max4 ..|.min ..=>true
 |.ext (.lookup ..)|.ext (.eqNil ..)|.ext (.eqAgg ..)|.ext (.entry ..)=>true
 |_=>false
def gnm (C:Cx) (o:VOp) (ev:Operand->SV) (v:SV) (K:SV->Prop):Prop:=bif C.nm&&Z52 o ev then nmV v K else K v
def A4 (C:Cx) (d:Nat) (f:SV) (args:List SV) (s:St) (K:SV->St->Prop):Prop :=
 match VD C.cs ((BM s.own [f]).getD 0 .any) (BM s.own args) with
 |some (c,v,bs)=>bif v.ret bs.length&&(bs.all OB.ret&&Nat.blt 0 C.nt) then c/\K (v.ren d C.nt) (s.makes d C.nt 0 bs) else False
 |none=>False
def Rc (C:Cx) (d:Nat) (f:SV) (args:List SV) (s:St) (K:SV->St->Prop):Prop :=
 match f with
 |.fn g a b=>(match Qs C.xs g with
  |some x=>x d (a++(args++b)) s K
  |none=>A4 C d (.fn g a b) args s K)
 |.dd o .yv=>(match Qs C.yl o with
  |some y=>y args s K
  |none=>False)
 |f=>A4 C d f args s K
def gn (C:Cx) (d:Nat) (o:VOp) (ev:Operand->SV) (s:St) (K:SV->St->Prop):Prop :=
 match o with
 |.alloc t z=>K (.box d 0) (s.make d (.cells (z.map cvp) (some t)))
 |.box t x=>match Gq (ev x) with
  |some l=>K (.box d 0) (s.make d (.cells (SVs.kill d l) (some t)))
  |none=>False
 |.buildSlice e z n parts=>match Qs C.kt e.ty with
  |some k=>if k.size=e.sz/\Ve k z=true then (match LA k ev parts (List.replicate n k.dflt) with
   |some xs=>K (.lst d) (s.make d (.lst e.ty k xs false))
   |none=>False) else False
  |none=>False
 |.makeSlice e bytes z l c=>match Qs C.kt e.ty,asI (ev l),asI (ev c) with
  |some k,some (_,a),some (_,b)=>if k.size=e.sz/\Ve k z=true then
    C5 [] [0<=a,a<=b,b*bytes<=70368744177664,b<=70368744177664] (K (.lst d) (s.make d (.lst e.ty k (List.replicate a.toNat k.dflt) false))) else False
  |_,_,_=>False
 |.append e bytes x y=>match Qs C.kt e.ty with
  |some k=>(match view s.own k (ev y) with
   |some ys=>(match ev x with
    |.nilS=>if k.size=e.sz then C5 [] [ys.length*bytes<=70368744177664] (K (.lst d) (s.make d (.lst e.ty k ys ys.isEmpty))) else False
    |.lst o=>(match Q9 s.own o with
     |.lst ty _k' xs nl=>if ty=e.ty/\k.size=e.sz then (match Ue xs k with
      |some xs=>C5 [] [(xs.length+ys.length)*bytes<=70368744177664] (K (.lst o) (s.make o (.lst ty k (xs++ys) (ys.isEmpty&&nl))))
      |none=>False) else False
     |_=>False)
    |_=>False)
   |none=>False)
  |none=>False
 |.store size a v=>match ev a,Gq (ev v) with
  |.box o off,some vs=>(match Q9 s.own o with
   |.cells l u=>if vs.length=size/\off+size<=l.length then K .any ⟨s.env,oset s.own o (.cells (gfill.setS l off vs) u),s.nx⟩ else False
   |_=>False)
  |.elp o i off sz,some vs=>(match Q9 s.own o with
   |.lst ty k xs nl=>(if off=0/\size=k.size/\sz=k.size then (match Tm k vs with
     |some x=>K .any ⟨s.env,oset s.own o (.lst ty k (xs.set i.toNat x) nl),s.nx⟩
     |none=>False)
    else if size=1/\vs.length=1/\sz=k.size/\off<k.size then (match Z0o k off (vs.getD 0 .any) (xs.getD i.toNat k.dflt) with
     |some x=>K .any ⟨s.env,oset s.own o (.lst ty k (xs.set i.toNat x) nl),s.nx⟩
     |none=>False) else False)
   |_=>False)
  |_,_=>False
 |.callF f args=>Rc C d (.fn f [] []) (args.map ev) s K
 |.callV f args=>Rc C d (ev f) (args.map ev) s K
 |.ext (.mapUpdate mk m k v)=>match ev m with
  |.map o=>(match Q9 s.own o with
   |.map kk vk l=>if gq.mkOk mk kk=true then (match dkV kk (ev k),dkV vk (ev v) with
    |some key,some x=>K .any ⟨s.env,oset s.own o (.map kk vk (TB kk l key x)),s.nx⟩
    |_,_=>False) else False
   |_=>False)
  |_=>False
 |.ext (.mapEntry mk z m k)=>match ev m with
  |.map o=>(match Q9 s.own o with
   |.map kk vk l=>if gq.mkOk mk kk=true/\Ve vk (A9 vk z)=true then (match dkV kk (ev k) with
    |some key=>∀ n:Int,K (.tup [C6 vk (gq.aget kk l key vk.dflt),.val (.i .i64) n]) ⟨s.env,oset s.own o (.mapE kk vk (TB kk l key (gq.aget kk l key vk.dflt)) key n),s.nx⟩
    |none=>False) else False
   |_=>False)
  |_=>False
 |.ext (.entryStore m st v)=>match ev m with
  |.map o=>(match Q9 s.own o with
   |.mapE kk vk l key n=>(match asI (ev st),dkV vk (ev v) with
    |some (.i64,n'),some x=>n'=n/\K .any ⟨s.env,oset s.own o (.map kk vk (TB kk l key x)),s.nx⟩
    |_,_=>False)
   |_=>False)
  |_=>False
 |.ext (.rangeMap x)=>match ev x with
  |.map o=>(match Q9 s.own o with
   |.map kk vk m=>if kk.keyk=true/\vk.one=true then K (.box d 0) (St.make ⟨s.env,oset s.own o .dead,s.nx⟩ d (.iter kk vk m [])) else False
   |_=>False)
  |_=>False
 |.ext (.nextMap x)=>match ev x with
  |.box o f=>(match Q9 s.own o with
   |.iter kk vk m dn=>if f=0/\kk.keyk=true then ((∀ r:Nat,r<m.length->r∈dn)->K (.tup [.val .bo false]) s)/\∀ r:Nat,r<m.length->r∉dn->K (.tup [.val .bo true,.any,.any]) ⟨s.env,oset s.own o (.iter kk vk m (dn++[r])),s.nx⟩ else False
   |_=>False)
  |_=>False
 |.ext (.copy size a b)=>match ev a with
  |.lst o=>(match Q9 s.own o with
   |.lst ty k xs nl=>if k.size=size then (match view s.own k (ev b) with
    |some ys=>K (.val (.i .i64) (Nat.min ys.length xs.length:Nat)) ⟨s.env,oset s.own o (.lst ty k (ys.take xs.length++xs.drop ys.length) nl),s.nx⟩
    |none=>False) else False
   |_=>False)
  |.sub o lo n sz=>(match Q9 s.own o with
   |.lst ty k xs nl=>if k.size=size/\sz=size then (match view s.own k (ev b) with
    |some ys=>K (.val (.i .i64) (Nat.min ys.length n:Nat)) ⟨s.env,oset s.own o (.lst ty k (xs.take lo++(ys.take n++xs.drop (lo+Nat.min ys.length n))) nl),s.nx⟩
    |none=>False) else False
   |_=>False)
  |_=>False
 |_=>False
def gnd (_:Cx) (_:Nat) (_:VOp) (_:Operand->SV) (_:St) (_:SV->St->Prop):Prop:=False
def SV.thing:SV->List Nat
 |.lst o=>[o]
 |.dd o _=>[o]
 |_=>[]
def Q98 (l:List SV):List Nat:=l.flatMap SV.thing
def SG (d:Nat) (o:VOp) (ev:Operand->SV):List Nat:=d::(match o with
 |.buildSlice _ _ _ parts=>parts.flatMap λp=>(match Gq (ev p.2) with|some l=>Q98 l|none=>[])
 |.append _ _ x y=>SV.thing (ev x)++SV.thing (ev y)
 |.store _ a v=>SV.thing (ev a)++(match Gq (ev v) with|some l=>Q98 l|none=>[])
 |_=>[])
def SU (C:Cx) (d:Nat) (o:VOp) (ev:Operand->SV):Bool :=
 match o with
 |.buildSlice e _ _ _=>(match Qs C.kt e.ty with|some k=>!k.flat&&!(C.raw.contains d)|none=>false)
 |.makeSlice e _ _ _ _=>(match Qs C.kt e.ty with|some k=>!k.flat&&!(C.raw.contains d)|none=>false)
 |.append _ _ x y=>(match ev x with
  |.dd _ _=>true
  |_=>(match ev y with|.dd _ .out=>true|_=>false))
 |.store _ a _=>(match ev a with|.dd _ _=>true|_=>false)
 |_=>false
mutual
def SV.frz (o:Nat) (k:Kind) (xs:List k.T):SV->SV
 |.lst o'=>bif Nat.beq o' o then .val (.list k) xs else .lst o'
 |.sub o' lo n sz=>bif Nat.beq o' o then .any else .sub o' lo n sz
 |.elp o' i off sz=>bif Nat.beq o' o then .any else .elp o' i off sz
 |.dd o' w=>bif Nat.beq o' o then .any else .dd o' w
 |.box o' off=>bif Nat.beq o' o then .any else .box o' off
 |.map o'=>bif Nat.beq o' o then .any else .map o'
 |.grd gs v=>.grd gs (SV.frz o k xs v)
 |.agg l=>.agg (SVs.frz o k xs l)
 |.tup l=>.tup (SVs.frz o k xs l)
 |.cp l off=>.cp (SVs.frz o k xs l) off
 |.fn f a b=>.fn f (SVs.frz o k xs a) (SVs.frz o k xs b)
 |.any=>.any
 |.val k x=>.val k x
 |.bid n c=>.bid n c
 |.nilS=>.nilS
 |.nilP=>.nilP
 |.nilM=>.nilM
 |.nilF=>.nilF
 |.rop k l i off=>.rop k l i off
 |.pf ks r cX p=>.pf ks r cX p
def SVs.frz (o:Nat) (k:Kind) (xs:List k.T):List SV->List SV
 |[]=>[]
 |s::ss=>SV.frz o k xs s::SVs.frz o k xs ss
end
def OB.frz (o:Nat) (k:Kind) (xs:List k.T):OB->OB
 |.cells l u=>.cells (SVs.frz o k xs l) u
 |.dead=>.dead
 |.lst ty k xs nl=>.lst ty k xs nl
 |.map kk vk m=>.map kk vk m
 |.stk l vals=>.stk (SVs.frz o k xs l) vals
 |.lpf l q s=>.lpf (SVs.frz o k xs l) q s
 |.deep ty q k xs nl h=>.deep ty q k xs nl h
 |.iter kk vk m dn=>.iter kk vk m dn
 |.mapE kk vk m key n=>.mapE kk vk m key n
def OX (o:Nat) (k:Kind) (xs:List k.T):Own->Own
 |[]=>[]
 |(j,b)::r=>bif Nat.beq j o then OX o k xs r else (j,b.frz o k xs)::OX o k xs r
def St.frz (s:St) (o:Nat):St:=match Q9 s.own o with
 |.lst _ k xs _=>⟨SVs.frz o k xs s.env,OX o k xs s.own,s.nx⟩
 |_=>s
def St.frzs (s:St):List Nat->St
 |[]=>s
 |o::r=>(s.frz o).frzs r
def Ml:List SV->List Nat
 |[]=>[]
 |s::r=>(match s with|.lst o=>o::Ml r|_=>Ml r)
def Q6t (C:Cx) (d:Nat) (o:VOp) (ev:Operand->SV) (own:Own):List Nat:=match o with
 |.store _ a v=>(match ev a with
  |.elp q _ _ _=>(match Q9 own q with
   |.lst _ k _ _=>bif k.flat then [] else (match Gq (ev v) with|some l=>Ml l|none=>[])
   |_=>[])
  |_=>[])
 |.buildSlice e _ _ parts=>(match Qs C.kt e.ty with
  |some k=>bif k.flat||!(C.raw.contains d) then [] else parts.flatMap λp=>(match Gq (ev p.2) with|some l=>Ml l|none=>[])
  |none=>[])
 |.move x=>bif C.raw.contains (2000000+d) then Ml [ev x] else []
 |_=>[]
def H0 (s:St) (j:Nat) (want:Bool):Option (List Gd×St) :=
 match s.env.getD j .any with
 |.val .bo c=>some ([⟨s.nx,want,c⟩],⟨s.env.set j (.bid s.nx c),s.own,s.nx+1⟩)
 |.bid n c=>some ([⟨n,want,c⟩],s)
 |.grd gs (.val .bo c)=>some (gs++[⟨s.nx,want,c⟩],⟨s.env.set j (.grd gs (.bid s.nx c)),s.own,s.nx+1⟩)
 |.grd gs (.bid n c)=>some (gs++[⟨n,want,c⟩],s)
 |_=>none
def gqc (C:Cx) (raw:Bool) (o:VOp) (ev:Operand->SV) (own:Own):Option (List Prop×SV) :=
 match o with
 |.callF f args=>match VD C.cs (.fn f [] []) (BM own (args.map ev)) with
  |some (c,v,[])=>bif v.ret 0 then some ([c],v) else none
  |_=>none
 |.callV f args=>match VD C.cs ((BM own [ev f]).getD 0 .any) (BM own (args.map ev)) with
  |some (c,v,[])=>bif v.ret 0 then some ([c],v) else none
  |_=>none
 |o=>gq C.kt raw o ev own
def Ak (nt:Nat):Option (Prop×SV×List OB)->Option (Prop×SV)
 |some (c,v,bs)=>(match v,bs with
  |.lst 0,[.lst _ k xs _]=>bif k.flat&&Nat.blt 0 nt then some (c,.val (.list k) xs) else none
  |_,_=>none)
 |none=>none
def S6 (C:Cx) (o:VOp) (ev:Operand->SV) (own:Own):Option (Prop×SV) :=
 match o with
 |.callF f args=>Ak C.nt (VD C.cs (.fn f [] []) (BM own (args.map ev)))
 |.callV f args=>Ak C.nt (VD C.cs ((BM own [ev f]).getD 0 .any) (BM own (args.map ev)))
 |.buildSlice e z n parts=>(match Qs C.kt e.ty with
  |some k=>if k.size=e.sz/\Ve k z=true/\k.flat=true then (match LA k ev parts (List.replicate n k.dflt) with
   |some xs=>some (True,.val (.list k) xs)
   |none=>none) else none
  |none=>none)
 |_=>none
def LO (env:List SV) (x:Operand):Option Bool:=match x with
 |.tmp j=>(match env.getD j .any with
  |.grd gs v=>(match gs with
   |[]=>(match v with
    |.val k x=>(match k,x with|.bo,b=>some b|_,_=>none)
    |_=>none)
   |_=>none)
  |_=>none)
 |_=>none
def FL (env:List SV) (g:Option (Nat×Bool)):Option Bool:=match g with
 |none=>none
 |some (j,want)=>(match LO env (.tmp j) with
  |some b=>some (b==want)
  |none=>none)
def Q51 (gs:List Gd) (env:List SV) (c a b:Operand):Option SV :=
 match gev gs env c with
 |.bid n t =>
  match a,b with
  |.const (.bool true),b=>(asB (gev (gs++[⟨n,false,t⟩]) env b)).map λy=>.val .bo (t||y)
  |a,.const (.bool false)=>(asB (gev (gs++[⟨n,true,t⟩]) env a)).map λx=>.val .bo (t&&x)
  |a,b=>match gev (gs++[⟨n,true,t⟩]) env a,gev (gs++[⟨n,false,t⟩]) env b with
   |.val (.i k) x,.val (.i k') y=>if k=k' then some (.val (.i k) (if t then x else y)) else none
   |.val .bo x,.val .bo y=>some (.val .bo (if t then x else y))
   |_,_=>none
 |_=>none
def Ea (gs:List Gd) (env:List SV) (c a b:Operand):Option SV:=match LO env c with
 |some t=>some (bif t then gev gs env a else gev gs env b)
 |none=>Q51 gs env c a b
def IX:VOp->Bool
 |.alloc ..|.box ..|.buildSlice ..|.makeSlice ..|.append ..|.store ..|.callF ..|.callV ..=>false
 |.ext (.makeMap)|.ext (.mapUpdate ..)|.ext (.delete ..)|.ext (.mapEntry ..)|.ext (.entryStore ..)|.ext (.copy ..)|.ext (.clear ..)|.ext (.unsafeStr ..)|.ext (.strBytes ..)|.ext (.rangeMap _)|.ext (.nextMap _)=>false
 |_=>true
def DF:SV->SV
 |.bid _ c=>.val .bo c
 |v=>v
def Q91 (o:VOp):Option (Nat×Nat×(Nat->VOp)):=match o with
 |.indexAddrArr len size x (.tmp t)=>some (len,t,λn=>.indexAddrArr len size x (.const (.int .i64 (Int.ofNat n))))
 |.indexArr len agg size x (.tmp t)=>some (len,t,λn=>.indexArr len agg size x (.const (.int .i64 (Int.ofNat n))))
 |_=>none
def Ft (j:Int) (f:Nat->Prop):Nat->Nat->Prop
 |0,_=>True
 |n+1,i=>(j=(i:Int)->f i)/\Ft j f n (i+1)
def Z5y (C:Cx) (o:VOper) (s:St) (K:St->Prop):Prop :=
 (match o.op with
 |.pick c a b=>match Ea [] s.env c a b with
  |some v=>gnm C (.pick c a b) (gev [] s.env) v λv=>K (s.put o.dst v)
  |none=>False
 |op=>bif IX op then (match gq C.kt (C.raw.contains (o.dst.getD 0)) op (gev [] s.env) s.own with
   |some (cs,v)=>C5 [] cs (gnm C op (gev [] s.env) v λv=>K (s.put o.dst v))
   |none=>False)
  else (match op with
   |.ext .makeMap=>(match Qs C.kt (1000000+o.dst.getD 0) with
    |some (.pair kk vk)=>K ((s.make (C.off+o.dst.getD 0) (.map kk vk [])).put o.dst (.map (C.off+o.dst.getD 0)))
    |_=>False)
   |op=>bif SU C (o.dst.getD 0) op (gev [] s.env) then gnd C (C.off+o.dst.getD 0) op (gev [] s.env) s λv s'=>K (s'.put o.dst v) else gn C (C.off+o.dst.getD 0) op (gev [] s.env) s λv s'=>K (s'.put o.dst v)))
def Z5t (C:Cx) (o:VOper) (s:St) (K:St->Prop):Prop :=
 match Q91 o.op with
 |some (len,i,f)=>(match asI (gev [] s.env (.tmp i)) with
  |some (_,j)=>0<=j/\j<(len:Int)/\Ft j (λn=>match gq C.kt (C.raw.contains (o.dst.getD 0)) (f n) (gev [] s.env) s.own with
   |some (cs,v)=>C5 [] cs (gnm C (f n) (gev [] s.env) v λv=>K (s.put o.dst v))
   |none=>False) len 0
  |none=>False)
 |none=>Z5y C o s K
def Z1u (C:Cx) (o:VOper) (s:St) (K:St->Prop):Prop :=
 match o.guard with
 |none=>Z5t C o (s.frzs (Q6t C (o.dst.getD 0) o.op (gev [] s.env) s.own)) K
 |some (j,want)=>match H0 s j want with
  |none=>False
  |some (gs,s)=>(match o.op with
   |.pick c a b=>match Ea gs s.env c a b with
    |some v=>gnm C (.pick c a b) (gev gs s.env) v λv=>K (s.put o.dst (.grd gs (DF v)))
    |none=>False
   |op=>(match gqc C (C.raw.contains (o.dst.getD 0)) op (gev gs s.env) s.own with
    |some (cs,v)=>C5 gs cs (gnm C op (gev gs s.env) v λv=>K (s.put o.dst (.grd gs (DF v))))
    |none=>(match S6 C op (gev gs s.env) s.own with
     |some (c,v)=>C5 gs [c] (gnm C op (gev gs s.env) v λv=>K ((s.make (C.off+o.dst.getD 0) .dead).put o.dst (.grd gs v)))
     |none=>False)))
def gop (C:Cx) (o:VOper) (s:St) (K:St->Prop):Prop:=match FL s.env o.guard with
 |some t=>bif t then Z1u C ⟨o.dst,o.op,none⟩ s K else K (s.put o.dst .any)
 |none=>Z1u C o s K
def Q5x (d:Nat) (s:St):Option St:=match s.env.getD d .any with
 |.box o off=>bif Nat.beq off 0 then (match Q9 s.own o with
  |.cells l _=>some ⟨s.env.set d (.cp l 0),oset s.own o .dead,s.nx⟩
  |_=>none) else none
 |_=>none
def Z21 (C:Cx) (d:Option Nat) (K:St->Prop) (s:St):Prop:=match d with
 |none=>K s
 |some d=>bif C.spl.contains d then (match asB (s.env.getD d .any) with
   |some t=>bif C.raw.contains (3000000+d) then (bif t then K (s.put (some d) (.grd [] (.val .bo true))) else K (s.put (some d) (.grd [] (.val .bo false))))
    else (t=true->K (s.put (some d) (.grd [] (.val .bo true))))/\(t=false->K (s.put (some d) (.grd [] (.val .bo false))))
   |none=>(match Q5x d s with
    |some s'=>K s'
    |none=>False))
  else K s
def Z1c (C:Cx):List VOper->St->(St->Prop)->Prop
 |[],s,K=>K s
 |o::r,s,K=>gop C o s (Z21 C o.dst λs'=>Z1c C r s' K)
def dv (o:DOper):VOper:=⟨o.dst,o.op,o.guard⟩
def Q3o (l:List DOper):Bool:=l.all λo=>!(o.kind==2)&&!(o.op.kind==2)
def gd1 (C:Cx) (o:DOper) (s:St) (K:St->Prop):Prop :=
 match o.guard with
 |none=>(match o.op with
  |.pick c a b=>(match Ea [] s.env c a b with
   |some v=>gnm C (.pick c a b) (gev [] s.env) v λv=>K (s.put o.dst v)
   |none=>False)
  |op=>(match gq C.kt (C.raw.contains (o.dst.getD 0)) op (gev [] s.env) s.own with
   |some (cs,v)=>C5 [] cs (gnm C op (gev [] s.env) v λv=>K (s.put o.dst v))
   |none=>False))
 |some (j,want)=>(match H0 s j want with
  |none=>False
  |some (gs,s)=>(match o.op with
   |.pick c a b=>(match Ea gs s.env c a b with
    |some v=>gnm C (.pick c a b) (gev gs s.env) v λv=>K (s.put o.dst (.grd gs (DF v)))
    |none=>False)
   |op=>(match gq C.kt (C.raw.contains (o.dst.getD 0)) op (gev gs s.env) s.own with
    |some (cs,v)=>C5 gs cs (gnm C op (gev gs s.env) v λv=>K (s.put o.dst (.grd gs (DF v))))
    |none=>False)))
def OB.wf:OB->Prop
 |.lst _ _ xs nl=>nl=true->xs=[]
 |_=>True
def O1:List OB->Prop->Prop
 |[],q=>q
 |b::r,q=>b.wf/\O1 r q
def Gh (C:Cx) (d:Nat) (f:SV) (args:List SV) (s:St) (K:List Nat->SV->St->Prop):Prop :=
 match VD C.cs f args with
 |some (c,v,bs)=>bif v.ret bs.length&&(bs.all OB.ret&&(Nat.blt 0 C.nt&&(bs.all OB.isL&&VB v))) then c/\O1 bs (K ((List.range bs.length).map λj=>d+j*C.nt) (v.ren d C.nt) (s.makes d C.nt 0 bs)) else False
 |none=>False
def P3:VOp->Bool
 |.alloc ..|.box ..|.buildSlice ..|.makeSlice ..=>true
 |_=>false
def QH (d:Nat) (o:VOp) (ev:Operand->SV):Nat:=match o with
 |.append _ _ x _=>(match ev x with|.lst q=>q|_=>d)
 |.store _ a _=>(match ev a with|.box q _=>q|.elp q _ _ _=>q|_=>d)
 |.ext (.mapUpdate _ m _ _)=>(match ev m with|.map q=>q|_=>d)
 |.ext (.delete _ m _)=>(match ev m with|.map q=>q|_=>d)
 |.ext (.mapEntry _ _ m _)=>(match ev m with|.map q=>q|_=>d)
 |.ext (.entryStore m _ _)=>(match ev m with|.map q=>q|_=>d)
 |.ext (.copy _ a _)=>(match ev a with|.lst q=>q|.sub q _ _ _=>q|_=>d)
 |.ext (.unsafeStr _ a _)=>(match ev a with|.dd q _=>q|_=>d)
 |_=>d
def OB.here:OB->Bool
 |.dead=>false
 |.stk _ _=>false
 |.deep _ _ _ _ _ _=>false
 |.iter _ _ _ _=>false
 |.mapE _ _ _ _ _=>false
 |.lpf _ _ _=>false
 |_=>true
def stP:MK->Value->Bool
 |.agg [.int .i64,.int .i64],.int .i64 n=>n==0
 |_,_=>false
def NR (o:VOp) (ev:Operand->SV) (own:Own):Option Nat:=match o with
 |.load _ _ a=>(match ev a with
  |.box q _=>bif (Q9 own q).here then some (2*q) else none
  |.elp q _ _ _=>bif (Q9 own q).here then some (2*q) else none
  |_=>none)
 |.ext (.lookup mk z false x _)=>bif stP mk z then (match ev x with
  |.map q=>(match Q9 own q with|.map _ _ _=>some (2*q+1)|_=>none)
  |_=>none) else none
 |.slice _ x _ _ none=>(match ev x with
  |.lst q=>(match Q9 own q with
   |.lst _ _ _ nl=>bif nl then none else some (2*q)
   |_=>none)
  |_=>none)
 |_=>none
def Rk:VOp->Bool
 |.ext (.mapEntry mk z _ _)=>stP mk z
 |_=>false
def Zc (A:List (Nat×Option Nat)) (j q:Nat):Bool:=A.all λa=>Nat.blt a.1 j||(match a.2 with|some t=>!(Nat.beq t q)|none=>false)
def PT (A:List (Nat×Option Nat)) (j:Nat) (q:Option Nat):Bool:=match q with|some q=>Zc A j (q / 2)|none=>false
def R2 (R:List (Nat×Option Nat)) (hl t:Nat):Bool:=R.all λr=>Nat.blt r.1 hl||(match r.2 with|some q=>!(Nat.beq (q / 2) t)|none=>false)
def SK (R:List (Nat×Option Nat)) (hl t:Nat):Bool:=R.all λr=>Nat.blt r.1 hl||(match r.2 with|some q=>!(Nat.beq (q / 2) t)|none=>true)
def Q7f (R:List (Nat×Option Nat)) (hl t:Nat):Bool:=R.all λr=>Nat.blt r.1 hl||(match r.2 with|some q=>!(Nat.beq (q / 2) t)||Nat.beq (q % 2) 1|none=>false)
def AZ (mk:Bool) (R:List (Nat×Option Nat)) (hl:Nat) (ts:List Nat):Bool:=R.all λr=>Nat.blt r.1 hl||(match r.2 with|some q=>ts.all (λt=>!(Nat.beq (q / 2) t))|none=>mk)
def Q7p (o:VOp) (ev:Operand->SV):Bool:=match o with
 |.load _ _ a=>(match ev a with|.rop _ _ _ _=>true|.cp _ _=>true|_=>false)
 |_=>false
def IM (s:St) (j:Nat) (want:Bool) (o:VOp):Bool:=match H0 s j want with
 |some (gs,s1)=>Q7p o (gev gs s1.env)
 |none=>false
def DL (A:List (Nat×Option Nat)) (j:Nat):Bool:=A.all λa=>Nat.blt a.1 j||a.2.isSome
def Fy (C:Cx) (f:SV) (args:List SV):Option (List Prop×SV):=match VD C.cs f args with
 |some (c,v,bs)=>(match v,bs with
  |.lst 0,[.lst _ k xs nl]=>bif k.flat&&Nat.blt 0 C.nt then some ([c,nl=true->xs=[]],.val (.list k) xs) else none
  |_,_=>none)
 |none=>none
def Ek (env:List SV) (o:DOper):DOper:=match FL env o.guard with
 |some true=>{o with guard:=none}
 |_=>o
def Z01 (own:Own):SV->Option (List SV)
 |.box o off=>bif Nat.beq off 0 then (match Q9 own o with|.cells l _=>some l|_=>none) else none
 |.cp l off=>bif Nat.beq off 0 then some l else none
 |_=>none
def Q2f (own:Own) (j:Nat):List SV->Option Nat
 |a::_=>(match Z01 own a with
  |some l=>(match l[j]? with
   |some (.map o)=>some o
   |_=>none)
  |none=>(match a with|.map o=>some o|_=>none))
 |[]=>none
def Cx.nx (C:Cx):Cx:={C with xs:=[]}
def Xp (C:Cx):List DOper->St->Nat->Nat->List (Nat×Option Nat)->List (Nat×Option Nat)->(St->Prop)->Prop
 |[],s,_,_,_,_,K=>K s
 |o0::r,s,hl,chg,A,R,K=>match FL s.env o0.guard with
  |some false=>if o0.kind=2 then Xp C r (s.put o0.dst .any) (hl+1) chg A R K else Xp C r (s.put o0.dst .any) hl chg A R K
  |_=>(λo:DOper =>
  if o.kind=2 then
   (match o.op with
   |.callF f args=>(match o.guard with
    |none=>(match Qs C.xs f with
     |some x=>(match Qs C.xf f with
      |some j=>(match Q2f s.own j (args.map (gev [] s.env)) with
       |some t=>bif waits o.dst.toList r&&AZ false R hl [t] then
         x (C.off+o.dst.getD 0) (args.map (gev [] s.env)) s λv s'=>Xp C r (s'.put o.dst v) (hl+1) hl ((hl-1,some t)::A) R K else False
       |none=>False)
      |none=>bif waits o.dst.toList r&&R.all (λq=>Nat.blt q.1 hl) then
       x (C.off+o.dst.getD 0) (args.map (gev [] s.env)) s λv s'=>Xp C r (s'.put o.dst v) (hl+1) hl ((hl-1,none)::A) [] K
      else Gh C (C.off+o.dst.getD 0) (.fn f [] []) (BM s.own (args.map (gev [] s.env))) s λts v s'=>Xp C r (s'.put o.dst v) (hl+1) (bif ts.isEmpty then chg else hl) (ts.map (λt=>(hl-1,some t))++A) (bif ts.isEmpty then R else R.map λr=>(r.1,none)) K)
     |none=>Gh C (C.off+o.dst.getD 0) (.fn f [] []) (BM s.own (args.map (gev [] s.env))) s λts v s'=>Xp C r (s'.put o.dst v) (hl+1) (bif ts.isEmpty then chg else hl) (ts.map (λt=>(hl-1,some t))++A) (bif ts.isEmpty then R else R.map λr=>(r.1,none)) K)
    |some (j,want)=>(match H0 s j want with
     |none=>False
     |some (gs,s)=>(match gqc C false (.callF f args) (gev gs s.env) s.own with
      |some (cs,v)=>bif VB v then C5 gs cs (gnm C (.callF f args) (gev gs s.env) v λv=>Xp C r (s.put o.dst (.grd gs (DF v))) (hl+1) chg A R K) else False
      |none=>(match Fy C (.fn f [] []) (BM s.own (args.map (gev gs s.env))) with
       |some (cs,v)=>C5 gs cs (Xp C r ((s.make (C.off+o.dst.getD 0) .dead).put o.dst (.grd gs v)) (hl+1) hl ((hl-1,none)::A) (R.map λr=>(r.1,none)) K)
       |none=>False))))
   |.callV f args=>(match o.guard with
    |none=>Gh C (C.off+o.dst.getD 0) ((BM s.own [gev [] s.env f]).getD 0 .any) (BM s.own (args.map (gev [] s.env))) s λts v s'=>Xp C r (s'.put o.dst v) (hl+1) (bif ts.isEmpty then chg else hl) (ts.map (λt=>(hl-1,some t))++A) (bif ts.isEmpty then R else R.map λr=>(r.1,none)) K
    |some _=>False)
   |.ext (.rangeMap _)=>False
   |.ext (.nextMap _)=>False
   |op=>(match o.guard with
    |none=>bif SU C (o.dst.getD 0) op (gev [] s.env) then
      (bif AZ (P3 op) R hl (SG (C.off+o.dst.getD 0) op (gev [] s.env)) then
       gnd C (C.off+o.dst.getD 0) op (gev [] s.env) s λv s'=>Xp C r (s'.put o.dst v) (hl+1) hl ((SG (C.off+o.dst.getD 0) op (gev [] s.env)).map (λt=>(hl-1,some t))++A) R K else False)
     else bif (P3 op&&SK R hl (QH (C.off+o.dst.getD 0) op (gev [] s.env)))||R2 R hl (QH (C.off+o.dst.getD 0) op (gev [] s.env))||(Rk op&&Q7f R hl (QH (C.off+o.dst.getD 0) op (gev [] s.env))) then
      gn C (C.off+o.dst.getD 0) op (gev [] s.env) s λv s'=>Xp C r (s'.put o.dst v) (hl+1) hl ((hl-1,some (QH (C.off+o.dst.getD 0) op (gev [] s.env)))::A) R K else False
    |some _=>False))
  else if o.kind=1 then
   (match o.guard with
   |none=>bif Q7p o.op (gev [] s.env)&&DL A o.kmin then gd1 C o s λs'=>Xp C r s' hl chg A R K
    else bif Nat.ble chg o.kmin||PT A o.kmin (NR o.op (gev [] s.env) s.own) then gd1 C o s λs'=>Xp C r s' hl chg A ((o.kmax,NR o.op (gev [] s.env) s.own)::R) K else False
   |some (j,want)=>bif IM s j want o.op&&DL A o.kmin then gd1 C o s λs'=>Xp C r s' hl chg A R K
    else bif Nat.ble chg o.kmin then gd1 C o s λs'=>Xp C r s' hl chg A ((o.kmax,none)::R) K else False)
  else gd1 C o s λs'=>Xp C r s' hl chg A R K) (Ek s.env o0)
inductive Src where
 |slot (j:Nat)
 |cell (t off:Nat)
 |key (k:Nat)
structure LoopAnn where
 E:Type
 D:Type
 sl:List Nat
 vs:E->D->List SV
 own:E->D->List (Nat×Src×OB)
def Q7k:List Nat->List SV->List (Nat×SV)
 |[],_=>[]
 |j::js,[]=>(j,.any)::Q7k js []
 |j::js,v::vs=>(j,v)::Q7k js vs
def LoopAnn.st (A:LoopAnn) (p:A.E) (d:A.D):List (Nat×SV):=Q7k A.sl (A.vs p d)
def LoopP {D:Type}(F:D->(D->Prop)->Prop) (d0:D):Prop :=
 ∃ (I:D->Prop) (μ:D->Nat),I d0/\∀ d,I d->F d λd'=>I d'/\μ d'<μ d
def Z5z (s:St) (mp:List (Nat×Option Nat)):Src->Option (Option Nat)
 |.slot j=>match s.env.getD j .any with
  |.lst a=>some (some a)
  |.sub a _ _ _=>some (some a)
  |.dd a _=>some (some a)
  |.box a _=>some (some a)
  |.map a=>some (some a)
  |.nilS=>some none
  |_=>none
 |.cell t off=>match Qs mp t with
  |some (some a)=>(match Q9 s.own a with
   |.cells l _=>(match l.getD off .any with
    |.lst a=>some (some a)
    |.box a _=>some (some a)
    |.map a=>some (some a)
    |.nilS=>some none
    |_=>none)
   |_=>none)
  |_=>none
 |.key k=>some (some k)
def Q9m (s:St):List (Nat×Src)->List (Nat×Option Nat)->Option (List (Nat×Option Nat))
 |[],mp=>some mp
 |(t,src)::r,mp=>match Z5z s mp src with
  |some (some a)=>if (mp.any λp=>p.2==some a)||(Qs mp t).isSome then none else Q9m s r (mp++[(t,some a)])
  |some none=>if (Qs mp t).isSome then none else Q9m s r (mp++[(t,none)])
  |none=>none
def Gk {k:Kind}(x:k.T) {k':Kind}(y:k'.T):Prop:=match Iw y k with|some y=>y=x|none=>False
mutual
def SV.pure:SV->Bool
 |.lst _|.sub _ _ _ _|.elp _ _ _ _|.box _ _|.map _|.grd _ _|.bid _ _|.dd _ _=>false
 |.agg l=>SVs.pure l
 |.tup l=>SVs.pure l
 |.cp l _=>SVs.pure l
 |.fn _ a b=>SVs.pure a&&SVs.pure b
 |.any|.val _ _|.nilS|.nilP|.nilM|.nilF|.rop _ _ _ _|.pf _ _ _ _=>true
def SVs.pure:List SV->Bool
 |[]=>true
 |s::ss=>SV.pure s&&SVs.pure ss
end
mutual
def BK (mp:List (Nat×Option Nat)):SV->SV->Prop
 |.any,_=>True
 |.val k x,v=>match v with
  |.val _k' y=>Gk x y
  |.bid _ c=>Gk (k:=k) x (k':=.bo) c
  |.nilS=>match k,x with|.list _,x=>x=[]|_,_=>False
  |_=>False
 |.lst t,v=>match v with
  |.lst a=>if Qs mp t=some (some a) then True else False
  |.nilS=>if Qs mp t=some none then True else False
  |_=>False
 |.box t off,v=>match v with
  |.box a dL=>if Qs mp t=some (some a)/\off=dL then True else False
  |_=>False
 |.map t,v=>match v with
  |.map a=>if Qs mp t=some (some a) then True else False
  |_=>False
 |.dd t w,v=>(match w with
  |.obx c=>(match v with
   |.nilP=>c=false
   |.box a f=>if Qs mp t=some (some a)/\f=0 then c=true else False
   |.dd a w'=>(match w' with|.obx c'=>if Qs mp t=some (some a) then c'=c else False|_=>False)
   |_=>False)
  |.yv=>(match v with
   |.dd a w'=>(match w' with|.yv=>if Qs mp t=some (some a) then True else False|_=>False)
   |_=>False)
  |.out=>(match v with
   |.dd a w'=>(match w' with|.out=>if Qs mp t=some (some a) then True else False|_=>False)
   |.nilS=>if Qs mp t=some none then True else False
   |_=>False)
  |_=>False)
 |.agg l,v=>match v with|.agg l'=>U4 mp l l'|_=>False
 |.tup l,v=>match v with|.tup l'=>U4 mp l l'|_=>False
 |.fn f a b,v=>match v with|.fn f' a' b'=>if f=f' then U4 mp a a'/\U4 mp b b' else False|_=>False
 |.nilS,v=>match v with|.nilS=>True|_=>False
 |.nilP,v=>match v with|.nilP=>True|_=>False
 |.nilM,v=>match v with|.nilM=>True|_=>False
 |.nilF,v=>match v with|.nilF=>True|_=>False
 |.cp l off,v=>bif SVs.pure l then .cp l off=v/\SVs.pure l=true else match v with|.cp l' dL=>if off=dL then U4 mp l l' else False|_=>False
 |.pf ks r cX p,v=>.pf ks r cX p=v
 |.sub t lo n sz,v=>match v with
  |.sub a uB n' uC=>if Qs mp t=some (some a) then uB=lo/\n'=n/\uC=sz else False
  |_=>False
 |.elp _ _ _ _,_|.grd _ _,_|.bid _ _,_|.rop _ _ _ _,_=>False
def U4 (mp:List (Nat×Option Nat)):List SV->List SV->Prop
 |[],l=>l=[]
 |s::ss,l=>match l with|v::vs=>BK mp s v/\U4 mp ss vs|[]=>False
end
def Fm (s:St) (mp:List (Nat×Option Nat)) (t:Nat) (b:OB):Prop :=
 match Qs mp t with
 |some (some a)=>(match b,Q9 s.own a with
  |.dead,_=>True
  |.lst ty k xs nl,.lst gf k' cF kn=>if ty=gf then Gk (k:=.list k) xs (k':=.list k') cF/\kn=nl else False
  |.cells l u,.cells l' u'=>if u=u' then U4 mp l l' else False
  |.map kk vk m,.map i_ mh m'=>if kk=i_ then Gk (k:=.list (.pair kk vk)) m (k':=.list (.pair i_ mh)) m' else False
  |.stk l vals,.stk l' lr=>vals=lr/\U4 mp l l'
  |.lpf l q u,.lpf l' q' u'=>(match u,u' with|.rdy,.rdy=>q=q'/\U4 mp l l'|.busy,.busy=>q=q'/\U4 mp l l'|_,_=>False)
  |.iter kk vk m dn,.iter i_ mh m' sB=>if kk=i_ then Gk (k:=.list (.pair kk vk)) m (k':=.list (.pair i_ mh)) m'/\sB=dn else False
  |.deep ty q k xs nl h,.deep gf q' k' cF kn h'=>if ty=gf/\q=q' then (match h,h' with|none,none=>Gk (k:=.list k) xs (k':=.list k') cF/\kn=nl|_,_=>False) else False
  |_,_=>False)
 |some none=>(match b with
  |.lst _ _ xs nl=>xs=[]/\nl=true
  |.deep _ _ _ xs nl h=>(match h with|none=>xs=[]/\nl=true|some _=>False)
  |_=>False)
 |none=>False
def gmatch (s:St) (st:List (Nat×SV)) (ow:List (Nat×Src×OB)):Prop :=
 match Q9m s (ow.map λp=>(p.1,p.2.1)) [] with
 |some mp=>slots mp st/\obs mp ow
 |none=>False
 where
 slots (mp:List (Nat×Option Nat)):List (Nat×SV)->Prop
  |[]=>True
  |(j,v)::r=>BK mp v (s.env.getD j .any)/\slots mp r
 obs (mp:List (Nat×Option Nat)):List (Nat×Src×OB)->Prop
  |[]=>True
  |(t,_,b)::r=>Fm s mp t b/\obs mp r
def Za (len:Nat) (st:List (Nat×SV)) (ow:List (Nat×Src×OB)):St :=
 ⟨st.foldl (λe p=>e.set p.1 p.2) (List.replicate len .any),ow.foldl (λo p=>oset o p.1 p.2.2) [],0⟩
def Z68:SV->SV
 |.bid _ c=>.val .bo c
 |.grd _ _=>.any
 |.elp _ _ _ _=>.any
 |.rop _ _ _ _=>.any
 |.dd o w=>(match w with|.out=>.dd o .out|.obx c=>.dd o (.obx c)|.yv=>.dd o .yv|_=>.any)
 |v=>v
def Z41 (jn:List Nat) (s:St):List (Nat×SV):=jn.map λj=>(j,Z68 (s.env.getD j .any))
def Z0x:Own->List (Nat×Src×OB)
 |[]=>[]
 |(t,b)::r=>(match b with|.dead=>Z0x r|b=>(t,.key t,b)::Z0x r)
def BG (n:Nat) (s:St) (st:List (Nat×SV)) (ow:List (Nat×Src×OB)):Prop:=bif Nat.beq s.env.length n then gmatch s st ow else False
def Q5e (C:Cx):List (List DOper)->St->List (Nat×SV)->List (Nat×Src×OB)->Prop->Prop
 |[],_,_,_,Q=>Q
 |l::ls,s,st,ow,Q=>(Xp C.nx l s 1 0 [] [] λs'=>BG s.env.length s' st ow)/\Q5e C ls s st ow Q
def Sm (C:Cx):List DSeg->St->(St->Prop)->Prop
 |[],s,K=>K s
 |.one o::r,s,K=>gop C o s (Z21 C o.dst λs'=>Sm C r s' K)
 |.alts [l]::r,s,K=>bif Q3o l then Z1c C (l.map dv) s λs'=>Sm C r s' K else bif l.all (λo=>o.kind==o.op.kind) then Xp C l s 1 0 [] [] λs'=>Sm C r s' K else False
 |.alts (l::l2::ls)::r,s,K=>bif (l::l2::ls).all (λl=>l.all λo=>o.kind==o.op.kind) then
   Xp C.nx l s 1 0 [] [] λs0=>BG s.env.length s0 (Z41 C.jn s0) (Z0x s0.own)/\Q5e C (l2::ls) s (Z41 C.jn s0) (Z0x s0.own) (Sm C r (Za s.env.length (Z41 C.jn s0) (Z0x s0.own)) K) else False
 |.alts []::_,_,_=>False
def Q14 (R:St->Prop) (K:Exit->St->Prop):Exit->St->Prop
 |.normal,s=>R s
 |e,s=>K e s
def I9 (id:Nat) (K:Exit->St->Prop):Exit->St->Prop
 |.exit iG,s=>if iG=id then K .normal s else K (.exit iG) s
 |e,s=>K e s
def Z49:Own->Bool
 |[]=>true
 |(_,b)::r=>(match b with|.lpf _ _ .ret=>false|.lpf _ _ (.exit _)=>false|_=>true)&&Z49 r
def Q3d (A:LoopAnn) (p:A.E) (next:A.D->Prop) (K:Exit->St->Prop):Exit->St->Prop
 |.normal,s=>bif Z49 s.own then ∃ d,gmatch s (A.st p d) (A.own p d)/\next d else False
 |e,s=>K e s
def Z1h {D:Type}(F:(D->Prop)->Prop) (ja:D->Prop):Prop:=∃ I:D->Prop,F I/\∀ d,I d->ja d
def Z4s (L:List (Nat×LoopAnn)) (c:Operand):Option LoopAnn:=match c with
 |.tmp j=>Qs L (3000000+j)
 |_=>none
def Q6j (n:Nat) (A:LoopAnn) (p:A.E) (next:A.D->Prop) (K:Exit->St->Prop):Exit->St->Prop
 |.normal,s=>∃ d,BG n s (A.st p d) (A.own p d)/\next d
 |e,s=>K e s
def Q2u {D:Type}(m:Nat) (F:Nat->D->(D->Prop)->Prop) (ja:D->Prop) (d0:D):Prop :=
 ∃ I:Nat->D->Prop,I 0 d0/\(∀ k d,k<m->I k d->F k d λd'=>I (k+1) d')/\∀ d,I m d->ja d
def Q75:St->List SV->Option (St×List SV)
 |s,[]=>some (s,[])
 |s,v::vs=>match v with
  |.box o 0=>(match Q9 s.own o with
   |.cells l _=>bif SVs.pure l then (match Q75 ⟨s.env,oset s.own o .dead,s.nx⟩ vs with|some (s',r)=>some (s',.cp l 0::r)|none=>none) else none
   |_=>none)
  |v=>bif v.pure then (match Q75 s vs with|some (s',r)=>some (s',v::r)|none=>none) else none
def C3 (key:Nat) (vals:List Value) (s:St):St:=s.make key (.stk (SVs.kill key s.env) vals)
def Dj:List SV->List Nat->List SV->List SV
 |env,p::ps,v::vs=>Dj (env.set p v) ps vs
 |env,_,_=>env
def IH (key:Nat) (A:LoopAnn) (p:A.E) (vals:List Value) (next:A.D->Prop) (K:Exit->St->Prop) (e:Exit) (s:St):Prop :=
 match Q9 s.own key with
 |.stk l vs=>vs=vals/\(match e with
  |.normal=>∃ d,gmatch ⟨l,s.own,s.nx⟩ (A.st p d) (A.own p d)/\next d
  |.ret=>K .ret ⟨l,s.own,s.nx⟩
  |.exit id=>K (.exit id) ⟨l,s.own,s.nx⟩
  |_=>False)
 |_=>False
def Z5n (o:Nat) (q:LpD) (s:St):St:=s.make o (.lpf (SVs.kill o s.env) q .rdy)
def gyK (o aL:Nat) (gX:List Value) (q:LpD) (K:SV->St->Prop) (e:Exit) (s:St):Prop :=
 match Q9 s.own aL,Q9 s.own o with
 |.stk l2 lu,.lpf l q' u=>(match u with
  |.busy=>lu=gX/\q'=q/\(match e with
   |.normal=>K (.val .bo true) ⟨l2,oset (oset s.own aL .dead) o (.lpf l q' .rdy),s.nx⟩
   |.ret=>K (.val .bo false) ⟨l2,oset (oset s.own aL .dead) o (.lpf l q' .ret),s.nx⟩
   |.exit id=>K (.val .bo false) ⟨l2,oset (oset s.own aL .dead) o (.lpf l q' (.exit id)),s.nx⟩
   |_=>False)
  |_=>False)
 |_,_=>False
def Q6c (o:Nat) (q:LpD) (K:Exit->St->Prop) (s:St):Prop :=
 match Q9 s.own o with
 |.lpf l q' u=>(match u with
  |.busy=>False
  |.rdy=>q'=q/\K .normal ⟨l,oset s.own o .dead,s.nx⟩
  |.ret=>q'=q/\K .ret ⟨l,oset s.own o .dead,s.nx⟩
  |.exit id=>q'=q/\K (.exit id) ⟨l,oset s.own o .dead,s.nx⟩)
 |_=>False
def Oi (o aL np:Nat) (q:LpD) (W:(Exit->St->Prop)->St->Prop) (ps:List Nat):YSp:=λargs s K =>
 match Q9 s.own o with
 |.lpf l q' u=>(match u with
  |.rdy=>bif Nat.beq args.length np then q'=q/\∀ gX,W (gyK o aL gX q K) ⟨Dj (SVs.kill aL l) ps (SVs.kill aL args),oset (C3 aL gX s).own o (.lpf (SVs.kill aL l) q' .busy),s.nx⟩ else False
  |_=>False)
 |_=>False
def gwp (C:Cx) (L:List (Nat×LoopAnn)):VCode->Nat->(Exit->St->Prop)->St->Prop
 |.skip,_,K,s=>K .normal s
 |.region ops,_,K,s=>Z1c C ops s λs'=>K .normal s'
 |.regionD aS,_,K,s=>Sm C aS s λs'=>K .normal s'
 |.seq a b,n,K,s=>gwp C L a n (Q14 (λs'=>gwp C L b n K s') K) s
 |.cond c a b,n,K,s=>match LO s.env c with
  |some t=>bif t then gwp C L a n K s else gwp C L b n K s
  |none=>(match asB (gev [] s.env c) with
   |some t=>(match Z4s L c with
    |some A=>∃ p:A.E,Z1h (λnext=>(t=true->gwp C L a n (Q6j s.env.length A p next K) s)/\(t=false->gwp C L b n (Q6j s.env.length A p next K) s)) (λd=>K .normal (Za s.env.length (A.st p d) (A.own p d)))
    |none=>(t=true->gwp C L a n K s)/\(t=false->gwp C L b n K s))
   |none=>False)
 |.block id b,_,K,s=>gwp C L b id (I9 id K) s
 |.loop b,n,K,s=>match Qs L n with
  |some A=>∃ (p:A.E) (d0:A.D),gmatch s (A.st p d0) (A.own p d0)/\LoopP (λd next=>gwp C L b n (Q3d A p next K) (Za s.env.length (A.st p d) (A.own p d))) d0
  |none=>False
 |.rangeF g ps a b,n,K,s=>match gev [] s.env g with
  |.fn f first dK=>(match Qs C.iy f with
   |some x=>∀ q:LpD,x (C.off+2000000+n) (SVs.kill (C.off+2000000+n) first++(.dd (C.off+2000000+n) .yv::SVs.kill (C.off+2000000+n) dK))
     (C.off+2000000+n,Oi (C.off+2000000+n) (100000*(C.off+2000000+n+1)-1) ps.length q (λK' s'=>gwp C L a n (Q14 (λs3=>gwp C L b n K' s3) λ_ _=>False) s') ps)
     (Z5n (C.off+2000000+n) q s) (Q6c (C.off+2000000+n) q K)
   |none=>(match first with
   |[]=>(match Qs C.it f,Q75 s dK,Qs L n with
    |some it,some (s1,cP),some A=>(match it cP with
     |some (c,m,ar,xs)=>(bif Nat.beq ps.length ar then c/\∃ (p:A.E) (d0:A.D),gmatch s1 (A.st p d0) (A.own p d0) /\
      Q2u m (λk d next=>∀ vals,gwp C L a n (Q14 (λs3=>gwp C L b n (IH (2000000+n) A p vals next K) s3) λ_ _=>False)
       ⟨Dj (C3 (2000000+n) vals (Za s.env.length (A.st p d) (A.own p d))).env ps (xs k),(C3 (2000000+n) vals (Za s.env.length (A.st p d) (A.own p d))).own,0⟩)
       (λd=>K .normal (Za s.env.length (A.st p d) (A.own p d))) d0 else False)
     |none=>False)
    |_,_,_=>False)
   |_=>False))
  |_=>False
 |.exit id,_,K,s=>K (.exit id) s
 |.ret,_,K,s=>K .ret s
 |.bad,_,_,_=>False
section
variable {P:Program}
theorem Zo {a b:Nat}(h:¬ a=b):Nat.beq a b=false:=by
 cases e:Nat.beq a b with
 |false=>rfl
 |true=>exact absurd (zM e) h
theorem PfRel.mono {B B':Heap}(hB:B.Le B') {ks:List Kind}{r:Kind}{cX:AT ks->Prop}{p:AT ks->r.T}{v:Value}(h:PfRel P B ks r cX p v):PfRel P B' ks r cX p v:=by obtain⟨g,first,cap,hv,hx⟩:=h;exact⟨g,first,cap,hv,λx hd M vs hs ha=>hx x hd M vs (hB.trans hs) ha⟩
theorem Q0p {tb tb':Nat->Option Bool}(ht:∀ n c,tb n=some c->tb' n=some c) {v:SV}(h:gtb tb v):gtb tb' v:=by cases v<;>first|trivial|exact ht _ _ h
theorem Q1a {tb tb':Nat->Option Bool}{o:Nat}(ht:∀ n c,tb n=some c->tb' n=some c) {v:SV}(h:gtb tb v):gtb tb' (v.kill o):=by
 cases v
 case bid n c=>exact ht _ _ h
 all_goals (simp only[SV.kill];first|trivial|(split<;>trivial)|(cases Nat.beq _ _<;>trivial))
mutual
theorem SR.upd {B B':Heap}{pl pl':Nat->Value}{tb tb':Nat->Option Bool}{o:Nat}(hB:B.Le B') (ht:∀ n c,tb n=some c->tb' n=some c) (hp:∀ d,d≠o->pl' d=pl d) :
  ∀ (s:SV) (v:Value),SR P B pl tb s v->SR P B' pl' tb' (s.kill o) v
 |.any,_,_=>trivial
 |.val k x,v,h=>by simp only[SV.kill,SR] at h |-;exact KC.mono hB h
 |.bid n c,v,h=>by simp only[SV.kill,SR] at h |-;exact⟨h.1,ht _ _ h.2⟩
 |.grd gs s,v,h=>by simp only[SV.kill,SR] at h |-;exact⟨⟨λg hg=>ht _ _ (h.1.1 g hg),Q1a ht h.1.2⟩,λhg=>SR.upd hB ht hp s v (h.2.1 hg),h.2.2⟩
 |.nilS,v,h=>h
 |.nilP,v,h=>h
 |.nilM,v,h=>h
 |.nilF,v,h=>h
 |.lst o',v,h=>by
  by_cases e:o'=o
  .subst e;simp[SV.kill,SR]
  .simp only[SV.kill,Zo e,cond_false];simp only[SR] at h |-;rw[hp _ e];exact h
 |.sub o' lo n sz,v,h=>by
  by_cases e:o'=o
  .subst e;simp[SV.kill,SR]
  .simp only[SV.kill,Zo e,cond_false];simp only[SR] at h |-;rw[hp _ e];exact h
 |.elp o' i off sz,v,h=>by
  by_cases e:o'=o
  .subst e;simp[SV.kill,SR]
  .simp only[SV.kill,Zo e,cond_false];simp only[SR] at h |-;rw[hp _ e];exact h
 |.box o' off,v,h=>by
  by_cases e:o'=o
  .subst e;simp[SV.kill,SR]
  .simp only[SV.kill,Zo e,cond_false];simp only[SR] at h |-;rw[hp _ e];exact h
 |.map o',v,h=>by
  by_cases e:o'=o
  .subst e;simp[SV.kill,SR]
  .simp only[SV.kill,Zo e,cond_false];simp only[SR] at h |-;rw[hp _ e];exact h
 |.dd o' w,v,h=>by
  by_cases e:o'=o
  .subst e;simp[SV.kill,SR]
  .simp only[SV.kill,Zo e,cond_false];simp only[SR] at h |-;rw[hp _ e];exact h
 |.rop k l i off,v,h=>by simp only[SV.kill,SR] at h |-;obtain⟨b,o,c,e,wr,t,h1,h2,h3,h4,h5,h6⟩:=h;exact⟨b,o,c,e,wr,t,h1,h2,hB.2 _ _ h3,h4,h5,h6.mono λ_ _=>KC.mono hB⟩
 |.cp l off,v,h=>by simp only[SV.kill,SR] at h |-;obtain⟨b,c,e,wr,t,h1,h2,h3⟩:=h;exact⟨b,c,e,wr,t,hB.2 _ _ h1,h2,SRs.upd hB ht hp l c h3⟩
 |.agg l,v,h=>by simp only[SV.kill,SR] at h |-;obtain⟨cs,h1,h2⟩:=h;exact⟨cs,h1,SRs.upd hB ht hp l cs h2⟩
 |.tup l,v,h=>by simp only[SV.kill,SR] at h |-;obtain⟨cs,h1,h2⟩:=h;exact⟨cs,h1,SRs.upd hB ht hp l cs h2⟩
 |.fn f a b,v,h=>by simp only[SV.kill,SR] at h |-;obtain⟨x,y,h1,h2,h3⟩:=h;exact⟨x,y,h1,SRs.upd hB ht hp a x h2,SRs.upd hB ht hp b y h3⟩
 |.pf ks r cX p,v,h=>by simp only[SV.kill,SR] at h |-;exact h.mono hB
theorem SRs.upd {B B':Heap}{pl pl':Nat->Value}{tb tb':Nat->Option Bool}{o:Nat}(hB:B.Le B') (ht:∀ n c,tb n=some c->tb' n=some c) (hp:∀ d,d≠o->pl' d=pl d) :
  ∀ (s:List SV) (v:List Value),SRs P B pl tb s v->SRs P B' pl' tb' (SVs.kill o s) v
 |[],v,h=>h
 |s::ss,v,h=>by simp only[SVs.kill,SRs] at h |-;obtain⟨x,y,h1,h2,h3⟩:=h;exact⟨x,y,h1,SR.upd hB ht hp s x h2,SRs.upd hB ht hp ss y h3⟩
end
mutual
theorem SR.mono {B B':Heap}{pl:Nat->Value}{tb tb':Nat->Option Bool}(hB:B.Le B') (ht:∀ n c,tb n=some c->tb' n=some c) :
  ∀ (s:SV) (v:Value),SR P B pl tb s v->SR P B' pl tb' s v
 |.any,_,_=>trivial
 |.val k x,v,h=>by simp only[SR] at h |-;exact KC.mono hB h
 |.bid n c,v,h=>by simp only[SR] at h |-;exact⟨h.1,ht _ _ h.2⟩
 |.grd gs s,v,h=>by simp only[SR] at h |-;exact⟨⟨λg hg=>ht _ _ (h.1.1 g hg),Q0p ht h.1.2⟩,λhg=>SR.mono hB ht s v (h.2.1 hg),h.2.2⟩
 |.nilS,v,h|.nilP,v,h|.nilM,v,h|.nilF,v,h=>by simp only[SR] at h |-;exact h
 |.lst _,v,h|.sub _ _ _ _,v,h|.elp _ _ _ _,v,h|.box _ _,v,h|.map _,v,h|.dd _ _,v,h=>by simp only[SR] at h |-;exact h
 |.rop k l i off,v,h=>by simp only[SR] at h |-;obtain⟨b,o,c,e,wr,t,h1,h2,h3,h4,h5,h6⟩:=h;exact⟨b,o,c,e,wr,t,h1,h2,hB.2 _ _ h3,h4,h5,h6.mono λ_ _=>KC.mono hB⟩
 |.cp l off,v,h=>by simp only[SR] at h |-;obtain⟨b,c,e,wr,t,h1,h2,h3⟩:=h;exact⟨b,c,e,wr,t,hB.2 _ _ h1,h2,SRs.mono hB ht l c h3⟩
 |.agg l,v,h=>by simp only[SR] at h |-;obtain⟨cs,h1,h2⟩:=h;exact⟨cs,h1,SRs.mono hB ht l cs h2⟩
 |.tup l,v,h=>by simp only[SR] at h |-;obtain⟨cs,h1,h2⟩:=h;exact⟨cs,h1,SRs.mono hB ht l cs h2⟩
 |.fn f a b,v,h=>by simp only[SR] at h |-;obtain⟨x,y,h1,h2,h3⟩:=h;exact⟨x,y,h1,SRs.mono hB ht a x h2,SRs.mono hB ht b y h3⟩
 |.pf ks r cX p,v,h=>by simp only[SR] at h |-;exact h.mono hB
theorem SRs.mono {B B':Heap}{pl:Nat->Value}{tb tb':Nat->Option Bool}(hB:B.Le B') (ht:∀ n c,tb n=some c->tb' n=some c) :
  ∀ (s:List SV) (v:List Value),SRs P B pl tb s v->SRs P B' pl tb' s v
 |[],v,h=>h
 |s::ss,v,h=>by simp only[SRs] at h |-;obtain⟨x,y,h1,h2,h3⟩:=h;exact⟨x,y,h1,SR.mono hB ht s x h2,SRs.mono hB ht ss y h3⟩
end
mutual
theorem SR.frz {B:Heap}{pl:Nat->Value}{tb:Nat->Option Bool}{o:Nat}{k:Kind}{xs:List k.T}(hk:KC B (.list k) xs [pl o]) :
  ∀ (s:SV) (v:Value),SR P B pl tb s v->SR P B pl tb (s.frz o k xs) v
 |.any,_,_=>trivial
 |.val k' x,v,h=>by simp only[SV.frz];exact h
 |.bid n c,v,h=>by simp only[SV.frz];exact h
 |.grd gs s,v,h=>by simp only[SV.frz,SR] at h |-;refine⟨⟨h.1.1,?_⟩,λhg=>SR.frz hk s v (h.2.1 hg),h.2.2⟩;have h2:=h.1.2;cases s<;>first|exact h2|trivial|(simp only[SV.frz];cases Nat.beq _ _<;>trivial)
 |.nilS,v,h|.nilP,v,h|.nilM,v,h|.nilF,v,h=>h
 |.lst o',v,h=>by
  by_cases e:o'=o
  .subst e;simp only[SV.frz,Nat.beq_refl,zj];simp only[SR] at h |-;rw[h.1];exact hk
  .simp only[SV.frz,Zo e,cond_false];exact h
 |.sub o' lo n sz,v,h=>by
  simp only[SV.frz];cases Nat.beq o' o with
  |true=>trivial
  |false=>exact h
 |.elp o' i off sz,v,h=>by
  simp only[SV.frz];cases Nat.beq o' o with
  |true=>trivial
  |false=>exact h
 |.box o' off,v,h=>by
  simp only[SV.frz];cases Nat.beq o' o with
  |true=>trivial
  |false=>exact h
 |.map o',v,h=>by
  simp only[SV.frz];cases Nat.beq o' o with
  |true=>trivial
  |false=>exact h
 |.dd o' w,v,h=>by
  simp only[SV.frz];cases Nat.beq o' o with
  |true=>trivial
  |false=>exact h
 |.rop k l i off,v,h=>by simp only[SV.frz];exact h
 |.cp l off,v,h=>by simp only[SV.frz,SR] at h |-;obtain⟨b,c,e,wr,t,h1,h2,h3⟩:=h;exact⟨b,c,e,wr,t,h1,h2,SRs.frz hk l c h3⟩
 |.agg l,v,h=>by simp only[SV.frz,SR] at h |-;obtain⟨cs,h1,h2⟩:=h;exact⟨cs,h1,SRs.frz hk l cs h2⟩
 |.tup l,v,h=>by simp only[SV.frz,SR] at h |-;obtain⟨cs,h1,h2⟩:=h;exact⟨cs,h1,SRs.frz hk l cs h2⟩
 |.fn f a b,v,h=>by simp only[SV.frz,SR] at h |-;obtain⟨x,y,h1,h2,h3⟩:=h;exact⟨x,y,h1,SRs.frz hk a x h2,SRs.frz hk b y h3⟩
 |.pf ks r cX p,v,h=>by simp only[SV.frz];exact h
theorem SRs.frz {B:Heap}{pl:Nat->Value}{tb:Nat->Option Bool}{o:Nat}{k:Kind}{xs:List k.T}(hk:KC B (.list k) xs [pl o]) :
  ∀ (s:List SV) (v:List Value),SRs P B pl tb s v->SRs P B pl tb (SVs.frz o k xs s) v
 |[],v,h=>h
 |s::ss,v,h=>by simp only[SVs.frz,SRs] at h |-;obtain⟨x,y,h1,h2,h3⟩:=h;exact⟨x,y,h1,SR.frz hk s x h2,SRs.frz hk ss y h3⟩
end
theorem SRs.length {B:Heap}{pl:Nat->Value}{tb:Nat->Option Bool}:∀ {s:List SV}{v:List Value},SRs P B pl tb s v->s.length=v.length
 |[],v,h=>by simp only[SRs] at h;subst h;rfl
 |s::ss,v,h=>by simp only[SRs] at h;obtain⟨x,y,rfl,_,h3⟩:=h;simp[SRs.length h3]
theorem SRs.get {B:Heap}{pl:Nat->Value}{tb:Nat->Option Bool}:∀ {s:List SV}{v:List Value},SRs P B pl tb s v->∀ {i:Nat}{a:SV},s[i]?=some a->∃ c,v[i]?=some c/\SR P B pl tb a c
 |[],v,h,i,a,hi=>by simp at hi
 |s::ss,v,h,i,a,hi=>by
  simp only[SRs] at h;obtain⟨x,y,rfl,h2,h3⟩:=h;cases i with
  |zero=>simp at hi;subst hi;exact⟨x,rfl,h2⟩
  |succ i=>simp at hi;simpa using SRs.get h3 hi
theorem SRs.of {B:Heap}{pl:Nat->Value}{tb:Nat->Option Bool}:∀ {s:List SV}{v:List Value},s.length=v.length->(∀ (i:Nat) (a:SV) (c:Value),s[i]?=some a->v[i]?=some c->SR P B pl tb a c)->SRs P B pl tb s v
 |[],v,hl,_=>by simp only[SRs];exact x4.1 (by simpa using hl.symm)
 |s::ss,[],hl,_=>by simp at hl
 |s::ss,x::y,hl,h=>by simp only[SRs];exact⟨x,y,rfl,h 0 s x rfl rfl,SRs.of (by simpa using hl) λi a c ha hc=>h (i+1) a c (by simpa using ha) (by simpa using hc)⟩
theorem SRs.getD {B:Heap}{pl:Nat->Value}{tb:Nat->Option Bool}{s:List SV}{v:List Value}(h:SRs P B pl tb s v) (i:Nat) (d:Value):SR P B pl tb (s.getD i .any) (v.getD i d):=by
 by_cases hi:i<s.length
 .obtain⟨c,h1,h2⟩:=h.get (z1 hi);rw[zd,zd,h1,z1 hi];exact h2
 .rw[zd,zk (by omega)];simp[SR]
theorem SRs.set {B:Heap}{pl:Nat->Value}{tb:Nat->Option Bool}{s:List SV}{v:List Value}(h:SRs P B pl tb s v) (i:Nat) {a:SV}{c:Value}(ha:SR P B pl tb a c):SRs P B pl tb (s.set i a) (v.set i c):=by
 refine SRs.of (by simp[h.length]) λj a' c' h1 h2=>?_;rw[xH] at h1 h2;by_cases cj:i=j
 .subst cj;simp only[zB] at h1 h2;split at h1<;>split at h2<;>simp at h1 h2;subst h1;subst h2;exact ha
 .simp only[cj,if_false] at h1 h2;obtain⟨c,h3,h4⟩:=h.get h1;rw[h3] at h2;obtain rfl:=osj h2;exact h4
theorem SRs.append {B:Heap}{pl:Nat->Value}{tb:Nat->Option Bool}:∀ {s:List SV}{v:List Value}{s':List SV}{v':List Value},SRs P B pl tb s v->SRs P B pl tb s' v'->SRs P B pl tb (s++s') (v++v')
 |[],v,s',v',h,h'=>by simp only[SRs] at h;subst h;exact h'
 |s::ss,v,s',v',h,h'=>by simp only[SRs,xB] at h |-;obtain⟨x,y,rfl,h2,h3⟩:=h;exact⟨x,y++v',rfl,h2,SRs.append h3 h'⟩
theorem SRs.take {B:Heap}{pl:Nat->Value}{tb:Nat->Option Bool}:∀ {s:List SV}{v:List Value},SRs P B pl tb s v->∀ n,SRs P B pl tb (s.take n) (v.take n)
 |[],v,h,n=>by simp only[SRs] at h;subst h;simp[SRs]
 |s::ss,v,h,0=>by simp[SRs]
 |s::ss,v,h,n+1=>by simp only[SRs] at h;obtain⟨x,y,rfl,h2,h3⟩:=h;simp only[wC,SRs];exact⟨x,_,rfl,h2,SRs.take h3 n⟩
theorem SRs.drop {B:Heap}{pl:Nat->Value}{tb:Nat->Option Bool}:∀ {s:List SV}{v:List Value},SRs P B pl tb s v->∀ n,SRs P B pl tb (s.drop n) (v.drop n)
 |[],v,h,n=>by simp only[SRs] at h;subst h;simp[SRs]
 |s::ss,v,h,0=>by simpa using h
 |s::ss,v,h,n+1=>by simp only[SRs] at h;obtain⟨x,y,rfl,h2,h3⟩:=h;simpa using SRs.drop h3 n
theorem SRs.map {B:Heap}{pl:Nat->Value}{tb:Nat->Option Bool}{α:Type}{f:α->SV}{g:α->Value}:∀ {l:List α},(∀ x∈l,SR P B pl tb (f x) (g x))->SRs P B pl tb (l.map f) (l.map g)
 |[],_=>by simp[SRs]
 |x::l,h=>by simp only[zJ,SRs];exact⟨_,_,rfl,h x (by simp),SRs.map λy hy=>h y (by simp[hy])⟩
def OB.live:OB->Bool
 |.dead=>false
 |.stk _ _=>false
 |.lpf _ _ s=>s.live
 |_=>true
def oid:Value->Option Nat
 |.slice (some a) _ _=>some a.block
 |.pointer (some a)=>some a.block
 |.map m=>m
 |_=>none
def Oid (p:Value) (i:Nat):Prop:=match p with
 |.tuple l=>∃ b,(Xy (.tuple l)).get i=some b
 |v=>oid v=some i
theorem PL {p:Value}{i:Nat}(h:oid p=some i):Oid p i:=by cases p<;>first|exact h|cases h
theorem Iy {p:Value}{n i:Nat}(hp:oid p=some n) (hi:Oid p i):i=n:=by cases p<;>first|exact osj (hi.symm.trans hp)|cases hp
def RowsH {α:Type}(R:α->List Value->List Nat->Prop) (sz:Nat) (h:Option Nat):Nat->List α->List Value->List Nat->Prop
 |_,[],cs,is=>cs=[]/\is=[]
 |j,x::xs,cs,is=>∃ c cs' i1 i2,cs=c++cs'/\is=i1++i2/\(if h=some j then c.length=sz/\i1=[] else R x c i1)/\RowsH R sz h (j+1) xs cs' i2
def DO (H:Heap) (ty:Nat) (q:Option Nat) (k:Kind) (xs:List k.T) (h:Option Nat) (v:Value) (is:List Nat):Prop :=
 (xs=[]/\v=.slice none 0 0/\is=[])\/∃ i cap c t js,v=.slice (some ⟨i,0,none⟩) xs.length cap/\is=i::js/\xs.length<=cap/\H.get i=some (.cells c ⟨k.size,ty⟩ true t)/\cap*k.size<=c.length /\
  RowsH (KO H q k) k.size h 0 xs (c.take (xs.length*k.size)) js
def DP (M:Heap) (p:Value) (ty:Nat) (q:Option Nat) (k:Kind) (xs:List k.T) (nl:Bool) (h:Option Nat):Prop :=
 ∃ is,(∀ i,Oid p i<->∃ b,(Xy p).get i=some b)/\is.Nodup/\DO (Xy p) ty q k xs h (phd p) is/\(∀ i,(∃ b,(Xy p).get i=some b)<->i∈is)/\(∀ i b,(Xy p).get i=some b->M.get i=some b)/\(nl=true<->phd p=.slice none 0 0)
theorem DP.mono {M M':Heap}{p:Value}{ty:Nat}{q:Option Nat}{k:Kind}{xs:List k.T}{nl:Bool}{h:Option Nat}(hd:DP M p ty q k xs nl h) (hg:∀ i,Oid p i->M'.get i=M.get i):DP M' p ty q k xs nl h:=by obtain⟨is,hO,h1,h2,h3,h4,h5⟩:=hd;exact⟨is,hO,h1,h2,h3,λi b hb=>by rw[hg i ((hO i).2 ⟨b,hb⟩)];exact h4 i b hb,h5⟩
def MR (B:Heap) (kk vk:Kind):List (kk.T×vk.T)->List JD->Prop
 |[],es=>es=[]
 |m::ms,es=>∃ e bZ,es=e::bZ/\KV B kk m.1 e.1/\KV B vk m.2 e.2.1/\MR B kk vk ms bZ
def SOk (es:List JD) (clock:Nat):Prop:=(es.map λe=>e.2.2).Nodup/\∀ e∈es,e.2.2<clock
def MC (B:Heap) (kk vk:Kind) (m:List (kk.T×vk.T)) (es:List JD) (clock:Nat):Prop:=MR B kk vk m es/\SOk es clock
def DN (es:List JD) (dn seen:List Nat):Prop:=seen.length=dn.length/\∀ (t r:Nat),dn[t]?=some r->∃ e,es[r]?=some e/\seen[t]?=some e.2.2
def OR (P:Program) (B:Heap) (pl:Nat->Value) (tb:Nat->Option Bool) (M:Heap) (p:Value):OB->Prop
 |.dead=>True
 |.lst ty k xs nl=>(nl=true/\xs=[]/\p=.slice none 0 0)\/(nl=false/\∃ i cap c t,p=.slice (some ⟨i,0,none⟩) xs.length cap/\xs.length<=cap/\M.get i=some (.cells c ⟨k.size,ty⟩ true t)/\cap*k.size<=c.length/\Rows (KC B k) xs (c.take (xs.length*k.size)))
 |.cells l u=>∃ i c e t,p=.pointer (some ⟨i,0,none⟩)/\M.get i=some (.cells c e true t)/\SRs P B pl tb l c/\(∀ y,u=some y->e.ty=y/\t=true)
 |.map kk vk m=>∃ i es clock,p=.map (some i)/\M.get i=some (.obj (.map es clock) true)/\MC B kk vk m es clock
 |.iter kk vk m dn=>∃ j i es clock wr seen,p=.pointer (some ⟨j,0,none⟩)/\M.get j=some (.obj (.iter i clock seen clock) true)/\B.get i=some (.obj (.map es clock) wr)/\MC B kk vk m es clock/\DN es dn seen
 |.mapE kk vk m key n=>∃ i es clock,∃ r:Nat,∃ e:JD,p=.map (some i)/\M.get i=some (.obj (.map es clock) true)/\MC B kk vk m es clock/\es[r]?=some e/\KV B kk key e.1/\Qj e.1 es=some e/\(e.2.2:Int)=n/\∃ mk,gq.mkOk mk kk=true
 |.stk l vals=>SRs P B pl tb l vals
 |.deep ty q k xs nl h=>DP M p ty q k xs nl h
 |.lpf l q s=>p=.pointer (some ⟨q.i,0,none⟩)/\SRs P B pl tb l q.vals/\(s.live=true->M.get q.i=some (.obj (.lp q.vals q.r s.st s.pend) true))
theorem MR.mono {B B':Heap}(hB:B.Le B') {kk vk:Kind}:∀ {m:List (kk.T×vk.T)}{es:List JD},MR B kk vk m es->MR B' kk vk m es
 |[],es,h=>h
 |m::ms,es,h=>by obtain⟨e,bZ,h1,h2,h3,h4⟩:=h;exact⟨e,bZ,h1,h2.mono hB,h3.mono hB,h4.mono hB⟩
theorem MC.mono {B B':Heap}(hB:B.Le B') {kk vk:Kind}{m:List (kk.T×vk.T)}{es:List JD}{clock:Nat}(h:MC B kk vk m es clock):MC B' kk vk m es clock:=⟨h.1.mono hB,h.2⟩
theorem OR.upd {B B':Heap}{pl pl':Nat->Value}{tb tb':Nat->Option Bool}{o:Nat}(hB:B.Le B') (ht:∀ n c,tb n=some c->tb' n=some c) (hp:∀ d,d≠o->pl' d=pl d) {M M':Heap}{p:Value}{b:OB}
  (h:OR P B pl tb M p b) (hg:b.live=true->∀ i,Oid p i->M'.get i=M.get i):OR P B' pl' tb' M' p (b.kill o):=by
 cases b with
 |dead=>trivial
 |lst ty k xs nl =>
  rcases h with h|⟨h0,i,cap,c,t,h1,h2,h3,h4,h5⟩
  .exact .inl h
  .exact .inr ⟨h0,i,cap,c,t,h1,h2,by rw[hg rfl i (by rw[h1];rfl)];exact h3,h4,h5.mono λ_ _=>KC.mono hB⟩
 |cells l u =>obtain⟨i,c,e,t,h1,h2,h3,h4⟩:=h;exact⟨i,c,e,t,h1,by rw[hg rfl i (by rw[h1];rfl)];exact h2,SRs.upd hB ht hp l c h3,h4⟩
 |map kk vk m =>obtain⟨i,es,clock,h1,h2,h3⟩:=h;exact⟨i,es,clock,h1,by rw[hg rfl i (by rw[h1];rfl)];exact h2,h3.mono hB⟩
 |mapE kk vk m key n =>obtain⟨i,es,clock,r,e,h1,h2,h3,h4,h5,h6⟩:=h;exact⟨i,es,clock,r,e,h1,by rw[hg rfl i (by rw[h1];rfl)];exact h2,h3.mono hB,h4,h5.mono hB,h6⟩
 |stk l vals=>exact SRs.upd hB ht hp l vals h
 |deep ty q k xs nl hh=>exact DP.mono h (hg rfl)
 |iter kk vk m dn =>obtain⟨j,i,es,clock,wr,seen,h1,h2,h3,h4,h5⟩:=h;exact⟨j,i,es,clock,wr,seen,h1,by rw[hg rfl j (by rw[h1];rfl)];exact h2,hB.2 _ _ h3,h4.mono hB,h5⟩
 |lpf l q s=>exact⟨h.1,SRs.upd hB ht hp l q.vals h.2.1,λhl=>by rw[hg hl q.i (by rw[h.1];rfl)];exact h.2.2 hl⟩
theorem OR.mono {B B':Heap}{pl:Nat->Value}{tb tb':Nat->Option Bool}(hB:B.Le B') (ht:∀ n c,tb n=some c->tb' n=some c) {M M':Heap}{p:Value}{b:OB}
  (h:OR P B pl tb M p b) (hg:b.live=true->∀ i,Oid p i->M'.get i=M.get i):OR P B' pl tb' M' p b:=by
 cases b with
 |dead=>trivial
 |lst ty k xs nl =>
  rcases h with h|⟨h0,i,cap,c,t,h1,h2,h3,h4,h5⟩
  .exact .inl h
  .exact .inr ⟨h0,i,cap,c,t,h1,h2,by rw[hg rfl i (by rw[h1];rfl)];exact h3,h4,h5.mono λ_ _=>KC.mono hB⟩
 |cells l u =>obtain⟨i,c,e,t,h1,h2,h3,h4⟩:=h;exact⟨i,c,e,t,h1,by rw[hg rfl i (by rw[h1];rfl)];exact h2,SRs.mono hB ht l c h3,h4⟩
 |map kk vk m =>obtain⟨i,es,clock,h1,h2,h3⟩:=h;exact⟨i,es,clock,h1,by rw[hg rfl i (by rw[h1];rfl)];exact h2,h3.mono hB⟩
 |mapE kk vk m key n =>obtain⟨i,es,clock,r,e,h1,h2,h3,h4,h5,h6⟩:=h;exact⟨i,es,clock,r,e,h1,by rw[hg rfl i (by rw[h1];rfl)];exact h2,h3.mono hB,h4,h5.mono hB,h6⟩
 |stk l vals=>exact SRs.mono hB ht l vals h
 |deep ty q k xs nl hh=>exact DP.mono h (hg rfl)
 |iter kk vk m dn =>obtain⟨j,i,es,clock,wr,seen,h1,h2,h3,h4,h5⟩:=h;exact⟨j,i,es,clock,wr,seen,h1,by rw[hg rfl j (by rw[h1];rfl)];exact h2,hB.2 _ _ h3,h4.mono hB,h5⟩
 |lpf l q s=>exact⟨h.1,SRs.mono hB ht l q.vals h.2.1,λhl=>by rw[hg hl q.i (by rw[h.1];rfl)];exact h.2.2 hl⟩
theorem Qk (own:Own) (d:Nat) (b:OB) (d':Nat):Q9 (oset own d b) d'=if d'=d then b else Q9 own d':=by
 induction own with
 |nil =>
  simp only[oset,Q9];by_cases h:d'=d
  .subst h;simp
  .rw[z8 h,Zo λe=>h e.symm];rfl
 |cons p r ih =>
  obtain⟨k,c⟩:=p;simp only[oset];by_cases h1:k=d
  .subst h1;simp only[Nat.beq_refl,zj,Q9];by_cases h:d'=k
   .subst h;simp
   .rw[z8 h,Zo λe=>h e.symm];rfl
  .rw[Zo h1,cond_false];cases Nat.blt d k with
   |true =>
    simp only[zj,Q9];by_cases h:d'=d
    .subst h;simp
    .rw[z8 h,Zo λe=>h e.symm];rfl
   |false =>
    simp only[cond_false,Q9,ih];by_cases h:k=d'
    .subst h;simp[h1]
    .rw[Zo h];rfl
theorem Kb (own:Own) (o d:Nat):Q9 (EG o own) d=if d=o then .dead else (Q9 own d).kill o:=by
 induction own with
 |nil=>simp[EG,Q9,OB.kill]
 |cons p r ih =>
  obtain⟨k,c⟩:=p;simp only[EG];by_cases h1:k=o
  .subst h1;simp only[Nat.beq_refl,zj,ih,Q9];by_cases h:d=k
   .simp[h]
   .rw[z8 h,z8 h,Zo λe=>h e.symm];rfl
  .rw[Zo h1,cond_false];simp only[Q9,ih];by_cases h:k=d
   .subst h;simp[h1]
   .rw[Zo h];simp
theorem OR.frz {B:Heap}{pl:Nat->Value}{tb:Nat->Option Bool}{o:Nat}{k:Kind}{xs:List k.T}(hk:KC B (.list k) xs [pl o]) {M:Heap}{p:Value}{b:OB}
  (h:OR P B pl tb M p b):OR P B pl tb M p (b.frz o k xs):=by
 cases b with
 |cells l u =>obtain⟨i,c,e,t,h1,h2,h3,h4⟩:=h;exact⟨i,c,e,t,h1,h2,SRs.frz hk l c h3,h4⟩
 |stk l vals=>exact SRs.frz hk l vals h
 |lpf l q s=>exact⟨h.1,SRs.frz hk l q.vals h.2.1,h.2.2⟩
 |_=>exact h
theorem O7 (own:Own) (o:Nat) (k:Kind) (xs:List k.T) (d:Nat):Q9 (OX o k xs own) d=if d=o then .dead else (Q9 own d).frz o k xs:=by
 induction own with
 |nil=>simp[OX,Q9,OB.frz]
 |cons p r ih =>
  obtain⟨j,c⟩:=p;simp only[OX];by_cases h1:j=o
  .subst h1;simp only[Nat.beq_refl,zj,ih,Q9];by_cases h:d=j
   .simp[h]
   .rw[z8 h,z8 h,Zo λe=>h e.symm];rfl
  .rw[Zo h1,cond_false];simp only[Q9,ih];by_cases h:j=d
   .subst h;simp[h1]
   .rw[Zo h];simp
theorem OB.q2i (b:OB) (o:Nat) (k:Kind) (xs:List k.T):(b.frz o k xs).live=b.live:=by cases b<;>rfl
structure Gam (P:Program) (B F:Heap) (pl:Nat->Value) (tb:Nat->Option Bool) (s:St) (env:Env) (M:Heap):Prop where
 bf:B.Le F
 le:F.Le M
 env:SRs P B pl tb s.env env
 obj:∀ d,OR P B pl tb M (pl d) (Q9 s.own d)
 fresh:∀ d i,(Q9 s.own d).live=true->Oid (pl d) i->F.get i=none
 sep:∀ d d' i,d≠d'->(Q9 s.own d).live=true->(Q9 s.own d').live=true->Oid (pl d) i->Oid (pl d') i->False
 free:∀ n,s.nx<=n->tb n=none
theorem Gam.leB {B F:Heap}{pl:Nat->Value}{tb:Nat->Option Bool}{s:St}{env:Env}{M:Heap}(h:Gam P B F pl tb s env M):B.Le M:=h.bf.trans h.le
def Jm (pl:Nat->Value) (d:Nat) (p:Value):Nat->Value:=λj=>if j=d then p else pl j
theorem OB.q0q (b:OB) (o:Nat):(b.kill o).live=b.live:=by cases b<;>rfl
theorem Gam.make {B F:Heap}{pl:Nat->Value}{tb:Nat->Option Bool}{s:St}{env:Env}{M M':Heap}(h:Gam P B F pl tb s env M) (d:Nat) (b:OB) (p:Value) (hle:F.Le M')
  (cU:∀ j i,j≠d->(Q9 s.own j).live=true->Oid (pl j) i->M'.get i=M.get i) (hb:OR P B (Jm pl d p) tb M' p b)
  (bc:∀ i,b.live=true->Oid p i->F.get i=none/\∀ j,j≠d->(Q9 s.own j).live=true->¬ Oid (pl j) i):Gam P B F (Jm pl d p) tb (s.make d b) env M':=by
 have hp:∀ j,j≠d->Jm pl d p j=pl j:=λj hj=>by simp[Jm,hj]
 have hg:∀ j,Q9 (s.make d b).own j=if j=d then b else (Q9 s.own j).kill d:=λj=>by simp only[St.make,St.kill,Qk,Kb];split<;>rfl
 refine⟨h.bf,hle,SRs.upd (Heap.Le.refl B) (λ_ _ h=>h) hp _ _ h.env,λj=>?_,λj i hl hi=>?_,λj j' i az hl cm hi cB=>?_,h.free⟩
 .rw[hg];by_cases hj:j=d
  .subst hj;rw[z7 rfl];simpa [Jm] using hb
  .rw[z8 hj,hp j hj];exact(h.obj j).upd (Heap.Le.refl B) (λ_ _ h=>h) hp λhl i hi=>cU j i hj hl hi
 .rw[hg] at hl;by_cases hj:j=d
  .subst hj;rw[z7 rfl] at hl;simp only[Jm,zB] at hi;exact(bc i hl hi).1
  .rw[z8 hj,OB.q0q] at hl;rw[hp j hj] at hi;exact h.fresh j i hl hi
 .rw[hg] at hl cm;by_cases hj:j=d
  .subst hj;rw[z7 rfl] at hl;have cA:j'≠j:=λe=>az e.symm;rw[z8 cA,OB.q0q] at cm;rw[hp j' cA] at cB;simp only[Jm,zB] at hi;exact(bc i hl hi).2 j' cA cm cB
  .rw[z8 hj,OB.q0q] at hl;rw[hp j hj] at hi;by_cases cA:j'=d
   .subst cA;rw[z7 rfl] at cm;simp only[Jm,zB] at cB;exact(bc i cm cB).2 j hj hl hi
   .rw[z8 cA,OB.q0q] at cm;rw[hp j' cA] at cB;exact h.sep j j' i az hl cm hi cB
theorem Gam.write {B F:Heap}{pl:Nat->Value}{tb:Nat->Option Bool}{s:St}{env:Env}{M M':Heap}(h:Gam P B F pl tb s env M) (d:Nat) (b:OB) (hle:F.Le M') (aq:(Q9 s.own d).live=true)
  (cU:∀ j i,j≠d->(Q9 s.own j).live=true->Oid (pl j) i->M'.get i=M.get i) (hb:OR P B pl tb M' (pl d) b):Gam P B F pl tb ⟨s.env,oset s.own d b,s.nx⟩ env M':=by
 refine⟨h.bf,hle,h.env,λj=>?_,λj i hl hi=>?_,λj j' i az hl cm hi cB=>?_,h.free⟩
 .simp only[Qk];by_cases hj:j=d
  .subst hj;rw[z7 rfl];exact hb
  .rw[z8 hj];exact(h.obj j).mono (Heap.Le.refl B) (λ_ _ h=>h) λhl i hi=>cU j i hj hl hi
 .simp only[Qk] at hl;by_cases hj:j=d
  .subst hj;exact h.fresh j i aq hi
  .rw[z8 hj] at hl;exact h.fresh j i hl hi
 .simp only[Qk] at hl cm;have k1:(Q9 s.own j).live=true:=by
   by_cases hj:j=d
   .subst hj;exact aq
   .rwa [z8 hj] at hl
  have k2:(Q9 s.own j').live=true:=by
   by_cases hj:j'=d
   .subst hj;exact aq
   .rwa [z8 hj] at cm
  exact h.sep j j' i az k1 k2 hi cB
theorem Gam.put {B F:Heap}{pl:Nat->Value}{tb:Nat->Option Bool}{s:St}{env:Env}{M:Heap}(h:Gam P B F pl tb s env M) (d:Option Nat) {v:SV}{u:Value}(hv:SR P B pl tb v u):Gam P B F pl tb (s.put d v) (Xe env d u) M:=by
 cases d with
 |none=>exact h
 |some d=>exact⟨h.bf,h.le,h.env.set d hv,h.obj,h.fresh,h.sep,h.free⟩
end
end Go.V
namespace Go.V
open Go
section
variable {P:Program}{B:Heap}{pl:Nat->Value}{tb:Nat->Option Bool}{own:Own}{M:Heap}
theorem Jg {s:SV}{v:Value}{k:IntKind}{x:Int}(h:asI s=some (k,x)) (hs:SR P B pl tb s v):v=.int k x:=by
 unfold asI at h;split at h
 .obtain⟨rfl,rfl⟩:=(by simpa using h:_=k/\_=x);simp only[SR,KC] at hs;simpa using hs
 .cases h
theorem XH {s:SV}{v:Value}{x:Bool}(h:asB s=some x) (hs:SR P B pl tb s v):v=.bool x:=by
 unfold asB at h;split at h
 .obtain rfl:=osj h;simp only[SR,KC] at hs;simpa using hs
 .obtain rfl:=osj h;simp only[SR] at hs;exact hs.1
 .cases h
theorem US {s:SV}{v:Value}{x:List UInt8}(h:asS s=some x) (hs:SR P B pl tb s v):v=.string ⟨x.toArray⟩:=by
 unfold asS at h;split at h
 .obtain rfl:=osj h;simp only[SR,KC] at hs;simpa using hs
 .cases h
theorem XS {k k':Kind}{l:List k.T}{l':List k'.T}(h:Ue l k'=some l'):k=k':=by
 unfold Ue at h;split at h
 .assumption
 .cases h
theorem W2 {k:Kind}{l l':List k.T}(h:Ue l k=some l'):l'=l:=by unfold Ue at h;rw[dif_pos rfl] at h;exact(osj h).symm
theorem TX {k k':Kind}{x:k.T}{x':k'.T}(h:Iw x k'=some x'):k=k':=by
 unfold Iw at h;split at h
 .assumption
 .cases h
theorem TP {k:Kind}{x x':k.T}(h:Iw x k=some x'):x'=x:=by unfold Iw at h;rw[dif_pos rfl] at h;exact(osj h).symm
theorem DM (v:Value):SR P B pl tb (cvp v) v:=by unfold cvp;split<;>simp[SR,KC]
theorem OQ (v:Value):SR P B pl tb (cv v) v:=by
 unfold cv;split
 .rename_i cs;simp only[SR];refine⟨cs.toList,by simp,?_⟩;have:SRs P B pl tb (cs.toList.map cvp) (cs.toList.map id):=SRs.map λx _=>DM x;simpa using this
 .exact DM v
def Gds (tb:Nat->Option Bool) (gs:List Gd):Prop:=∀ g∈gs,g.c=g.want/\tb g.id=some g.c
theorem EO {a b:List Gd}(h:Q60 a b=true) (hb:Gds tb b) (ha:∀ g∈a,tb g.id=some g.c):∀ g∈a,g.c=g.want:=by
 induction b generalizing a with
 |nil=>cases a with
  |nil=>intro g hg;cases hg
  |cons x a=>simp[Q60] at h
 |cons y b ih =>
  cases a with
  |nil=>intro g hg;cases hg
  |cons x a =>
   have bM:Gds tb b:=λg hg=>hb g (zi _ hg);simp only[Q60] at h;cases hc:(Nat.beq x.id y.id&&(x.want==y.want)) with
   |true =>
    rw[hc] at h;simp only[zj] at h;simp only[z6,zT] at hc;have e1:=zM hc.1;intro g hg;rcases zn.1 hg with rfl|hg
    .have h1:=ha g (by simp);have h2:=hb y (by simp);rw[e1] at h1;rw[h2.2] at h1;obtain e:=osj h1;rw[<-e,h2.1,hc.2]
    .exact ih h bM (λg hg=>ha g (zi _ hg)) g hg
   |false =>rw[hc] at h;exact ih h bM ha
theorem Lv {gs:List Gd}(hg:Gds tb gs) {s:SV}{v:Value}(h:SR P B pl tb s v):SR P B pl tb (Fq gs s) v:=by
 unfold Fq;split
 .rename_i g s;simp only[SR] at h;cases hs:Q60 g gs with
  |true=>exact h.2.1 (EO hs hg h.1.1)
  |false=>trivial
 .exact h
theorem Ic {gs:List Gd}(hg:Gds tb gs) {env:List SV}{ou:Env}(h:SRs P B pl tb env ou) (x:Operand):SR P B pl tb (gev gs env x) (Q3 ou x):=by
 cases x with
 |tmp t=>exact Lv hg (h.getD t undef)
 |const v=>exact OQ v
 |global g=>trivial
 |func f=>simp only[gev,Q3,SR,SRs];exact⟨[],[],rfl,rfl,rfl⟩
theorem Yu {h:Heap}:∀ {k:Kind}{x:k.T}{cs:List Value},KC h k x cs->SRs P h pl tb (N0 k x) cs
 |.i ik,x,cs,e=>by simp only[KC] at e;subst e;simp[N0,SRs,SR,KC]
 |.bo,x,cs,e=>by simp only[KC] at e;subst e;simp[N0,SRs,SR,KC]
 |.st,x,cs,e=>by simp only[KC] at e;subst e;simp[N0,SRs,SR,KC]
 |.list k,l,cs,e=>by obtain⟨v,rfl,hs⟩:=e;simp only[N0,SRs,SR];exact⟨v,[],rfl,⟨v,rfl,hs⟩,rfl⟩
 |.pair a b,x,cs,e=>by obtain⟨c1,c2,rfl,h1,h2⟩:=e;exact(Yu h1).append (Yu h2)
theorem JE {h:Heap}{k:Kind}{x:k.T}{v:Value}(e:KV h k x v):SR P h pl tb (C6 k x) v:=by
 cases k with
 |pair a b =>
  rcases e with⟨h1,_⟩|⟨_,cs,rfl,e⟩
  .cases h1
  .simp only[C6,SR];exact⟨cs,rfl,Yu e⟩
 |i k|bo|st|list k =>
  rcases e with⟨_,e⟩|⟨h1,_⟩
  .simpa only [C6,SR] using e
  .cases h1
theorem Js {l:List SV}{c:List Value}(h:SRs P B pl tb l c) {agg:Bool}{size off:Nat}{v:SV}(hv:Hh agg size l off=some v):∃ u,Xl agg size c off=some u/\SR P B pl tb v u:=by
 cases agg with
 |true =>
  simp only[Hh,zj] at hv;split at hv
  .rename_i hle;obtain rfl:=osj hv;rw[h.length] at hle;refine⟨.agg ((c.drop off).take size).toArray,by simp only[Xl,zB,hle],?_⟩;simp only[SR];exact⟨_,rfl,(h.drop off).take size⟩
  .cases hv
 |false =>simp only[Hh,zS] at hv;obtain⟨u,h1,h2⟩:=h.get hv;exact⟨u,by simpa [Xl] using h1,h2⟩
theorem M7 {agg:Bool}{size off n m i:Nat}{c:List Value}{u:Value}(bC:off+size<=n) (hs:0<size) (h:Xl agg size (((c.take m).drop (i*n)).take n) off=some u) (hl:i*n+n<=m):Xl agg size c (i*n+off)=some u:=by
 cases agg with
 |true =>
  simp only[Xl,zB] at h |-;split at h
  .rename_i hle;simp only[xE,xZ] at hle;rw[z7 (by omega)];obtain rfl:=osj h;congr 3;apply zV;intro j;simp only[zO,zz];split
   .rw[z7 (by omega),z7 (by omega),zt]
   .rfl
  .cases h
 |false =>simp only[Xl,zC,if_false] at h |-;simp only[zO,zz] at h;rw[z7 (by omega),z7 (by omega)] at h;exact h
theorem KC.q0f {h:Heap}{k:Kind}:∀ (x:k.T) (c:List Value),KC h k x c->c.length=k.size:=λ_ _ e=>KC.length e
theorem KC.flat {h h':Heap}:∀ {k:Kind}{x:k.T}{cs:List Value},k.flat=true->KC h k x cs->KC h' k x cs
 |.i _,_,_,_,e|.bo,_,_,_,e|.st,_,_,_,e=>e
 |.list _,_,_,f,_=>by cases f
 |.pair a b,x,cs,f,e=>by simp only[Kind.flat,z6] at f;obtain⟨c1,c2,hc,h1,h2⟩:=e;exact⟨c1,c2,hc,KC.flat f.1 h1,KC.flat f.2 h2⟩
theorem KV.flat {h h':Heap}{k:Kind}{x:k.T}{v:Value}(e:KV h k x v) (f:k.flat=true):KV h' k x v:=by
 rcases e with⟨ho,e⟩|⟨ho,cs,hv,e⟩
 .exact .inl ⟨ho,KC.flat f e⟩
 .exact .inr ⟨ho,cs,hv,KC.flat f e⟩
theorem KO.kc {H:Heap}:∀ {k:Kind}{q:Option Nat}{x:k.T}{cs:List Value}{is:List Nat},KO H q k x cs is->KC H k x cs
 |.i _,_,_,_,_,h=>by simp only[KO] at h;exact h.1
 |.bo,_,_,_,_,h=>by simp only[KO] at h;exact h.1
 |.st,_,_,_,_,h=>by simp only[KO] at h;exact h.1
 |.list k,q,l,cs,is,h=>by
  simp only[KO] at h;rcases h with⟨rfl,rfl,_⟩|⟨i,cap,c,e,t,js,rfl,rfl,h1,h2,h3,_,h4,h5⟩
  .exact⟨_,rfl,.inl ⟨rfl,rfl⟩⟩
  .refine⟨_,rfl,.inr ⟨i,0,cap,c,e,true,t,rfl,h1,h2,h3,by have:=zr k.size h1;omega,?_⟩⟩;rw[x5];have key:∀ {xs:List k.T}{cs:List Value}{js:List Nat},RowsO (λx c is=>KO H none k x c is) xs cs js->Rows (λx c=>KC H k x c) xs cs:=λh=>by
    induction h with
    |nil=>exact .nil
    |cons h _ ih=>exact .cons (KO.kc (k:=k) h) ih
   exact key h5
 |.pair a b,_,x,cs,is,h=>by simp only[KO] at h;obtain⟨c1,c2,i1,i2,rfl,rfl,h1,h2⟩:=h;exact⟨c1,c2,rfl,h1.kc,h2.kc⟩
def Z3n:Kind->List Value->Prop
 |.list _,cs=>∀ v,cs=[v]->∀ a n c,v=.slice (some a) n c->a.off=0
 |_,_=>True
theorem KO.koff {H:Heap}:∀ {k:Kind}{q:Option Nat}{x:k.T}{cs:List Value}{is:List Nat},KO H q k x cs is->Z3n k cs
 |.i _,_,_,_,_,_|.bo,_,_,_,_,_|.st,_,_,_,_,_|.pair _ _,_,_,_,_,_=>trivial
 |.list k,q,l,cs,is,h=>by
  simp only[KO] at h;intro v hv a n c' hs;rcases h with⟨_,rfl,_⟩|⟨i,cap,c,e,t,js,rfl,_⟩
  .obtain rfl:=(zR hv).1;cases hs
  .obtain rfl:=(zR hv).1;cases hs;rfl
theorem RowsH.rows {α:Type}{R:α->List Value->List Nat->Prop}{R':α->List Value->Prop}(hR:∀ x c is,R x c is->R' x c) {sz:Nat}:∀ {xs:List α}{j:Nat}{cs:List Value}{is:List Nat},RowsH R sz none j xs cs is->Rows R' xs cs
 |[],j,cs,is,h=>by obtain⟨rfl,_⟩:=h;exact .nil
 |x::xs,j,cs,is,h=>by obtain⟨c,cs',i1,i2,rfl,rfl,h1,h2⟩:=h;rw[z8 (by simp)] at h1;exact .cons (hR _ _ _ h1) (RowsH.rows hR h2)
theorem Ra:∀ {l:List (Nat×Blk)}{p:Nat×Blk},p∈l->∃ b,Sw l p.1=some b
 |(j,b)::r,p,h=>by
  by_cases e:p.1=j
  .exact⟨b,by simp only[Sw,z7 e]⟩
  .rcases zn.1 h with rfl|h
   .exact absurd rfl e
   .obtain⟨b',h'⟩:=Ra h;exact⟨b',by simp only[Sw,z8 e];exact h'⟩
theorem IV:∀ {l:List (Nat×Blk)}{n:Nat},(∀ p∈l,p.1<n)->Q7q l<=n
 |[],n,_=>Nat.zero_le _
 |(j,b)::r,n,h=>by have h1:=h (j,b) zu;have h2:=IV (l:=r) (n:=n) λp hp=>h p (zi _ hp);simp only[Q7q];simp only at h1;omega
theorem F5 (p:Value):∃ l,Xy p=listH l:=by
 unfold Xy;split
 .exact⟨_,rfl⟩
 .exact⟨_,rfl⟩
theorem Q1d {p:Value}{M:Heap}(h:∀ i b,(Xy p).get i=some b->M.get i=some b):(Xy p).Le M:=by obtain⟨l,e⟩:=F5 p;rw[e] at h |-;refine⟨IV λx hx=>?_,h⟩;obtain⟨b,hb⟩:=Ra hx;exact M.lt (h x.1 b hb)
theorem Cz:∀ (l:List Value) {i:Nat}{c:List Value}{e:El}{wr t:Bool},Sw (Q9a l) i=some (.cells c e wr t)->wr=true
 |[],i,c,e,wr,t,h=>by cases h
 |v::vs,i,c,e,wr,t,h=>by
  unfold Q9a at h;split at h
  .rename_i q hq;obtain⟨j,b⟩:=q;simp only[Sw] at h;split at h
   .obtain rfl:=osj h;unfold Z5d at hq;split at hq
    .cases hq;rfl
    .cases hq
   .exact Cz vs h
  .exact Cz vs h
theorem Q11 {p:Value}{i:Nat}{c:List Value}{e:El}{wr t:Bool}(h:(Xy p).get i=some (.cells c e wr t)):wr=true:=by
 unfold Xy at h;split at h
 .exact Cz _ h
 .cases h
theorem DP.le {M:Heap}{p:Value}{ty:Nat}{q:Option Nat}{k:Kind}{xs:List k.T}{nl:Bool}{h:Option Nat}(hd:DP M p ty q k xs nl h):(Xy p).Le M:=by obtain⟨is,_,_,_,_,h4,_⟩:=hd;exact Q1d h4
theorem DP.sl {M:Heap}{p:Value}{ty:Nat}{q:Option Nat}{k:Kind}{xs:List k.T}{nl:Bool}(hd:DP M p ty q k xs nl none):SlRel (Xy p) k.size (KC (Xy p) k) xs (phd p):=by
 obtain⟨is,_,_,h2,_,_,_⟩:=hd;rcases h2 with⟨rfl,h,_⟩|⟨i,cap,c,t,js,h,_,h1,h3,h4,h5⟩
 .exact .inl ⟨rfl,h⟩
 .refine .inr ⟨i,0,cap,c,_,true,t,h,h1,h3,rfl,by have:=zr k.size h1;omega,?_⟩;rw[x5];exact h5.rows λ_ _ _ h=>h.kc
theorem DP.hd {M:Heap}{p:Value}{ty:Nat}{q:Option Nat}{k:Kind}{xs:List k.T}{nl:Bool}{h:Option Nat}(hd:DP M p ty q k xs nl h):∃ a cap,phd p=.slice a xs.length cap:=by
 obtain⟨is,_,_,h2,_,_,_⟩:=hd;rcases h2 with⟨rfl,h,_⟩|⟨i,cap,c,t,js,h,_⟩
 .exact⟨_,_,h⟩
 .exact⟨_,_,h⟩
theorem A6 {H:Heap}{k:Kind}{l:List k.T}{v:Value}(h:KC H (.list k) l [v]) {j:Nat}(hj:j<l.length):∃ b o cap c e wr t,v=.slice (some ⟨b,o,none⟩) l.length cap/\H.get b=some (.cells c e wr t)/\o+l.length*k.size<=c.length/\Rows (KC H k) l ((c.drop o).take (l.length*k.size)):=by
 obtain⟨v',e,hs⟩:=h;obtain rfl:=(zR e).1;rcases hs with⟨rfl,_⟩|⟨b,o,cap,c,e',wr,t,h2,h3,h4,h5,h6,h7⟩
 .simp at hj
 .exact⟨b,o,cap,c,e',wr,t,h2,h4,h6,h7⟩
theorem Pz {p:Value}{k:Kind}{l:List k.T}{v:Value}(h:KC (Xy p) (.list k) l [v]):SlRel (Xy p) k.size (λx c=>KC (Xy p) k x c) l v:=by obtain⟨v',e,hs⟩:=h;obtain rfl:=(zR e).1;exact hs
theorem Y1 (hle:B.Le M) (aA:∀ d,OR P B pl tb M (pl d) (Q9 own d)) {k:Kind}{s:SV}{l:List k.T}{v:Value}(h:view own k s=some l) (hs:SR P B pl tb s v):SlRel M k.size (KC B k) l v:=by
 unfold view at h;split at h
 .obtain rfl:=osj h;simp only[SR] at hs;exact .inl ⟨rfl,hs⟩
 .rename_i k' l0;obtain rfl:=XS h;obtain rfl:=W2 h;simp only[SR,KC] at hs;obtain⟨v',e,hs⟩:=hs;obtain rfl:=(zR e).1;exact hs.mono hle λ_ _ h=>h
 .rename_i o;have ho:=aA o;simp only[SR] at hs
  replace hs:=hs.1
  split at h
  .rename_i ty k' xs nl heq;obtain rfl:=XS h;obtain rfl:=W2 h;rw[heq] at ho;rcases ho with⟨_,rfl,h2⟩|⟨_,i,cap,c,t,h1,h2,h3,h4,h5⟩
   .exact .inl ⟨rfl,by rw[hs,h2]⟩
   .refine .inr ⟨i,0,cap,c,_,true,t,by rw[hs,h1],h2,h3,rfl,?_,by simpa using h5⟩;have:=zr k'.size h2;omega
  .cases h
 .rename_i o lo n sz;have ho:=aA o;split at h
  .rename_i ty k' xs nl heq;split at h
   .rename_i aF;subst aF;cases hc:Ue xs k with
    |none=>rw[hc] at h;cases h
    |some cF =>
     obtain rfl:=XS hc;obtain rfl:=W2 hc;rw[hc] at h;obtain rfl:=osj h;simp only[SR] at hs;rw[heq] at ho;rcases hs with⟨rfl,rfl,rfl,_⟩|⟨i,len,cap,au,h1,h2,h3,rfl⟩
     .exact .inl ⟨by simp,rfl⟩
     .rcases ho with⟨_,_,h4⟩|⟨_,i',fl,c,t,h4,h5,h6,h7,h8⟩
      .rw[h1] at h4;cases h4
      .rw[h1] at h4;obtain⟨rfl,rfl,rfl⟩:=(by simpa using h4:i=i'/\len=cF.length/\cap=fl);have hlen:((cF.drop lo).take n).length=n:=by simp;omega
       have k1:lo*k'.size+n*k'.size<=cF.length*k'.size:=by rw[<-zH];exact zr _ h2
       have k2:=zr k'.size h5;refine .inr ⟨i,lo*k'.size,au,c,_,true,t,by rw[hlen],by rw[hlen];exact h3,h6,rfl,by rw[hlen];omega,?_⟩;rw[hlen];have:=(h8.drop KC.q0f lo).take KC.q0f n;have e:((c.take (cF.length*k'.size)).drop (lo*k'.size)).take (n*k'.size)=(c.drop (lo*k'.size)).take (n*k'.size):=by
        apply zV;intro j;simp only[zO,zz];split
        .rw[z7 (by omega)]
        .rfl
       rw[e] at this;exact this
   .cases h
  .cases h
 .rename_i o w;have ho:=aA o;simp only[SR] at hs;cases hf:k.flat with
  |false=>rw[hf] at h;cases h
  |true =>
   rw[hf] at h;simp only[zj] at h;split at h
   .rename_i ty q k' xs nl hole heq;rw[heq] at ho;have dx:=DP.le ho;split at h
    .split at h
     .obtain rfl:=XS h;obtain rfl:=W2 h;obtain⟨hs,_⟩:=hs;rw[hs];exact(DP.sl ho).mono dx λ_ _ e=>KC.flat hf e
     .cases h
    .rename_i k' l';obtain rfl:=XS h;obtain rfl:=W2 h;exact(Pz hs).mono dx λ_ _ e=>KC.flat hf e
    .rename_i k' l' i;obtain rfl:=XS h;obtain rfl:=W2 h;exact(Pz hs.1).mono dx λ_ _ e=>KC.flat hf e
    .cases h
   .cases h
 .cases h
theorem SlRel.len {h:Heap}{sz:Nat}{α:Type}{R:α->List Value->Prop}{l:List α}{v:Value}(hs:SlRel h sz R l v):∃ a cap,v=.slice a l.length cap:=by
 rcases hs with⟨rfl,rfl⟩|⟨i,o,cap,c,e,wr,t,rfl,_⟩
 .exact⟨_,_,rfl⟩
 .exact⟨_,_,rfl⟩
theorem Ff (aA:∀ d,OR P B pl tb M (pl d) (Q9 own d)) {s:SV}{n:Nat}{v:Value}(h:Z36 own s=some n) (hs:SR P B pl tb s v):∃ a cap,v=.slice a n cap:=by
 unfold Z36 at h;split at h
 .obtain rfl:=osj h;simp only[SR] at hs;exact⟨_,_,hs⟩
 .obtain rfl:=osj h;simp only[SR,KC] at hs;obtain⟨v',e,hs⟩:=hs;obtain rfl:=(zR e).1;exact hs.len
 .rename_i o;have ho:=aA o;simp only[SR] at hs
  replace hs:=hs.1
  split at h
  .rename_i ty k' xs nl heq;obtain rfl:=osj h;rw[heq] at ho;rcases ho with⟨_,rfl,h2⟩|⟨_,i,cap,c,t,h1,h2,h3,h4,h5⟩
   .exact⟨_,_,by rw[hs,h2];rfl⟩
   .exact⟨_,_,by rw[hs,h1]⟩
  .cases h
 .obtain rfl:=osj h;simp only[SR] at hs;rcases hs with⟨rfl,rfl,rfl,_⟩|⟨i,len,cap,au,h1,h2,h3,rfl⟩
  .exact⟨_,_,rfl⟩
  .exact⟨_,_,rfl⟩
 .rename_i o w;have ho:=aA o;simp only[SR] at hs;split at h
  .rename_i ty q k' xs nl hole heq;rw[heq] at ho;split at h
   .split at h
    .obtain rfl:=osj h;obtain⟨hs,_⟩:=hs;rw[hs];exact DP.hd ho
    .cases h
   .obtain rfl:=osj h;exact(Pz hs).len
   .obtain rfl:=osj h;exact(Pz hs.1).len
   .cases h
  .cases h
 .cases h
theorem Jn {o:Nat}:∀ {k:Kind}{x:k.T}{cs:List Value},KC (Xy (pl o)) k x cs->SRs P B pl tb (G9 o k x) cs
 |.i ik,x,cs,h=>by simp only[KC] at h;subst h;simp[G9,SRs,SR,KC]
 |.bo,x,cs,h=>by simp only[KC] at h;subst h;simp[G9,SRs,SR,KC]
 |.st,x,cs,h=>by simp only[KC] at h;subst h;simp[G9,SRs,SR,KC]
 |.list k,x,cs,h=>by have hl:=KC.length h;obtain⟨v,rfl⟩:=x8.1 (show cs.length=1 from hl);simp only[G9,SRs,SR,DR];exact⟨v,[],rfl,h,rfl⟩
 |.pair a b,x,cs,h=>by obtain⟨c1,c2,rfl,h1,h2⟩:=h;exact SRs.append (Jn h1) (Jn h2)
theorem EZ {o:Nat}{i:Int}:∀ {k:Kind}{x:k.T}{cs:List Value},KC (Xy (pl o)) k x cs->Z3n k cs->(k.one=true->∀ v,cs=[v]->∃ b len cap c e t,phd (pl o)=.slice (some ⟨b,0,none⟩) len cap/\0<=i/\i<len/\(Xy (pl o)).get b=some (.cells c e true t)/\c[i.toNat]?=some v)->SRs P B pl tb (Z37 o i k x) cs
 |.i ik,x,cs,h,_,_=>Jn (o:=o) h
 |.bo,x,cs,h,_,_=>Jn (o:=o) h
 |.st,x,cs,h,_,_=>Jn (o:=o) h
 |.list k,x,cs,h,ho,hr=>by have hl:=KC.length h;obtain⟨v,rfl⟩:=x8.1 (show cs.length=1 from hl);simp only[Z37,SRs,SR,DR];exact⟨v,[],rfl,⟨h,ho v rfl,hr rfl v rfl⟩,rfl⟩
 |.pair a b,x,cs,h,_,_=>Jn (o:=o) h
theorem DP.elem {M:Heap}{p:Value}{ty:Nat}{q:Option Nat}{k:Kind}{xs:List k.T}{nl:Bool}(hd:DP M p ty q k xs nl none) {b len cap:Nat}(hp:phd p=.slice (some ⟨b,0,none⟩) len cap) :
  ∃ c t,(Xy p).get b=some (.cells c ⟨k.size,ty⟩ true t)/\len=xs.length/\xs.length<=cap/\cap*k.size<=c.length/\Rows (λx c=>KC (Xy p) k x c/\Z3n k c) xs (c.take (xs.length*k.size)):=by
 obtain⟨is,_,_,h2,_,_,_⟩:=hd;rcases h2 with⟨rfl,h,_⟩|⟨i,au,c,t,js,h,_,h1,h3,h4,h5⟩
 .rw[hp] at h;cases h
 .rw[hp] at h;obtain⟨rfl,rfl,rfl⟩:=(by simpa using h:b=i/\len=xs.length/\cap=au);exact⟨c,t,h3,rfl,h1,h4,h5.rows λ_ _ _ h=>⟨h.kc,h.koff⟩⟩
theorem HQ (hle:B.Le M) (aA:∀ d,OR P B pl tb M (pl d) (Q9 own d)) {agg:Bool}{size:Nat}(aF:0<size) {s v:SV}{p:Value}(h:Q1x own agg size s=some v) (hs:SR P B pl tb s p) :
  ∃ i o c e wr t u,p=.pointer (some ⟨i,o,none⟩)/\M.get i=some (.cells c e wr t)/\Xl agg size c o=some u/\SR P B pl tb v u:=by
 unfold Q1x at h;split at h
 .rename_i o off;have ho:=aA o;simp only[SR] at hs;obtain⟨b,h1,rfl⟩:=hs;split at h
  .rename_i l _ heq;rw[heq] at ho;obtain⟨i,c,e,t,h2,h3,h4,_⟩:=ho;rw[h1] at h2;obtain rfl:=(by simpa using h2:b=i);obtain⟨u,h5,h6⟩:=Js h4 h;exact⟨b,off,c,e,true,t,u,rfl,h3,h5,h6⟩
  .cases h
 .rename_i l off;simp only[SR] at hs;obtain⟨b,c,e,wr,t,h1,rfl,h3⟩:=hs;obtain⟨u,h5,h6⟩:=Js h3 h;exact⟨b,off,c,e,wr,t,u,rfl,hle.2 _ _ h1,h5,h6⟩
 .rename_i o i off sz;have ho:=aA o;simp only[SR] at hs;obtain⟨b,len,cap,h1,h2,h3,rfl⟩:=hs;split at h
  .rename_i ty k xs nl heq;rw[heq] at ho;split at h
   .rename_i ak;obtain⟨rfl,bC⟩:=ak;rcases ho with⟨_,_,h4⟩|⟨_,i',fl,c,t,h4,h5,h6,h7,h8⟩
    .rw[h1] at h4;cases h4
    .rw[h1] at h4;obtain⟨rfl,rfl,rfl⟩:=(by simpa using h4:b=i'/\len=xs.length/\cap=fl);have hi:i.toNat<xs.length:=by omega
     have hr:=h8.at KC.q0f hi;have hx:xs.getD i.toNat k.dflt=xs[i.toNat]:=by simp[zd,z1 hi]
     rw[hx] at h;obtain⟨u,h9,bT⟩:=Js (Yu (P:=P) (pl:=pl) (tb:=tb) hr) h;refine⟨b,_,c,_,true,t,u,rfl,h6,M7 bC aF h9 ?_,bT⟩;have:(i.toNat+1)*k.size<=xs.length*k.size:=zr _ hi
     rwa [zH,xF] at this
   .cases h
  .cases h
 .rename_i k l i off;simp only[SR] at hs;obtain⟨b,o,c,e,wr,t,h1,h2,h3,rfl,h5,h6⟩:=hs;split at h
  .rename_i bC;have hi:i.toNat<l.length:=by omega
   have hr:=h6.at KC.q0f hi;have hx:l.getD i.toNat k.dflt=l[i.toNat]:=by simp[zd,z1 hi]
   rw[hx] at h;obtain⟨u,h9,bT⟩:=Js (Yu (P:=P) (pl:=pl) (tb:=tb) hr) h;have fb:(i.toNat+1)*k.size<=l.length*k.size:=zr _ hi;rw[zH,xF] at fb;refine⟨b,_,c,e,wr,t,u,rfl,hle.2 _ _ h3,?_,bT⟩;have:=M7 bC aF h9 fb;clear h9;cases agg with
   |true =>
    simp only[Xl,zB,xZ] at this |-;split at this
    .rename_i dx;rw[z7 (by omega)];rw[<-this,List.drop_drop,zt]
    .cases this
   |false =>simp only[Xl,zC,if_false,zz] at this |-;rw[<-this,zt]
  .cases h
 .rename_i o w;have ho:=aA o;simp only[SR] at hs;split at h
  .rename_i ty q k xs nl hole heq;rw[heq] at ho;split at h
   .have dx:=DP.le ho;split at h
    .rename_i i off sz;obtain⟨b,len,cap,h1,h2,h3,rfl⟩:=hs;split at h
     .rename_i ak;obtain⟨rfl,bC⟩:=ak;obtain⟨c,t,h4,rfl,h5,h6,h7⟩:=DP.elem ho h1;have hi:i.toNat<xs.length:=by omega
      have hr:=h7.at (λx c h=>KC.q0f x c h.1) hi;have hx:xs.getD i.toNat k.dflt=xs[i.toNat]:=by simp[zd,z1 hi]
      rw[hx] at h;have jb:(i.toNat+1)*k.size<=xs.length*k.size:=zr _ hi;rw[zH,xF] at jb;obtain⟨u,h9,bT⟩:=Js (EZ (P:=P) (B:=B) (tb:=tb) hr.1 hr.2 λbD v hv=>by
       refine⟨b,_,cap,c,_,t,h1,h2,h3,h4,?_⟩;have uD:=Kind.q1p bD;have:(((c.take (xs.length*k.size)).drop (i.toNat*k.size)).take k.size)[0]?=some v:=by rw[hv];rfl
       rw[uD] at this;simp only[wT,zO,zz,zK] at this;rw[z7 (by omega),z7 (by omega)] at this;exact this) h
      exact⟨b,_,c,_,true,t,u,rfl,dx.2 _ _ h4,M7 bC aF h9 jb,bT⟩
     .cases h
    .rename_i k' x i j off;obtain⟨b,len,cap,c,e,t,r,rl,rc,bL,re,rt,h1,h2,h3,h4,h5,h6,h7,h8,h9,bT,gg,rfl⟩:=hs;split at h
     .rename_i bC;subst h8;have hj:j.toNat<x.length:=by omega
      have hr:=gg.at KC.q0f hj;have hx:x.getD j.toNat k'.dflt=x[j.toNat]:=by simp[zd,z1 hj]
      rw[hx] at h;have jb:(j.toNat+1)*k'.size<=x.length*k'.size:=zr _ hj;rw[zH,xF] at jb;obtain⟨u,k9,qU⟩:=Js (Jn (P:=P) (B:=B) (tb:=tb) hr) h;exact⟨r,_,bL,_,true,rt,u,rfl,dx.2 _ _ h9,M7 bC aF k9 jb,qU⟩
     .cases h
    .rename_i k' l j off;obtain⟨b,o',c,e,wr,t,h1,h2,h3,rfl,h5,h6⟩:=hs;split at h
     .rename_i bC;have hj:j.toNat<l.length:=by omega
      have hr:=h6.at KC.q0f hj;have hx:l.getD j.toNat k'.dflt=l[j.toNat]:=by simp[zd,z1 hj]
      rw[hx] at h;obtain⟨u,k9,qU⟩:=Js (Jn (P:=P) (B:=B) (tb:=tb) hr) h;have fb:(j.toNat+1)*k'.size<=l.length*k'.size:=zr _ hj;rw[zH,xF] at fb;refine⟨b,_,c,e,wr,t,u,rfl,dx.2 _ _ h3,?_,qU⟩;have:=M7 bC aF k9 fb;clear k9;cases agg with
      |true =>
       simp only[Xl,zB,xZ] at this |-;split at this
       .rename_i uE;rw[z7 (by omega)];rw[<-this,List.drop_drop,zt]
       .cases this
      |false =>simp only[Xl,zC,if_false,zz] at this |-;rw[<-this,zt]
     .cases h
    .cases h
   .cases h
  .cases h
 .cases h
end
end Go.V
namespace Go.V
open Go
section
variable {P:Program}{B:Heap}{pl:Nat->Value}{tb:Nat->Option Bool}{own:Own}{M:Heap}
theorem R9 {s:SV}{v:Value}(h:s.solid=true) (hs:SR P B pl tb s v):KN v=some [v]/\cellOk v=true:=by
 cases s with
 |any=>cases h
 |grd gs s=>cases h
 |agg l=>cases h
 |tup l=>cases h
 |val k x =>
  simp only[SR] at hs;cases k with
  |i ik=>simp only[KC] at hs;obtain rfl:=(zR hs).1;exact⟨rfl,rfl⟩
  |bo=>simp only[KC] at hs;obtain rfl:=(zR hs).1;exact⟨rfl,rfl⟩
  |st=>simp only[KC] at hs;obtain rfl:=(zR hs).1;exact⟨rfl,rfl⟩
  |list k =>obtain⟨v',e,hs⟩:=hs;obtain rfl:=(zR e).1;obtain⟨a,c,rfl⟩:=hs.len;exact⟨rfl,rfl⟩
  |pair a b =>have h1:=KC.length hs;have h2:=a.size_pos;have h3:=b.size_pos;simp only[Kind.size,xr] at h1;omega
 |bid n c=>simp only[SR] at hs;obtain⟨rfl,_⟩:=hs;exact⟨rfl,rfl⟩
 |nilS=>simp only[SR] at hs;subst hs;exact⟨rfl,rfl⟩
 |nilP=>simp only[SR] at hs;subst hs;exact⟨rfl,rfl⟩
 |nilM=>simp only[SR] at hs;subst hs;exact⟨rfl,rfl⟩
 |nilF=>simp only[SR] at hs;subst hs;exact⟨rfl,rfl⟩
 |lst o=>simp only[SR] at hs;obtain⟨_,a,n,c,rfl⟩:=hs;exact⟨rfl,rfl⟩
 |dd o w =>
  simp only[SR] at hs;cases w with
  |out=>obtain⟨_,a,n,c,rfl⟩:=hs;exact⟨rfl,rfl⟩
  |el i off sz=>obtain⟨_,_,_,_,_,_,rfl⟩:=hs;exact⟨rfl,rfl⟩
  |row k x i=>obtain⟨a,c,rfl⟩:=(Pz hs.1).len;exact⟨rfl,rfl⟩
  |rowp k x i j off=>obtain⟨_,_,_,_,_,_,_,_,_,_,_,_,_,_,_,_,_,_,_,_,_,_,_,rfl⟩:=hs;exact⟨rfl,rfl⟩
  |inn k x=>obtain⟨a,c,rfl⟩:=(Pz hs).len;exact⟨rfl,rfl⟩
  |inp k l j off=>obtain⟨_,_,_,_,_,_,_,_,_,rfl,_⟩:=hs;exact⟨rfl,rfl⟩
  |dat=>rcases hs with⟨_,rfl⟩|⟨_,_,_,_,_,rfl⟩<;>exact⟨rfl,rfl⟩
  |obx c=>rcases hs with⟨_,rfl⟩|⟨_,_,_,rfl⟩<;>exact⟨rfl,rfl⟩
  |yv=>obtain⟨_,_,rfl⟩:=hs;exact⟨rfl,rfl⟩
 |sub o lo n sz=>simp only[SR] at hs;rcases hs with⟨_,_,rfl,_⟩|⟨_,_,_,_,_,_,_,rfl⟩<;>exact⟨rfl,rfl⟩
 |elp o i off sz=>simp only[SR] at hs;obtain⟨_,_,_,_,_,_,rfl⟩:=hs;exact⟨rfl,rfl⟩
 |rop k l i off=>simp only[SR] at hs;obtain⟨_,_,_,_,_,_,_,_,_,rfl,_⟩:=hs;exact⟨rfl,rfl⟩
 |box o off=>simp only[SR] at hs;obtain⟨_,_,rfl⟩:=hs;exact⟨rfl,rfl⟩
 |cp l off=>simp only[SR] at hs;obtain⟨_,_,_,_,_,_,rfl,_⟩:=hs;exact⟨rfl,rfl⟩
 |map o=>simp only[SR] at hs;obtain⟨_,m,rfl⟩:=hs;exact⟨rfl,rfl⟩
 |fn f a b=>simp only[SR] at hs;obtain⟨_,_,rfl,_⟩:=hs;exact⟨rfl,rfl⟩
 |pf ks r cX p=>simp only[SR] at hs;obtain⟨_,_,_,rfl,_⟩:=hs;exact⟨rfl,rfl⟩
theorem H3:∀ {l:List SV}{c:List Value},l.all SV.solid=true->SRs P B pl tb l c->c.all cellOk=true
 |[],c,_,h=>by simp only[SRs] at h;subst h;rfl
 |s::ss,c,hl,h=>by simp only[SRs] at h;obtain⟨x,y,rfl,h1,h2⟩:=h;simp only[zW,z6] at hl |-;exact⟨(R9 hl.1 h1).2,H3 hl.2 h2⟩
theorem Yi {s:SV}{v:Value}{l:List SV}(h:Gq s=some l) (hs:SR P B pl tb s v):∃ c,KN v=some c/\SRs P B pl tb l c/\c.all cellOk=true:=by
 have key:s.solid=true->some [s]=some l->∃ c,KN v=some c/\SRs P B pl tb l c/\c.all cellOk=true:=λqV e=>by obtain rfl:=osj e;obtain⟨h1,h2⟩:=R9 qV hs;exact⟨[v],h1,by simp only[SRs];exact⟨v,[],rfl,hs,rfl⟩,by simp[h2]⟩
 cases s with
 |any=>cases h
 |grd gs s=>cases h
 |tup l=>cases h
 |agg l' =>
  simp only[Gq] at h;cases hl:l'.all SV.solid with
  |false=>rw[hl] at h;cases h
  |true =>rw[hl] at h;obtain rfl:=osj h;simp only[SR] at hs;obtain⟨cs,rfl,hs⟩:=hs;exact⟨cs,rfl,hs,H3 hl hs⟩
 |_=>exact key rfl h
theorem Bp:∀ {vs:List SV}{us:List Value}{c:List SV}{cV:List Value}{o:Nat},SRs P B pl tb c cV->SRs P B pl tb vs us->SRs P B pl tb (gfill.setS c o vs) (Yq cV o us)
 |[],us,c,cV,o,h,h'=>by simp only[SRs] at h';subst h';exact h
 |v::vs,us,c,cV,o,h,h'=>by simp only[SRs] at h';obtain⟨x,y,rfl,h1,h2⟩:=h';simp only[gfill.setS,Yq];exact Bp (h.set o h1) h2
theorem PD:∀ {ps:List (Nat×Nat×Operand)}{c l:List SV}{cV:List Value}{ev:Operand->SV}{evV:Operand->Value},(∀ x,SR P B pl tb (ev x) (evV x))->SRs P B pl tb c cV->gfill c (ps.map λp=>(p.1,p.2.1,ev p.2.2))=some l ->
  ∃ lV,Mw cV (ps.map λp=>(p.1,p.2.1,evV p.2.2))=some lV/\SRs P B pl tb l lV
 |[],c,l,cV,ev,evV,aj,h,hg=>by obtain rfl:=osj hg;exact⟨cV,rfl,h⟩
 |p::ps,c,l,cV,ev,evV,aj,h,hg=>by
  simp only[zJ,gfill] at hg;split at hg
  .rename_i vs hs;split at hg
   .rename_i ak;obtain⟨us,h1,h2,_⟩:=Yi hs (aj p.2.2);obtain⟨lV,h3,h4⟩:=PD aj (Bp h h2) hg;refine⟨lV,?_,h4⟩;simp only[zJ,Mw,h1];rw[z7 ⟨by rw[<-h2.length];exact ak.1,by rw[<-h.length];exact ak.2⟩];exact h3
   .cases hg
  .cases hg
theorem Yn {h:Heap}:∀ {k:Kind}{z:List Value},Ve k z=true->KC h k k.dflt z
 |.i ik,z,e=>by unfold Ve at e;split at e<;>simp_all [KC,Kind.dflt]
 |.bo,z,e=>by unfold Ve at e;split at e<;>simp_all [KC,Kind.dflt]
 |.st,z,e=>by unfold Ve at e;split at e<;>simp_all [KC,Kind.dflt];rename_i s;cases s;simp_all
 |.list k,z,e=>by unfold Ve at e;split at e<;>simp_all [KC,Kind.dflt];exact .inl ⟨rfl,rfl⟩
 |.pair a b,z,e=>by simp only[Ve,z6] at e;exact⟨_,_,(xT a.size z).symm,Yn e.1,Yn e.2⟩
theorem RI {h:Heap}{mk:MK}{kk:Kind}(hk:gq.mkP mk kk=true) {x:kk.T}{cs:List Value}(e:KC h kk x cs):∃ v,cs=[v]/\Zn mk v=true/\Eo mk v=true:=by
 unfold gq.mkP at hk;split at hk
 .simp only[KC] at e;subst e;obtain rfl:=zP hk;exact⟨_,rfl,by simp[Zn],by simp[Eo]⟩
 .simp only[KC] at e;subst e;exact⟨_,rfl,rfl,rfl⟩
 .simp only[KC] at e;subst e;exact⟨_,rfl,rfl,rfl⟩
 .cases hk
theorem Q3f {h:Heap}{mk:MK}{kk:Kind}(hk:gq.mkP mk kk=true) {x y:kk.T}{u v:Value}(e:KC h kk x [u]) (e':KC h kk y [v]):XF u v=gq.keq kk x y/\Kq u v=gq.keq kk x y:=by
 unfold gq.mkP at hk;split at hk
 .simp only[KC] at e e';obtain rfl:=(zR e).1;obtain rfl:=(zR e').1;exact⟨rfl,rfl⟩
 .simp only[KC] at e e';obtain rfl:=(zR e).1;obtain rfl:=(zR e').1;simp[XF,Kq,gq.keq]
 .simp only[KC] at e e';obtain rfl:=(zR e).1;obtain rfl:=(zR e').1;exact⟨rfl,rfl⟩
 .cases hk
theorem PF {h:Heap}:∀ {k:Kind}{l r:List MK}{x:k.T}{cs ds:List Value},gq.mkAt k l=some r->KC h k x cs->fits l (cs++ds)=fits r ds
 |.pair a b,l,r,x,cs,ds,hk,e=>by
  simp only[gq.mkAt] at hk;split at hk
  .rename_i q hq;obtain⟨c1,c2,rfl,h1,h2⟩:=e;rw[zZ,PF hq h1,PF hk h2]
  .cases hk
 |.i _,m::l,r,x,cs,ds,hk,e|.bo,m::l,r,x,cs,ds,hk,e|.st,m::l,r,x,cs,ds,hk,e|.list _,m::l,r,x,cs,ds,hk,e=>by
  simp only[gq.mkAt] at hk;cases hp:gq.mkP m _ with
  |false=>rw[hp] at hk;cases hk
  |true =>rw[hp] at hk;obtain rfl:=osj hk;obtain⟨v,rfl,_,h2⟩:=RI hp e;simp[fits,h2]
 |.i _,[],r,x,cs,ds,hk,e|.bo,[],r,x,cs,ds,hk,e|.st,[],r,x,cs,ds,hk,e|.list _,[],r,x,cs,ds,hk,e=>by cases hk
theorem CF {h:Heap}:∀ {k:Kind}{l r:List MK}{x y:k.T}{cs ds cs' ds':List Value},gq.mkAt k l=some r->KC h k x cs->KC h k y ds->Qo (cs++cs') (ds++ds')=(gq.keq k x y&&Qo cs' ds')
 |.pair a b,l,r,x,y,cs,ds,cs',ds',hk,e,e'=>by
  simp only[gq.mkAt] at hk;split at hk
  .rename_i q hq;obtain⟨c1,c2,rfl,h1,h2⟩:=e;obtain⟨d1,d2,rfl,g1,g2⟩:=e';rw[zZ,zZ,CF hq h1 g1,CF hk h2 g2];simp only[gq.keq,Bool.and_assoc]
  .cases hk
 |.i _,m::l,r,x,y,cs,ds,cs',ds',hk,e,e'|.bo,m::l,r,x,y,cs,ds,cs',ds',hk,e,e'|.st,m::l,r,x,y,cs,ds,cs',ds',hk,e,e'|.list _,m::l,r,x,y,cs,ds,cs',ds',hk,e,e'=>by
  simp only[gq.mkAt] at hk;cases hp:gq.mkP m _ with
  |false=>rw[hp] at hk;cases hk
  |true =>obtain⟨v,rfl,_,_⟩:=RI hp e;obtain⟨w,rfl,_,_⟩:=RI hp e';simp only[xB,xj,Qo,(Q3f hp e e').2]
 |.i _,[],r,x,y,cs,ds,cs',ds',hk,e,e'|.bo,[],r,x,y,cs,ds,cs',ds',hk,e,e'|.st,[],r,x,y,cs,ds,cs',ds',hk,e,e'|.list _,[],r,x,y,cs,ds,cs',ds',hk,e,e'=>by cases hk
theorem MO {h:Heap}{mk:MK}{kk:Kind}(hk:gq.mkOk mk kk=true) {x:kk.T}{v:Value}(e:KV h kk x v):Zn mk v=true:=by
 unfold gq.mkOk at hk;rcases e with⟨ho,e⟩|⟨ho,cs,rfl,e⟩
 .rw[ho] at hk;obtain⟨w,h1,h2,_⟩:=RI hk e;obtain rfl:=(zR h1).1;exact h2
 .rw[ho] at hk;simp only[zS] at hk;split at hk
  .rename_i l;split at hk
   .rename_i hr;have:=PF (ds:=[]) hr e;rw[xJ] at this;simp only[Zn];rw[this];rfl
   .cases hk
  .cases hk
theorem HK {h:Heap}{mk:MK}{kk:Kind}(hk:gq.mkOk mk kk=true) {x y:kk.T}{u v:Value}(e:KV h kk x u) (e':KV h kk y v):XF u v=gq.keq kk x y:=by
 unfold gq.mkOk at hk;rcases e with⟨ho,e⟩|⟨ho,cs,rfl,e⟩
 .rcases e' with⟨_,e'⟩|⟨fc,_⟩
  .rw[ho] at hk;exact(Q3f hk e e').1
  .rw[ho] at fc;cases fc
 .rcases e' with⟨fc,_⟩|⟨_,ds,rfl,e'⟩
  .rw[ho] at fc;cases fc
  .rw[ho] at hk;simp only[zS] at hk;split at hk
   .split at hk
    .rename_i hr;have:=CF (cs':=[]) (ds':=[]) hr e e';rw[xJ,xJ] at this;simp only[XF];rw[this];simp[Qo]
    .cases hk
   .cases hk
theorem Mu {B:Heap}{k:Kind}{v:SV}{u:Value}{x:k.T}(h:dkV k v=some x) (hs:SR P B pl tb v u) (hd:∀ {k:Kind}{l:List SV}{x:k.T}{c:List Value},Tm k l=some x->SRs P B pl tb l c->KC B k x c):KV B k x u:=by
 unfold dkV at h;cases bD:k.one with
 |true =>rw[bD] at h;exact .inl ⟨bD,hd h (by simp only[SRs];exact⟨u,[],rfl,hs,rfl⟩)⟩
 |false =>
  rw[bD] at h;simp only[zS] at h;split at h
  .simp only[SR] at hs;obtain⟨cs,rfl,hs⟩:=hs;exact .inr ⟨bD,cs,rfl,hd h hs⟩
  .cases h
theorem BL {B:Heap}{k:Kind}{z:Value}(h:Ve k (A9 k z)=true):KV B k k.dflt z:=by
 have e:=Yn (h:=B) h;unfold A9 at e;cases bD:k.one with
 |true=>rw[bD] at e;exact .inl ⟨bD,e⟩
 |false =>
  rw[bD] at e;simp only[zS] at e;split at e
  .exact .inr ⟨bD,_,by simp,e⟩
  .have:=KC.length e;have:=k.size_pos;simp at *
   omega
theorem KV.kc {B:Heap}{k:Kind}{x:k.T}{v:Value}(h:KV B k x v) (ho:k.one=true):KC B k x [v]:=by
 rcases h with⟨_,h⟩|⟨h1,_⟩
 .exact h
 .rw[ho] at h1;cases h1
theorem MR.keys {mk:MK}{kk vk:Kind}(hk:gq.mkOk mk kk=true):∀ {m:List (kk.T×vk.T)}{es:List JD},MR B kk vk m es->es.all (λe=>Zn mk e.1)=true
 |[],es,h=>by simp only[MR] at h;subst h;rfl
 |m::ms,es,h=>by obtain⟨e,bZ,rfl,h2,h3,h4⟩:=h;simp only[zW,z6];exact⟨MO hk h2,MR.keys hk h4⟩
theorem MR.length {kk vk:Kind}:∀ {m:List (kk.T×vk.T)}{es:List JD},MR B kk vk m es->es.length=m.length
 |[],es,h=>by simp only[MR] at h;subst h;rfl
 |m::ms,es,h=>by obtain⟨e,bZ,rfl,h2,h3,h4⟩:=h;simp[MR.length h4]
theorem MR.find {mk:MK}{kk vk:Kind}(hk:gq.mkOk mk kk=true) {key:kk.T}{kv:Value}(bG:KV B kk key kv) {d:vk.T}{z:Value}(hz:KV B vk d z):∀ {m:List (kk.T×vk.T)}{es:List JD},MR B kk vk m es ->
  (∃ e,Qj kv es=some e/\gq.ahas kk m key=true/\KV B vk (gq.aget kk m key d) e.2.1)\/(Qj kv es=none/\gq.ahas kk m key=false/\gq.aget kk m key d=d)
 |[],es,h=>by simp only[MR] at h;subst h;exact .inr ⟨rfl,rfl,rfl⟩
 |m::ms,es,h=>by
  obtain⟨e,bZ,rfl,h2,h3,h4⟩:=h;have hq:=HK hk bG h2;cases hc:gq.keq kk key m.1 with
  |true =>refine .inl ⟨e,by simp[Qj,hq,hc],by simp[gq.ahas,hc],by simpa [gq.aget,hc] using h3⟩
  |false =>
   rcases MR.find hk bG hz h4 with⟨e',k1,k2,k3⟩|⟨k1,k2,k3⟩
   .exact .inl ⟨e',by simp[Qj,hq,hc,k1],by simp[gq.ahas,hc,k2],by simpa [gq.aget,hc] using k3⟩
   .exact .inr ⟨by simp[Qj,hq,hc,k1],by simp[gq.ahas,hc,k2],by simpa [gq.aget,hc] using k3⟩
theorem SRs.one {v:SV}{c:List Value}(h:SRs P B pl tb [v] c):∃ u,c=[u]/\SR P B pl tb v u:=by simp only[SRs] at h;obtain⟨u,us,rfl,h1,rfl⟩:=h;exact⟨u,rfl,h1⟩
theorem QE:∀ {k:Kind}{l:List SV}{x:k.T}{c:List Value},Tm k l=some x->SRs P B pl tb l c->KC B k x c
 |.i ik,[],x,c,h,hs|.bo,[],x,c,h,hs|.st,[],x,c,h,hs|.list _,[],x,c,h,hs=>by cases h
 |.i ik,_::_::_,x,c,h,hs|.bo,_::_::_,x,c,h,hs|.st,_::_::_,x,c,h,hs|.list _,_::_::_,x,c,h,hs=>by cases h
 |.i ik,[v],x,c,h,hs=>by
  obtain⟨u,rfl,h1⟩:=hs.one;simp only[Tm] at h;split at h
  .rename_i sA y;split at h
   .rename_i e;obtain rfl:=osj h;subst e;simp only[SR] at h1;exact h1
   .cases h
  .cases h
 |.bo,[v],x,c,h,hs=>by obtain⟨u,rfl,h1⟩:=hs.one;rw[XH h h1];rfl
 |.st,[v],x,c,h,hs=>by obtain⟨u,rfl,h1⟩:=hs.one;rw[US h h1];rfl
 |.list k,[v],x,c,h,hs=>by
  obtain⟨u,rfl,h1⟩:=hs.one;simp only[Tm] at h;split at h
  .obtain rfl:=osj h;simp only[SR] at h1;subst h1;exact⟨_,rfl,.inl ⟨rfl,rfl⟩⟩
  .rename_i k' l';obtain rfl:=XS h;obtain rfl:=W2 h;simp only[SR] at h1;exact h1
  .cases h
 |.pair a b,l,x,c,h,hs=>by
  simp only[Tm] at h;split at h
  .rename_i y z h1 h2;obtain rfl:=osj h;exact⟨c.take a.size,c.drop a.size,(xT _ _).symm,QE h1 (hs.take _),QE h2 (hs.drop _)⟩
  .cases h
end
end Go.V
namespace Go.V
open Go
theorem InK.wrap {k:IntKind}{x:Int}(h:InK k x):k.wrap x=x:=by obtain⟨h1,h2⟩:=h;cases k<;>simp[IntKind.wrap,IntKind.bits,IntKind.signed,IntKind.min,IntKind.max] at h1 h2 |-<;>(try split)<;>omega
section
variable {P:Program}{B:Heap}{pl:Nat->Value}{tb:Nat->Option Bool}{own:Own}{M:Heap}
def QOk (P:Program) (B:Heap) (pl:Nat->Value) (tb:Nat->Option Bool) (M:Heap) (o:VOp) (evV:Operand->Value) (v:SV):Prop:=∃ u,Q7 o evV M=some (u,M)/\SR P B pl tb v u
theorem X5 (k:IntKind) (x:Int):SR P B pl tb (.val (.i k) x) (.int k x):=by simp[SR,KC]
theorem ZZ (x:Bool):SR P B pl tb (.val .bo x) (.bool x):=by simp[SR,KC]
theorem AR (x:List UInt8):SR P B pl tb (.val .st x) (.string ⟨x.toArray⟩):=by simp[SR,KC]
theorem QV {α β:Type _}{a c:α}{b d:β}(h:some (a,b)=some (c,d)):a=c/\b=d:=by cases h;exact⟨rfl,rfl⟩
section
variable {kt:List (Nat×Kind)}{raw:Bool}{ev:Operand->SV}{evV:Operand->Value}{cs:List Prop}{v:SV}
theorem Dd (aj:∀ x,SR P B pl tb (ev x) (evV x)) {x y:Operand}{k k':IntKind}{a b:Int}(h1:asI (ev x)=some (k,a)) (h2:asI (ev y)=some (k',b)):evV x=.int k a/\evV y=.int k' b:=⟨Jg h1 (aj x),Jg h2 (aj y)⟩
theorem Q59 (aj:∀ x,SR P B pl tb (ev x) (evV x)) {op:BinOp}{x y:Operand}(h:gq kt raw (.arith op x y) ev own=some (cs,v)) (hc:∀ c∈cs,c):QOk P B pl tb M (.arith op x y) evV v:=by
 simp only[gq] at h;split at h
 .rename_i k a k' b h1 h2;obtain⟨e1,e2⟩:=Dd aj h1 h2;split at h
  .rename_i hk;subst hk;cases raw with
   |true =>
    obtain⟨rfl,rfl⟩:=QV h;refine⟨_,by simp only[Q7,e1,e2,zB]<;>rfl,?_⟩;have:Re op k a b=k.wrap (PI op a b):=by cases op<;>rfl
    rw[this];exact X5 _ _
   |false =>
    obtain⟨rfl,rfl⟩:=QV h;refine⟨_,by simp only[Q7,e1,e2,zB]<;>rfl,?_⟩;have:Re op k a b=PI op a b:=by
     have hw:InK k (PI op a b):=hc _ (by simp);have e:Re op k a b=k.wrap (PI op a b):=by cases op<;>rfl
     rw[e,hw.wrap]
    rw[this];exact X5 _ _
  .cases h
 .cases h
theorem Z2e (aj:∀ x,SR P B pl tb (ev x) (evV x)) {op:BinOp}{x y:Operand}(h:gq kt raw (.div op x y) ev own=some (cs,v)) (hc:∀ c∈cs,c):QOk P B pl tb M (.div op x y) evV v:=by
 simp only[gq] at h;split at h
 .rename_i k a k' b h1 h2;obtain⟨e1,e2⟩:=Dd aj h1 h2;split at h
  .rename_i hk;subst hk;split at h
   .obtain⟨rfl,rfl⟩:=QV h;have hb:b≠0:=hc _ (by simp);have hw:InK k (a.tdiv b):=hc _ (by simp);refine⟨_,by simp only[Q7,e1,e2,hb,ne_eq,not_false_iff,and_self,zB]<;>rfl,?_⟩;simp only[Q7n,hw.wrap];exact X5 _ _
   .obtain⟨rfl,rfl⟩:=QV h;have hb:b≠0:=hc _ (by simp);refine⟨_,by simp only[Q7,e1,e2,hb,ne_eq,not_false_iff,and_self,zB]<;>rfl,?_⟩;rename_i bJ;have:Q7n op k a b=a.tmod b:=by unfold Q7n;split<;>simp_all
    rw[this];exact X5 _ _
  .cases h
 .cases h
theorem Q9j (aj:∀ x,SR P B pl tb (ev x) (evV x)) {op:BinOp}{x y:Operand}(h:gq kt raw (.bits op x y) ev own=some (cs,v)):QOk P B pl tb M (.bits op x y) evV v:=by
 simp only[gq] at h;split at h
 .rename_i k a k' b h1 h2;obtain⟨e1,e2⟩:=Dd aj h1 h2;split at h
  .rename_i hk;subst hk;obtain⟨rfl,rfl⟩:=QV h;exact⟨_,by simp only[Q7,e1,e2,zB]<;>rfl,X5 _ _⟩
  .cases h
 .cases h
theorem Q6m (aj:∀ x,SR P B pl tb (ev x) (evV x)) {op:BinOp}{x y:Operand}(h:gq kt raw (.shift op x y) ev own=some (cs,v)) (hc:∀ c∈cs,c):QOk P B pl tb M (.shift op x y) evV v:=by
 simp only[gq] at h;split at h
 .rename_i k a k' b h1 h2;obtain⟨e1,e2⟩:=Dd aj h1 h2;split at h
  .cases raw with
   |true =>obtain⟨rfl,rfl⟩:=QV h;have hb:0<=b:=hc _ (by simp);exact⟨_,by simp only[Q7,e1,e2,hb,zB]<;>rfl,X5 _ _⟩
   |false =>obtain⟨rfl,rfl⟩:=QV h;have hb:0<=b:=hc _ (by simp);have hw:InK k (XA k a b):=hc _ (by simp);refine⟨_,by simp only[Q7,e1,e2,hb,zB]<;>rfl,?_⟩;have:Rn .shl k a b=k.wrap (XA k a b):=rfl;rw[this,hw.wrap];exact X5 _ _
  .obtain⟨rfl,rfl⟩:=QV h;have hb:0<=b:=hc _ (by simp);refine⟨_,by simp only[Q7,e1,e2,hb,zB]<;>rfl,?_⟩;have:Rn op k a b=Xf k a b:=by unfold Rn;split<;>simp_all [Xf]
   rw[this];exact X5 _ _
 .cases h
theorem Z3e (aj:∀ x,SR P B pl tb (ev x) (evV x)) {op:BinOp}{x y:Operand}(h:gq kt raw (.cmp op x y) ev own=some (cs,v)):QOk P B pl tb M (.cmp op x y) evV v:=by
 simp only[gq] at h;split at h
 .rename_i k a k' b h1 h2;obtain⟨e1,e2⟩:=Dd aj h1 h2;split at h
  .rename_i hk;subst hk;obtain⟨rfl,rfl⟩:=QV h;exact⟨_,by simp only[Q7,e1,e2,zB]<;>rfl,ZZ _⟩
  .cases h
 .cases h
theorem Z2i (aj:∀ x,SR P B pl tb (ev x) (evV x)) {op:BinOp}{x y:Operand}(h:gq kt raw (.str op x y) ev own=some (cs,v)) (hc:∀ c∈cs,c):QOk P B pl tb M (.str op x y) evV v:=by
 simp only[gq] at h;split at h
 .rename_i a b h1 h2;have e1:=US h1 (aj x);have e2:=US h2 (aj y);split at h
  .obtain⟨rfl,rfl⟩:=QV h;have hw:a.length+b.length<=4611686018427387904:=hc _ (by simp);refine⟨.string (⟨a.toArray⟩++⟨b.toArray⟩),by simp only[Q7,e1,e2];rw[z7 (by simpa [ByteArray.size] using hw)],?_⟩;have:(⟨a.toArray⟩:ByteArray)++⟨b.toArray⟩=⟨(a++b).toArray⟩:=by
    apply ByteArray.ext;simp
   rw[this];exact AR _
  .obtain⟨rfl,rfl⟩:=QV h;exact⟨_,by simp only[Q7,e1,e2]<;>rfl,ZZ _⟩
  .obtain⟨rfl,rfl⟩:=QV h;exact⟨_,by simp only[Q7,e1,e2]<;>rfl,ZZ _⟩
  .obtain⟨rfl,rfl⟩:=QV h;exact⟨_,by simp only[Q7,e1,e2]<;>rfl,ZZ _⟩
  .cases h
 .cases h
theorem Z44 (aj:∀ x,SR P B pl tb (ev x) (evV x)) {neg:Bool}{x y:Operand}(h:gq kt raw (.eqB neg x y) ev own=some (cs,v)):QOk P B pl tb M (.eqB neg x y) evV v:=by
 simp only[gq] at h;split at h
 .rename_i a b h1 h2;have e1:=XH h1 (aj x);have e2:=XH h2 (aj y);obtain⟨rfl,rfl⟩:=QV h;exact⟨_,by simp only[Q7,e1,e2]<;>rfl,ZZ _⟩
 .cases h
theorem T4 {k:MK}{a b:SV}{r:Bool}{u w:Value}(h:Fe k a b=some r) (ha:SR P B pl tb a u) (hb:SR P B pl tb b w):Eo k u=true/\Eo k w=true/\Kq u w=r:=by
 cases k with
 |agg s=>cases h
 |int q =>
  simp only[Fe] at h;split at h
  .rename_i q1 x q2 y h1 h2;split at h
   .rename_i hq;obtain⟨rfl,rfl⟩:=hq;obtain rfl:=osj h;rw[Jg h1 ha,Jg h2 hb];exact⟨by simp[Eo],by simp[Eo],rfl⟩
   .cases h
  .cases h
 |bool =>
  simp only[Fe] at h;split at h
  .rename_i x y h1 h2;obtain rfl:=osj h;rw[XH h1 ha,XH h2 hb];exact⟨rfl,rfl,rfl⟩
  .cases h
 |string =>
  simp only[Fe] at h;split at h
  .rename_i x y h1 h2;obtain rfl:=osj h;rw[US h1 ha,US h2 hb];exact⟨rfl,rfl,rfl⟩
  .cases h
theorem BV:∀ {s:List MK}{l m:List SV}{r:Bool}{us ws:List Value},PH s l m=some r->SRs P B pl tb l us->SRs P B pl tb m ws->fits s us=true/\fits s ws=true/\Qo us ws=r
 |[],_,_,_,_,_,h,_,_=>by cases h
 |k::ks,[],_,_,_,_,h,_,_=>by simp[PH] at h
 |k::ks,_::_,[],_,_,_,h,_,_=>by simp[PH] at h
 |[k],a::l,b::m,r,us,ws,h,ha,hb=>by
  simp only[PH] at h;split at h
  .simp only[SRs] at ha hb;obtain⟨u,jE,rfl,h1,rfl⟩:=ha;obtain⟨w,uF,rfl,h2,rfl⟩:=hb;obtain⟨f1,f2,f3⟩:=T4 h h1 h2;simp[fits,Qo,f1,f2,f3]
  .cases h
 |k::k'::ks,a::l,b::m,r,us,ws,h,ha,hb=>by
  simp only[PH] at h;split at h
  .rename_i x y hx hy;obtain rfl:=osj h;simp only[SRs] at ha hb;obtain⟨u,jE,rfl,h1,jC⟩:=ha;obtain⟨w,uF,rfl,h2,m_⟩:=hb;obtain⟨f1,f2,f3⟩:=T4 hx h1 h2;obtain⟨g1,g2,g3⟩:=BV (s:=k'::ks) hy jC m_;rw[fits,fits,f1,f2,g1,g2,Qo,f3,g3];exact⟨rfl,rfl,rfl⟩
  .cases h
theorem Q6n (aj:∀ x,SR P B pl tb (ev x) (evV x)) {neg:Bool}{s:List MK}{x y:Operand}(h:gq kt raw (.ext (.eqAgg neg s x y)) ev own=some (cs,v)):QOk P B pl tb M (.ext (.eqAgg neg s x y)) evV v:=by
 simp only[gq] at h;split at h
 .rename_i l m h1 h2;obtain⟨b,hb,he⟩:=zw.1 h;obtain⟨rfl,rfl⟩:=(by cases he;exact⟨rfl,rfl⟩:[]=cs/\SV.val .bo (bif neg then !b else b)=v);have e1:=aj x;have e2:=aj y;rw[h1] at e1;rw[h2] at e2;simp only[SR] at e1 e2;obtain⟨us,e1,k1⟩:=e1;obtain⟨ws,e2,k2⟩:=e2;obtain⟨f1,f2,f3⟩:=BV hb k1 k2;refine⟨.bool (if neg then !b else b),?_,by cases neg<;>exact ZZ _⟩;simp only[Q7,Zg,e1,e2];rw[z7 ⟨by simpa using f1,by simpa using f2⟩];simp only[f3]
 .cases h
theorem Z67 (aj:∀ x,SR P B pl tb (ev x) (evV x)) {op:UnOp}{x:Operand}(h:gq kt raw (.un op x) ev own=some (cs,v)) (hc:∀ c∈cs,c):QOk P B pl tb M (.un op x) evV v:=by
 simp only[gq] at h;split at h
 .split at h
  .rename_i b h1;obtain⟨rfl,rfl⟩:=QV h;exact⟨_,by simp only[Q7,XH h1 (aj x)]<;>rfl,ZZ _⟩
  .cases h
 .split at h
  .rename_i k n h1;obtain⟨rfl,rfl⟩:=QV h;have hw:InK k (0-n):=hc _ (by simp);refine⟨_,by simp only[Q7,Jg h1 (aj x)]<;>rfl,?_⟩;rw[hw.wrap];exact X5 _ _
  .cases h
 .split at h
  .rename_i k n h1;obtain⟨rfl,rfl⟩:=QV h;exact⟨_,by simp only[Q7,Jg h1 (aj x)]<;>rfl,X5 _ _⟩
  .cases h
 .cases h
theorem Q6o (aj:∀ x,SR P B pl tb (ev x) (evV x)) {k:IntKind}{x:Operand}(h:gq kt raw (.convI k x) ev own=some (cs,v)) (hc:∀ c∈cs,c):QOk P B pl tb M (.convI k x) evV v:=by
 simp only[gq] at h;split at h
 .rename_i k' n h1;cases raw with
  |true =>obtain⟨rfl,rfl⟩:=QV h;exact⟨_,by simp only[Q7,Jg h1 (aj x)]<;>rfl,X5 _ _⟩
  |false =>obtain⟨rfl,rfl⟩:=QV h;have hw:InK k n:=hc _ (by simp);refine⟨_,by simp only[Q7,Jg h1 (aj x)]<;>rfl,?_⟩;rw[hw.wrap];exact X5 _ _
 .cases h
theorem Q66 (aj:∀ x,SR P B pl tb (ev x) (evV x)) {x:Operand}(h:gq kt raw (.convS x) ev own=some (cs,v)):QOk P B pl tb M (.convS x) evV v:=by
 simp only[gq] at h;split at h
 .rename_i s h1;obtain⟨rfl,rfl⟩:=QV h;exact⟨_,by simp only[Q7,US h1 (aj x)]<;>rfl,AR _⟩
 .cases h
theorem Q5z (aj:∀ x,SR P B pl tb (ev x) (evV x)) {z:List Value}{ps:List (Nat×Nat×Operand)}(h:gq kt raw (.build z ps) ev own=some (cs,v)):QOk P B pl tb M (.build z ps) evV v:=by
 simp only[gq] at h;split at h
 .rename_i l h1;obtain⟨rfl,rfl⟩:=QV h;have hz:SRs P B pl tb (z.map cvp) (z.map id):=SRs.map λx _=>DM x;rw[List.map_id] at hz;obtain⟨lV,h2,h3⟩:=PD aj hz h1;refine⟨.agg lV.toArray,by simp only[Q7,h2],?_⟩;simp only[SR];exact⟨lV,rfl,h3⟩
 .cases h
theorem Q89 (aj:∀ x,SR P B pl tb (ev x) (evV x)) (hle:B.Le M) (aA:∀ d,OR P B pl tb M (pl d) (Q9 own d)) {agg:Bool}{size:Nat}{a:Operand}(h:gq kt raw (.load agg size a) ev own=some (cs,v)):QOk P B pl tb M (.load agg size a) evV v:=by
 simp only[gq] at h;cases hb:Nat.blt 0 size with
 |false=>rw[hb] at h;cases h
 |true =>
  rw[hb] at h;simp only[zj,zw] at h;obtain⟨v',h1,h2⟩:=h;obtain⟨rfl,rfl⟩:=(by simpa only [Prod.mk.injEq] using h2:_=cs/\_=v);have hs:0<size:=by simpa [zL] using hb
  obtain⟨i,o,c,e,wr,t,u,h3,h4,h5,h6⟩:=HQ hle aA hs h1 (aj a);exact⟨u,by simp only[Q7,h3,h4,h5],h6⟩
theorem Cj (aj:∀ x,SR P B pl tb (ev x) (evV x)) {off:Nat}{a:Operand}(h:gq kt raw (.fieldAddr off a) ev own=some (cs,v)):QOk P B pl tb M (.fieldAddr off a) evV v:=by
 have ha:=aj a;simp only[gq] at h;split at h
 .rename_i o f heq;obtain⟨rfl,rfl⟩:=QV h;rw[heq] at ha;simp only[SR] at ha;obtain⟨b,h1,h2⟩:=ha;refine⟨_,by simp only[Q7,h2]<;>rfl,?_⟩;simp only[SR];exact⟨b,h1,rfl⟩
 .rename_i l f heq;obtain⟨rfl,rfl⟩:=QV h;rw[heq] at ha;simp only[SR] at ha;obtain⟨b,c,e,wr,t,h1,h2,h3⟩:=ha;refine⟨_,by simp only[Q7,h2]<;>rfl,?_⟩;simp only[SR];exact⟨b,c,e,wr,t,h1,rfl,h3⟩
 .rename_i o i f sz heq;obtain⟨rfl,rfl⟩:=QV h;rw[heq] at ha;simp only[SR] at ha;obtain⟨b,len,cap,h1,h2,h3,h4⟩:=ha;refine⟨_,by simp only[Q7,h4]<;>rfl,?_⟩;simp only[SR];exact⟨b,len,cap,h1,h2,h3,by rw[zt]⟩
 .rename_i o w heq;rw[heq] at ha;simp only[SR] at ha;split at h
  .obtain⟨rfl,rfl⟩:=QV h;obtain⟨b,len,cap,h1,h2,h3,h4⟩:=ha;refine⟨_,by simp only[Q7,h4]<;>rfl,?_⟩;simp only[SR,DR];exact⟨b,len,cap,h1,h2,h3,by rw[zt]⟩
  .obtain⟨rfl,rfl⟩:=QV h;obtain⟨b,len,cap,c,e,t,r,rl,rc,bL,re,rt,h1,h2,h3,h4,h5,h6,h7,h8,h9,bT,gg,ov⟩:=ha;refine⟨_,by simp only[Q7,ov]<;>rfl,?_⟩;simp only[SR,DR];exact⟨b,len,cap,c,e,t,r,rl,rc,bL,re,rt,h1,h2,h3,h4,h5,h6,h7,h8,h9,bT,gg,by rw[zt]⟩
  .obtain⟨rfl,rfl⟩:=QV h;obtain⟨b,o',c,e,wr,t,h1,h2,h3,h4,h5,h6⟩:=ha;refine⟨_,by simp only[Q7,h4]<;>rfl,?_⟩;simp only[SR,DR];exact⟨b,o',c,e,wr,t,h1,h2,h3,by rw[zt],h5,h6⟩
  .cases h
 .rename_i k l i f heq;obtain⟨rfl,rfl⟩:=QV h;rw[heq] at ha;simp only[SR] at ha;obtain⟨b,o,c,e,wr,t,h1,h2,h3,h4,h5,h6⟩:=ha;refine⟨_,by simp only[Q7,h4]<;>rfl,?_⟩;simp only[SR];exact⟨b,o,c,e,wr,t,h1,h2,h3,by rw[zt],h5,h6⟩
 .cases h
theorem Q65 (aj:∀ x,SR P B pl tb (ev x) (evV x)) {agg:Bool}{off size:Nat}{x:Operand}(h:gq kt raw (.field agg off size x) ev own=some (cs,v)):QOk P B pl tb M (.field agg off size x) evV v:=by
 have ha:=aj x;simp only[gq] at h;split at h
 .rename_i l heq;rw[heq] at ha;simp only[SR] at ha;obtain⟨c,h1,h2⟩:=ha;simp only[zw] at h;obtain⟨v',h3,h4⟩:=h;obtain⟨rfl,rfl⟩:=(by simpa only [Prod.mk.injEq] using h4:_=cs/\_=v);obtain⟨u,h5,h6⟩:=Js h2 h3;exact⟨u,by simp only[Q7,h1,h5],h6⟩
 .cases h
theorem IK (aj:∀ x,SR P B pl tb (ev x) (evV x)) {x:Operand}{i:Nat}(h:gq kt raw (.extract x i) ev own=some (cs,v)):QOk P B pl tb M (.extract x i) evV v:=by
 have ha:=aj x;simp only[gq] at h;split at h
 .rename_i l heq;rw[heq] at ha;simp only[SR] at ha;obtain⟨c,h1,h2⟩:=ha;simp only[zw] at h;obtain⟨v',h3,h4⟩:=h;obtain⟨rfl,rfl⟩:=(by simpa only [Prod.mk.injEq] using h4:_=cs/\_=v);obtain⟨u,h5,h6⟩:=h2.get h3;exact⟨u,by simp only[Q7,h1,h5],h6⟩
 .cases h
theorem EV (aj:∀ x,SR P B pl tb (ev x) (evV x)) {x:Operand}(h:gq kt raw (.nilCheck x) ev own=some (cs,v)):QOk P B pl tb M (.nilCheck x) evV v:=by
 have ha:=aj x;simp only[gq] at h;split at h
 .rename_i o f heq;obtain⟨rfl,rfl⟩:=QV h;rw[heq] at ha;have hb:=ha;simp only[SR] at ha;obtain⟨b,h1,h2⟩:=ha;exact⟨_,by simp only[Q7,h2]<;>rfl,by rw[<-h2];exact hb⟩
 .rename_i l f heq;obtain⟨rfl,rfl⟩:=QV h;rw[heq] at ha;have hb:=ha;simp only[SR] at ha;obtain⟨b,c,e,wr,t,h1,h2,h3⟩:=ha;exact⟨_,by simp only[Q7,h2]<;>rfl,by rw[<-h2];exact hb⟩
 .rename_i f a b heq;obtain⟨rfl,rfl⟩:=QV h;rw[heq] at ha;have hb:=ha;simp only[SR] at ha;obtain⟨x1,y1,h1,h2,h3⟩:=ha;exact⟨_,by simp only[Q7,h1]<;>rfl,by rw[<-h1];exact hb⟩
 .cases h
theorem EH (aj:∀ x,SR P B pl tb (ev x) (evV x)) {x i:Operand}(h:gq kt raw (.indexStr x i) ev own=some (cs,v)) (hc:∀ c∈cs,c):QOk P B pl tb M (.indexStr x i) evV v:=by
 simp only[gq] at h;split at h
 .rename_i s k j h1 h2;have e1:=US h1 (aj x);have e2:=Jg h2 (aj i);obtain⟨rfl,rfl⟩:=QV h;have k1:0<=j:=hc _ (by simp);have k2:j<s.length:=hc _ (by simp);have k3:j.toNat<s.length:=by omega
  refine⟨.int .u8 (s[j.toNat].toNat:Int),by simp only[Q7,e1,e2,k1,zB];simp[k3],?_⟩;have:s.getD j.toNat 0=s[j.toNat]:=by simp[zd,k3]
  rw[this];exact X5 _ _
 .cases h
theorem EC (aj:∀ x,SR P B pl tb (ev x) (evV x)) (gL:∀ c,evV (.const c)=c) {len size:Nat}{agg:Bool}{x i:Operand}(h:gq kt raw (.indexArr len agg size x i) ev own=some (cs,v)):QOk P B pl tb M (.indexArr len agg size x i) evV v:=by
 have ha:=aj x;simp only[gq] at h;split at h
 .rename_i l k j heq;split at h
  .rename_i hj;rw[heq] at ha;simp only[SR] at ha;obtain⟨c,h1,h2⟩:=ha;simp only[zw] at h;obtain⟨v',h3,h4⟩:=h;obtain⟨rfl,rfl⟩:=(by simpa only [Prod.mk.injEq] using h4:_=cs/\_=v);obtain⟨u,h5,h6⟩:=Js h2 h3;refine⟨u,?_,h6⟩;simp only[Q7,h1,gL];rw[z7 ⟨by simp,by simpa using hj⟩];simp[h5]
  .cases h
 .cases h
theorem TD (aj:∀ x,SR P B pl tb (ev x) (evV x)) (gL:∀ c,evV (.const c)=c) {len size:Nat}{x i:Operand}(h:gq kt raw (.indexAddrArr len size x i) ev own=some (cs,v)):QOk P B pl tb M (.indexAddrArr len size x i) evV v:=by
 have ha:=aj x;simp only[gq] at h;split at h
 .rename_i o f k j heq;split at h
  .rename_i hj;obtain⟨rfl,rfl⟩:=QV h;rw[heq] at ha;simp only[SR] at ha;obtain⟨b,h1,h2⟩:=ha;refine⟨.pointer (some ⟨b,f+j*size,none⟩),?_,?_⟩
   .simp only[Q7,h2,gL];rw[z7 ⟨by simp,by simpa using hj⟩];simp
   .simp only[SR];exact⟨b,h1,rfl⟩
  .cases h
 .rename_i l f k j heq;split at h
  .rename_i hj;obtain⟨rfl,rfl⟩:=QV h;rw[heq] at ha;simp only[SR] at ha;obtain⟨b,c,e,wr,t,h1,h2,h3⟩:=ha;refine⟨.pointer (some ⟨b,f+j*size,none⟩),?_,?_⟩
   .simp only[Q7,h2,gL];rw[z7 ⟨by simp,by simpa using hj⟩];simp
   .simp only[SR];exact⟨b,c,e,wr,t,h1,rfl,h3⟩
  .cases h
 .cases h
theorem Cu (aj:∀ x,SR P B pl tb (ev x) (evV x)) (_hle:B.Le M) (aA:∀ d,OR P B pl tb M (pl d) (Q9 own d)) {size:Nat}{x i:Operand}(h:gq kt raw (.indexAddr size x i) ev own=some (cs,v)) (hc:∀ c∈cs,c):QOk P B pl tb M (.indexAddr size x i) evV v:=by
 have ha:=aj x;simp only[gq] at h;split at h
 .rename_i o k' j heq hj;have ej:=Jg hj (aj i);split at h
  .rename_i ty k xs nl ho;split at h
   .rename_i aF;obtain⟨rfl,rfl⟩:=QV h;have h0:0<=j:=hc _ (by simp);have h1:j<xs.length:=hc _ (by simp);rw[heq] at ha;simp only[SR] at ha;have ao:=aA o;rw[ho] at ao;rcases ao with⟨_,rfl,_⟩|⟨_,b,cap,c,t,h2,h3,h4,h5,h6⟩
    .simp at h1;omega
    .refine⟨.pointer (some ⟨b,0+j.toNat*size,none⟩),?_,?_⟩
     .simp only[Q7,ha.1,h2,ej];rw[z7 ⟨h0,h1⟩]
     .simp only[SR];exact⟨b,_,cap,h2,h0,h1,by simp⟩
   .cases h
  .cases h
 .rename_i o w k' j heq hj;have ej:=Jg hj (aj i);rw[heq] at ha;simp only[SR] at ha;have ao:=aA o;split at h
  .rename_i ty q k xs nl hole ho;rw[ho] at ao;split at h
   .have key:(if k.size=size then some ([0<=j,j<xs.length],SV.dd o (.el j 0 size)) else none)=some (cs,v)->QOk P B pl tb M (.indexAddr size x i) evV v:=by
     intro h;split at h
     .rename_i aF;obtain⟨rfl,rfl⟩:=QV h;have h0:0<=j:=hc _ (by simp);have h1:j<xs.length:=hc _ (by simp);obtain⟨is,_,_,h2,_⟩:=ao;rcases h2 with⟨rfl,_⟩|⟨b,cap,c,t,js,h2,_⟩
      .simp at h1;omega
      .refine⟨.pointer (some ⟨b,0+j.toNat*size,none⟩),?_,?_⟩
       .simp only[Q7,ha.1,h2,ej];rw[z7 ⟨h0,h1⟩]
       .simp only[SR,DR];exact⟨b,_,cap,h2,h0,h1,by simp⟩
     .cases h
    split at h
    .exact key h
    .exact key h
   .rename_i kr l ir;split at h
    .rename_i aF;obtain⟨rfl,rfl⟩:=QV h;have h0:0<=j:=hc _ (by simp);have h1:j<l.length:=hc _ (by simp);obtain⟨uG,bC,b,len,cap,c,e,t,g1,g2,g3,g4,g5⟩:=ha;obtain⟨r,o',rc,bL,re,sC,rt,k1,k2,k3,k4⟩:=A6 uG (j:=j.toNat) (by omega);obtain rfl:o'=0:=bC _ _ _ k1;obtain rfl:=Q11 k2;refine⟨.pointer (some ⟨r,0+j.toNat*size,none⟩),?_,?_⟩
     .simp only[Q7,k1,ej];rw[z7 ⟨h0,h1⟩]
     .simp only[SR,DR];exact⟨b,len,cap,c,e,t,r,l.length,rc,bL,re,rt,g1,g2,g3,g4,by rw[g5,k1],h0,h1,rfl,k2,by omega,by rw[x5] at k4;exact k4,by simp[aF]⟩
    .cases h
   .rename_i kr l;split at h
    .rename_i aF;obtain⟨rfl,rfl⟩:=QV h;have h0:0<=j:=hc _ (by simp);have h1:j<l.length:=hc _ (by simp);obtain⟨r,o',rc,bL,re,sC,rt,k1,k2,k3,k4⟩:=A6 (show KC (Xy (pl o)) (.list kr) l [evV x] from ha) (j:=j.toNat) (by omega);refine⟨.pointer (some ⟨r,o'+j.toNat*size,none⟩),?_,?_⟩
     .simp only[Q7,k1,ej];rw[z7 ⟨h0,h1⟩]
     .simp only[SR,DR];exact⟨r,o',bL,re,sC,rt,h0,h1,k2,by simp[aF],k3,k4⟩
    .cases h
   .cases h
  .cases h
 .rename_i o lo n sz k' j heq hj;have ej:=Jg hj (aj i);split at h
  .rename_i ty k xs nl ho;split at h
   .rename_i aF;obtain⟨aF,rfl⟩:=aF;obtain⟨rfl,rfl⟩:=QV h;have h0:0<=j:=hc _ (by simp);have h1:j<n:=hc _ (by simp);rw[heq] at ha;simp only[SR] at ha;rcases ha with⟨rfl,rfl,_,_⟩|⟨b,len,cap,au,h2,h3,h4,h5⟩
    .simp at h1;omega
    .refine⟨.pointer (some ⟨b,lo*sz+j.toNat*sz,none⟩),?_,?_⟩
     .simp only[Q7,h5,ej];rw[z7 ⟨h0,h1⟩]
     .simp only[SR];refine⟨b,len,cap,h2,by omega,by omega,?_⟩;have:((lo:Int)+j).toNat=lo+j.toNat:=by omega
      rw[this,zH,zK]
   .cases h
  .cases h
 .rename_i k l k' j heq hj;have ej:=Jg hj (aj i);split at h
  .rename_i aF;obtain⟨rfl,rfl⟩:=QV h;have h0:0<=j:=hc _ (by simp);have h1:j<l.length:=hc _ (by simp);rw[heq] at ha;simp only[SR,KC] at ha;obtain⟨v',e,hs⟩:=ha;obtain e:=(zR e).1;rcases hs with⟨rfl,_⟩|⟨b,o,cap,c,e',wr,t,h2,h3,h4,h5,h6,h7⟩
   .simp at h1;omega
   .refine⟨.pointer (some ⟨b,o+j.toNat*size,none⟩),?_,?_⟩
    .simp only[Q7,e,h2,ej];rw[z7 ⟨h0,h1⟩]
    .simp only[SR];exact⟨b,o,c,e',wr,t,h0,h1,h4,by rw[aF,zK],h6,h7⟩
  .cases h
 .cases h
theorem Q_ (aj:∀ x,SR P B pl tb (ev x) (evV x)) {x:Option Operand}{d:Nat}{a:Int}(h:WB ev x d=some a) (ha:0<=a):J8 evV x d=some a.toNat:=by
 cases x with
 |none=>obtain rfl:=osj h;simp[J8]
 |some x =>simp only[WB,zw] at h;obtain⟨⟨k,a'⟩,h1,h2⟩:=h;simp only at h2;subst h2;simp only[J8,Jg h1 (aj x),ha,zB]
theorem Eg (aj:∀ x,SR P B pl tb (ev x) (evV x)) {x:Operand}{lo hi:Option Operand}(h:gq kt raw (.sliceStr x lo hi) ev own=some (cs,v)) (hc:∀ c∈cs,c):QOk P B pl tb M (.sliceStr x lo hi) evV v:=by
 simp only[gq] at h;split at h
 .rename_i s hs;have es:=US hs (aj x);split at h
  .rename_i a b h1 h2;obtain⟨rfl,rfl⟩:=QV h;have k0:0<=a:=hc _ (by simp);have k1:a<=b:=hc _ (by simp);have k2:b<=s.length:=hc _ (by simp);have e1:=Q_ (evV:=evV) aj h1 k0;have e2:=Q_ (evV:=evV) aj h2 (by omega);have jc:(ByteArray.mk s.toArray).size=s.length:=by simp[ByteArray.size]
   refine⟨.string ((ByteArray.mk s.toArray).extract a.toNat b.toNat),?_,?_⟩
   .simp only[Q7,es,jc,e1,e2];rw[z7 (by omega)]
   .have:(ByteArray.mk s.toArray).extract a.toNat b.toNat=⟨((s.drop a.toNat).take (b-a).toNat).toArray⟩:=by
     apply ByteArray.ext;simp[ByteArray.data_extract];rw[show (b-a).toNat=b.toNat-a.toNat by omega]
    rw[this];exact AR _
  .cases h
 .cases h
theorem Z2j (aj:∀ x,SR P B pl tb (ev x) (evV x)) (aA:∀ d,OR P B pl tb M (pl d) (Q9 own d)) {x:Operand}(h:gq kt raw (.len x) ev own=some (cs,v)):QOk P B pl tb M (.len x) evV v:=by
 simp only[gq] at h;split at h
 .rename_i n h1;obtain⟨rfl,rfl⟩:=QV h;obtain⟨a,cap,e⟩:=Ff aA h1 (aj x);exact⟨.int .i64 n,by simp only[Q7,e],X5 _ _⟩
 .cases h
theorem Q0n (aj:∀ x,SR P B pl tb (ev x) (evV x)) {x:Operand}(h:gq kt raw (.lenStr x) ev own=some (cs,v)):QOk P B pl tb M (.lenStr x) evV v:=by
 simp only[gq] at h;split at h
 .rename_i s h1;obtain⟨rfl,rfl⟩:=QV h;exact⟨.int .i64 s.length,by simp only[Q7,US h1 (aj x)];simp[ByteArray.size],X5 _ _⟩
 .cases h
theorem Z29 (aj:∀ x,SR P B pl tb (ev x) (evV x)) {x y:Operand}(h:gq kt raw (.max x y) ev own=some (cs,v)):QOk P B pl tb M (.max x y) evV v:=by
 simp only[gq] at h;split at h
 .rename_i k a k' b h1 h2;obtain⟨e1,e2⟩:=Dd aj h1 h2;split at h
  .rename_i hk;subst hk;obtain⟨rfl,rfl⟩:=QV h;exact⟨.int k (Q41 a b),by simp only[Q7,e1,e2,zB];rfl,X5 _ _⟩
  .cases h
 .cases h
theorem Q7y (aj:∀ x,SR P B pl tb (ev x) (evV x)) {x y z w:Operand}(h:gq kt raw (.max4 x y z w) ev own=some (cs,v)):QOk P B pl tb M (.max4 x y z w) evV v:=by
 simp only[gq] at h;split at h
 .rename_i k a k2 b k3 c k4 d h1 h2 h3 h4;obtain⟨e1,e2⟩:=Dd aj h1 h2;obtain⟨e3,e4⟩:=Dd aj h3 h4;split at h
  .rename_i hk;obtain⟨rfl,rfl,rfl⟩:=hk;obtain⟨rfl,rfl⟩:=QV h;exact⟨.int k (Q41 (Q41 (Q41 a b) c) d),by simp only[Q7,e1,e2,e3,e4,and_self,zB];rfl,X5 _ _⟩
  .cases h
 .cases h
theorem Z45 (aj:∀ x,SR P B pl tb (ev x) (evV x)) {x y:Operand}(h:gq kt raw (.min x y) ev own=some (cs,v)):QOk P B pl tb M (.min x y) evV v:=by
 simp only[gq] at h;split at h
 .rename_i k a k' b h1 h2;obtain⟨e1,e2⟩:=Dd aj h1 h2;split at h
  .rename_i hk;subst hk;obtain⟨rfl,rfl⟩:=QV h;exact⟨.int k (B9 a b),by simp only[Q7,e1,e2,zB];rfl,X5 _ _⟩
  .cases h
 .cases h
theorem EX (aj:∀ x,SR P B pl tb (ev x) (evV x)) {fn:Fn}{a b:List Operand}(h:gq kt raw (.makeFunc fn a b) ev own=some (cs,v)):QOk P B pl tb M (.makeFunc fn a b) evV v:=by
 cases fn with
 |func f =>obtain⟨rfl,rfl⟩:=QV h;refine⟨.func (.func f) (a.map evV).toArray (b.map evV).toArray,by simp only[Q7],?_⟩;simp only[SR];exact⟨_,_,rfl,SRs.map λx _=>aj x,SRs.map λx _=>aj x⟩
 |_=>cases h
theorem SlRel.sl {h:Heap}{sz:Nat}{α:Type}{R:α->List Value->Prop}{l:List α}{v:Value}(hs:SlRel h sz R l v):∃ cs a cap,h.sl sz v=some cs/\Rows R l cs/\v=.slice a l.length cap:=by
 rcases hs with⟨rfl,rfl⟩|⟨i,o,cap,c,e,wr,t,rfl,h2,h3,h4,h5,h6⟩
 .exact⟨[],_,_,rfl,.nil,rfl⟩
 .refine⟨_,_,cap,?_,h6,rfl⟩;simp only[Heap.sl,h3];rw[z7 ⟨h4,h5⟩]
theorem FR {h:Heap}:∀ {xs:List Int}{cs:List Value},Rows (KC h (.i .u8)) xs cs->H4 cs=some ⟨(xs.map λx=>x.toNat.toUInt8).toArray⟩:=by
 have key:∀ {xs:List Int}{cs:List Value},Rows (KC h (.i .u8)) xs cs->cs.mapM Cl=some (xs.map λx=>x.toNat.toUInt8):=λ{xs cs} hr=>by
  induction hr with
  |nil=>rfl
  |@cons x xs c cs hx _ ih =>simp only[KC] at hx;subst hx;simp only[List.singleton_append,xp,Cl,ih,zJ];rfl
 intro xs cs hr;simp only[H4,key hr,z_]
theorem Fg (aj:∀ x,SR P B pl tb (ev x) (evV x)) (hle:B.Le M) (aA:∀ d,OR P B pl tb M (pl d) (Q9 own d)) {x:Operand}(h:gq kt raw (.ext (.bytesStr x)) ev own=some (cs,v)):QOk P B pl tb M (.ext (.bytesStr x)) evV v:=by
 simp only[gq] at h;split at h
 .rename_i xs h1;obtain⟨rfl,rfl⟩:=QV h;obtain⟨cs,a,cap,h2,h3,h4⟩:=(Y1 hle aA h1 (aj x)).sl;refine⟨.string ⟨(Q4r xs).toArray⟩,?_,AR _⟩;have aF:Kind.size (.i .u8)=1:=rfl;rw[h4,aF] at h2;simp only[Q7,Zg,h4,h2,FR h3];rfl
 .cases h
theorem Q1f (aj:∀ x,SR P B pl tb (ev x) (evV x)) (aA:∀ d,OR P B pl tb M (pl d) (Q9 own d)) {neg:Bool}{x y:Operand}(h:gq kt raw (.ext (.eqNil 0 neg x y)) ev own=some (cs,v)) (hc:∀ c∈cs,c):QOk P B pl tb M (.ext (.eqNil 0 neg x y)) evV v:=by
 have hx:=aj x;have hy:=aj y;simp only[gq] at h;split at h
 .rename_i h1 h2;obtain⟨rfl,rfl⟩:=QV h;rw[h1] at hx;rw[h2] at hy;simp only[SR] at hx hy;exact⟨.bool (!neg),by simp only[Q7,Zg,hx,hy,Jf];cases neg<;>rfl,ZZ _⟩
 .rename_i o f h1 h2;obtain⟨rfl,rfl⟩:=QV h;rw[h1] at hx;rw[h2] at hy;simp only[SR] at hx hy;obtain⟨b,_,hb⟩:=hx;exact⟨.bool neg,by simp only[Q7,Zg,hb,hy,Jf];cases neg<;>rfl,ZZ _⟩
 .rename_i l f h1 h2;obtain⟨rfl,rfl⟩:=QV h;rw[h1] at hx;rw[h2] at hy;simp only[SR] at hx hy;obtain⟨b,c,e,wr,t,_,hb,_⟩:=hx;exact⟨.bool neg,by simp only[Q7,Zg,hb,hy,Jf];cases neg<;>rfl,ZZ _⟩
 .rename_i o c h1 h2;obtain⟨rfl,rfl⟩:=QV h;rw[h1] at hx;rw[h2] at hy;simp only[SR,DR] at hx hy;rcases hx with⟨rfl,hb⟩|⟨rfl,b,_,hb⟩
  .exact⟨.bool (bif neg then false else true),by simp only[Q7,Zg,hb,hy,Jf];cases neg<;>rfl,ZZ _⟩
  .exact⟨.bool (bif neg then true else false),by simp only[Q7,Zg,hb,hy,Jf];cases neg<;>rfl,ZZ _⟩
 .rename_i o c o' f h1 h2;split at h
  .rename_i l u ho;split at h
   .rename_i he;obtain⟨rfl,rfl⟩:=he;obtain⟨rfl,rfl⟩:=QV h;have uH:c=true:=hc _ (by simp);rw[h1] at hx;rw[h2] at hy;simp only[SR,DR] at hx hy;have ao:=aA o;rw[ho] at ao;obtain⟨i,cc,e,t,hp,hg,_⟩:=ao;obtain⟨b',bw,hy⟩:=hy;rcases hx with⟨kW,_⟩|⟨_,b,dD,hb⟩
    .rw[uH] at kW;cases kW
    .rw[hp] at bw dD;simp only[phd,Value.pointer.injEq,x6] at bw dD;have e1:i=b':=by injection bw
     have e2:i=b:=by injection dD
     subst e1;subst e2;exact⟨.bool (!neg),by simp only[Q7,Zg,hb,hy,Jf,hg,Option.isSome_some,and_self,zB];cases neg<;>rfl,ZZ _⟩
   .cases h
  .cases h
 .cases h
theorem Ei (aj:∀ x,SR P B pl tb (ev x) (evV x)) (aA:∀ d,OR P B pl tb M (pl d) (Q9 own d)) {x:Operand}(h:gq kt raw (.ext (.toUnsafe x)) ev own=some (cs,v)):QOk P B pl tb M (.ext (.toUnsafe x)) evV v:=by
 have hx:=aj x;simp only[gq] at h;split at h
 .rename_i o f h1;split at h
  .rename_i l u ho;split at h
   .rename_i hf;obtain⟨rfl,rfl⟩:=QV h;rw[h1] at hx;have qW:=hx;simp only[SR] at hx;obtain⟨b,hp,hv⟩:=hx;have ao:=aA o;rw[ho] at ao;obtain⟨i,c,e,t,dD,hg,hl,_⟩:=ao;rw[hp] at dD;have e1:b=i:=by simpa using dD
    subst e1;refine⟨.pointer (some ⟨b,f,none⟩),?_,by rw[<-hv];exact qW⟩;simp only[Q7,Zg,hv,hg];rw[z7 (by rw[<-hl.length];exact hf)]
   .cases h
  .cases h
 .cases h
theorem SF (aj:∀ x,SR P B pl tb (ev x) (evV x)) (aA:∀ d,OR P B pl tb M (pl d) (Q9 own d)) {u size:Nat}{x:Operand}(h:gq kt raw (.ext (.fromUnsafe u size x)) ev own=some (cs,v)):QOk P B pl tb M (.ext (.fromUnsafe u size x)) evV v:=by
 have hx:=aj x;simp only[gq] at h;split at h
 .rename_i o f h1;split at h
  .rename_i l t0 ho;split at h
   .rename_i hf;obtain⟨rfl,rfl,aF⟩:=hf;obtain⟨rfl,rfl⟩:=QV h;rw[h1] at hx;have qW:=hx;simp only[SR] at hx;obtain⟨b,hp,hv⟩:=hx;have ao:=aA o;rw[ho] at ao;obtain⟨i,c,e,t,dD,hg,hl,hu⟩:=ao;obtain⟨he,ht⟩:=hu _ rfl;subst ht;rw[hp] at dD;have e1:b=i:=by simpa using dD
    subst e1;refine⟨.pointer (some ⟨b,0,none⟩),?_,by rw[<-hv];exact qW⟩;simp only[Q7,Zg,hv,hg];rw[z7 ⟨trivial,he,by rw[<-hl.length];exact aF⟩]
   .cases h
  .cases h
 .cases h
theorem Cf (aj:∀ x,SR P B pl tb (ev x) (evV x)) (aA:∀ d,OR P B pl tb M (pl d) (Q9 own d)) {x:Operand}(h:gq kt raw (.ext (.sliceData x)) ev own=some (cs,v)) (hc:∀ c∈cs,c):QOk P B pl tb M (.ext (.sliceData x)) evV v:=by
 have hx:=aj x;simp only[gq] at h;split at h
 .rename_i h1;obtain⟨rfl,rfl⟩:=QV h;rw[h1] at hx;simp only[SR] at hx;exact⟨.pointer none,by simp only[Q7,Zg,hx],by simp[SR]⟩
 .rename_i o h1;split at h
  .rename_i ty k xs nl ho;obtain⟨rfl,rfl⟩:=QV h;have dB:nl=false->xs≠[]:=hc _ (by simp);rw[h1] at hx;simp only[SR] at hx;have ao:=aA o;rw[ho] at ao;rcases ao with⟨_,_,hp⟩|⟨jx,i,cap,c,t,hp,cM,hg,_⟩
   .refine⟨.pointer none,by simp only[Q7,Zg,hx.1,hp],?_⟩;simp only[SR,DR];exact .inl ⟨by rw[hp];rfl,trivial⟩
   .have az:=xx.2 (dB jx);refine⟨.pointer (some ⟨i,0,none⟩),?_,?_⟩
    .simp only[Q7,Zg,hx.1,hp,hg,Option.isSome_some,and_true];rw[z7 (by omega)]
    .simp only[SR,DR];exact .inr ⟨i,xs.length,cap,by rw[hp];rfl,az,rfl⟩
  .cases h
 .cases h
theorem Ph {size:Nat}{i o len cap l h:Nat}{c:List Value}{e:El}{wr t:Bool}(hg:M.get i=some (.cells c e wr t)) (he:e.sz=size) (h1:l<=h) (h2:h<=cap) :
  WU size M (.slice (some ⟨i,o,none⟩) len cap) l h none=some (.slice (some ⟨i,o+l*size,none⟩) (h-l) (cap-l),M):=by
 simp only[WU,hg];rw[z7 ⟨he,h1,h2⟩]
theorem Q8s {H:Heap}{k:Kind}{l:List k.T}{v:Value}(h:KC H (.list k) l [v]):∃ a c,v=.slice a l.length c:=by
 obtain⟨v',e,hs⟩:=h;obtain rfl:=(zR e).1;rcases hs with⟨rfl,rfl⟩|⟨i,o,cap,c,e',wr,t,rfl,_⟩
 .exact⟨_,_,rfl⟩
 .exact⟨_,_,rfl⟩
theorem AE {H:Heap}(hle:H.Le M) {k:Kind}{l:List k.T}{v:Value}{a b:Nat}(h:KC H (.list k) l [v]) (k1:a<=b) (k2:b<=l.length) :
  ∃ u,WU k.size M v a b none=some (u,M)/\KC H (.list k) ((l.drop a).take (b-a)) [u]:=by
 obtain⟨v',e,hs⟩:=h;obtain rfl:=(zR e).1;rcases hs with⟨rfl,rfl⟩|⟨i,o,cap,c,e',wr,t,rfl,h4,h5,h6,h7,h8⟩
 .simp only[List.length_nil] at k2;have za:a=0:=by omega
  have zb:b=0:=by omega
  subst za;subst zb;exact⟨.slice none 0 0,by simp only[WU];rfl,_,rfl,.inl ⟨by simp,rfl⟩⟩
 .have hlen:((l.drop a).take (b-a)).length=b-a:=by simp;omega
  refine⟨.slice (some ⟨i,o+a*k.size,none⟩) (b-a) (cap-a),Ph (hle.2 _ _ h5) h6 (by omega) (by omega),_,rfl,.inr ⟨i,o+a*k.size,cap-a,c,e',wr,t,by rw[hlen],by rw[hlen];omega,h5,h6,?_,?_⟩⟩
  .rw[hlen];have:(a+(b-a))*k.size<=l.length*k.size:=zr _ (by omega);rw[zH] at this;omega
  .rw[hlen];have:=(h8.drop KC.q0f a).take KC.q0f (b-a);have e3:(((c.drop o).take (l.length*k.size)).drop (a*k.size)).take ((b-a)*k.size)=(c.drop (o+a*k.size)).take ((b-a)*k.size):=by
    apply zV;intro j;simp only[zO,zz];split
    .have:(a+(b-a))*k.size<=l.length*k.size:=zr _ (by omega);rw[zH] at this;rw[z7 (by omega),zt]
    .rfl
   rw[e3] at this;exact this
theorem Q7a (aj:∀ x,SR P B pl tb (ev x) (evV x)) (hle:B.Le M) (aA:∀ d,OR P B pl tb M (pl d) (Q9 own d)) {size:Nat}{x:Operand}{lo hi mx:Option Operand}(h:gq kt raw (.slice size x lo hi mx) ev own=some (cs,v)) (hc:∀ c∈cs,c):QOk P B pl tb M (.slice size x lo hi mx) evV v:=by
 have ha:=aj x;cases mx with
 |some m=>cases h
 |none =>
 simp only[gq] at h;split at h
 .rename_i o heq;rw[heq] at ha;simp only[SR] at ha;have ao:=aA o;split at h
  .rename_i ty k xs nl ho;rw[ho] at ao;split at h
   .rename_i aF;split at h
    .rename_i a b h1 h2;obtain⟨rfl,rfl⟩:=QV h;have k0:0<=a:=hc _ (by simp);have k1:a<=b:=hc _ (by simp);have k2:b<=xs.length:=hc _ (by simp);have e1:=Q_ (evV:=evV) (d:=0) aj h1 k0;have e2:=Q_ (evV:=evV) aj h2 (by omega);rcases ao with⟨_,rfl,h3⟩|⟨_,i,cap,c,t,h3,h4,h5,h6,h7⟩
     .simp only[List.length_nil] at k2 e2;have za:a.toNat=0:=by omega
      have zb:b.toNat=0:=by omega
      have zc:(b-a).toNat=0:=by omega
      refine⟨.slice none 0 0,?_,?_⟩
      .simp only[Q7,ha.1,h3,e1,e2,za,zb,WU];rfl
      .rw[za,zc];simp only[SR];exact .inl ⟨trivial,trivial,trivial,h3⟩
     .refine⟨.slice (some ⟨i,0+a.toNat*size,none⟩) (b.toNat-a.toNat) (cap-a.toNat),?_,?_⟩
      .simp only[Q7,ha.1,h3,e1,e2];exact Ph h5 aF (by omega) (by omega)
      .simp only[SR];refine .inr ⟨i,_,cap,cap-a.toNat,h3,by omega,by omega,?_⟩;rw[x3,show (b-a).toNat=b.toNat-a.toNat by omega]
    .cases h
   .cases h
  .cases h
 .rename_i o l0 n sz heq;rw[heq] at ha;simp only[SR] at ha;have ao:=aA o;split at h
  .rename_i ty k xs nl ho;rw[ho] at ao;split at h
   .rename_i aF;obtain⟨aF,rfl⟩:=aF;split at h
    .rename_i a b h1 h2;obtain⟨rfl,rfl⟩:=QV h;have k0:0<=a:=hc _ (by simp);have k1:a<=b:=hc _ (by simp);have k2:b<=n:=hc _ (by simp);have e1:=Q_ (evV:=evV) (d:=0) aj h1 k0;have e2:=Q_ (evV:=evV) aj h2 (by omega);rcases ha with⟨rfl,rfl,hv,hp⟩|⟨i,len,cap,au,h3,h4,h5,hv⟩
     .have za:a.toNat=0:=by omega
      have zb:b.toNat=0:=by omega
      have zc:(b-a).toNat=0:=by omega
      refine⟨.slice none 0 0,?_,?_⟩
      .simp only[Q7,hv,e1,e2,za,zb,WU];rfl
      .rw[za,zc];simp only[SR];exact .inl ⟨trivial,trivial,trivial,hp⟩
     .rcases ao with⟨_,_,h6⟩|⟨_,i',fl,c,t,h6,h7,h8,h9,bT⟩
      .rw[h3] at h6;cases h6
      .rw[h3] at h6;obtain⟨rfl,rfl,rfl⟩:=(by simpa using h6:i=i'/\len=xs.length/\cap=fl);refine⟨.slice (some ⟨i,l0*sz+a.toNat*sz,none⟩) (b.toNat-a.toNat) (au-a.toNat),?_,?_⟩
       .simp only[Q7,hv,e1,e2];exact Ph h8 aF (by omega) (by omega)
       .simp only[SR];refine .inr ⟨i,_,cap,au-a.toNat,h3,by omega,by omega,?_⟩;rw[zH,show (b-a).toNat=b.toNat-a.toNat by omega]
    .cases h
   .cases h
  .cases h
 .rename_i k l heq;rw[heq] at ha;simp only[SR] at ha;split at h
  .rename_i aF;split at h
   .rename_i a b h1 h2;obtain⟨rfl,rfl⟩:=QV h;have k0:0<=a:=hc _ (by simp);have k1:a<=b:=hc _ (by simp);have k2:b<=l.length:=hc _ (by simp);have e1:=Q_ (evV:=evV) (d:=0) aj h1 k0;have e2:=Q_ (evV:=evV) aj h2 (by omega);obtain⟨v',e⟩:=x8.1 (KC.length ha);obtain⟨u,g1,g2⟩:=AE hle (a:=a.toNat) (b:=b.toNat) ha (by omega) (by omega);obtain⟨n,cap,e3⟩:=Q8s ha;refine⟨u,?_,?_⟩
    .simp only[Q7,e3,e1,e2];rw[<-aF,<-e3];exact g1
    .simp only[SR];rw[show (b-a).toNat=b.toNat-a.toNat by omega];exact g2
   .cases h
  .cases h
 .rename_i o w heq;rw[heq] at ha;simp only[SR] at ha;have ao:=aA o;split at h
  .rename_i ty q k xs nl hole ho;rw[ho] at ao
   have key:∀ (k:Kind) (l:List k.T),KC (Xy (pl o)) (.list k) l [evV x]->(if k.size=size then (match WB ev lo 0,WB ev hi l.length with
     |some a,some b=>some ([0<=a,a<=b,b<=(l.length:Int)],SV.dd o (.inn k ((l.drop a.toNat).take (b-a).toNat)))
     |_,_=>none) else none)=some (cs,v)->QOk P B pl tb M (.slice size x lo hi none) evV v:=by
    intro k l ha h;split at h
    .rename_i aF;split at h
     .rename_i a b h1 h2;obtain⟨rfl,rfl⟩:=QV h;have k0:0<=a:=hc _ (by simp);have k1:a<=b:=hc _ (by simp);have k2:b<=l.length:=hc _ (by simp);have e1:=Q_ (evV:=evV) (d:=0) aj h1 k0;have e2:=Q_ (evV:=evV) aj h2 (by omega);obtain⟨u,g1,g2⟩:=AE (DP.le ao) (a:=a.toNat) (b:=b.toNat) ha (by omega) (by omega);obtain⟨n,cap,e3⟩:=(Pz ha).len;refine⟨u,?_,?_⟩
      .simp only[Q7,e3,e1,e2];rw[<-aF,<-e3];exact g1
      .simp only[SR,DR];rw[show (b-a).toNat=b.toNat-a.toNat by omega];exact g2
     .cases h
    .cases h
   split at h
   .exact key _ _ ha h
   .exact key _ _ ha.1 h
   .cases h
  .cases h
 .rename_i heq;rw[heq] at ha;simp only[SR] at ha;split at h
  .rename_i a b h1 h2;obtain⟨rfl,rfl⟩:=QV h;have k0:a=0:=hc _ (by simp);have k1:b=0:=hc _ (by simp);subst k0;subst k1;have e1:=Q_ (evV:=evV) (d:=0) aj h1 (Int.le_refl _);have e2:=Q_ (evV:=evV) (d:=0) aj h2 (Int.le_refl _);refine⟨.slice none 0 0,?_,?_⟩
   .simp only[Q7,ha,e1,e2,WU];rfl
   .simp only[SR]
  .cases h
 .cases h
theorem Q5w (aj:∀ x,SR P B pl tb (ev x) (evV x)) {neg:Bool}{x y:Operand}(aA:∀ d,OR P B pl tb M (pl d) (Q9 own d)) (h:gq kt raw (.ext (.eqNil 1 neg x y)) ev own=some (cs,v)) (hc:∀ c∈cs,c):QOk P B pl tb M (.ext (.eqNil 1 neg x y)) evV v:=by
 have ha:=aj x;have hb:=aj y;simp only[gq] at h;split at h
 .rename_i h1 h2;rw[h1] at ha;rw[h2] at hb;simp only[SR] at ha hb;obtain⟨rfl,rfl⟩:=QV h;refine⟨.bool (!neg),?_,ZZ _⟩;simp only[Q7,Zg,ha,hb,Jf];cases neg<;>rfl
 .rename_i o h1 h2;rw[h1] at ha;rw[h2] at hb;simp only[SR] at ha hb;have ao:=aA o;split at h
  .rename_i ty k xs nl ho;rw[ho] at ao;obtain⟨rfl,rfl⟩:=QV h;refine⟨.bool (bif neg then !nl else nl),?_,ZZ _⟩;rcases ao with⟨rfl,_,h3⟩|⟨rfl,i,cap,c,t,h3,_⟩
   .simp only[Q7,Zg,ha.1,h3,hb,Jf];cases neg<;>rfl
   .simp only[Q7,Zg,ha.1,h3,hb,Jf];cases neg<;>rfl
  .cases h
 .rename_i o h1 h2;rw[h1] at ha;rw[h2] at hb;simp only[SR] at ha hb;have ao:=aA o;split at h
  .rename_i ty q k xs nl hole ho;rw[ho] at ao;obtain⟨rfl,rfl⟩:=QV h;refine⟨.bool (bif neg then !nl else nl),?_,ZZ _⟩;obtain⟨is,_,_,g2,_,_,g5⟩:=ao;obtain⟨e1,_⟩:=ha;rcases g2 with⟨_,h3,_⟩|⟨i,cap,c,t,js,h3,_⟩
   .obtain rfl:=g5.2 h3;simp only[Q7,Zg,e1,h3,hb,Jf];cases neg<;>rfl
   .have hn:nl=false:=by
     cases nl with
     |false=>rfl
     |true=>rw[g5.1 rfl] at h3;cases h3
    subst hn;simp only[Q7,Zg,e1,h3,hb,Jf];cases neg<;>rfl
  .cases h
 .rename_i k l h1 h2;rw[h1] at ha;rw[h2] at hb;simp only[SR] at ha hb;obtain⟨rfl,rfl⟩:=QV h;have hl:=hc (l≠[]) (by simp);refine⟨.bool neg,?_,ZZ _⟩;obtain⟨u,hu,hs⟩:=ha;obtain rfl:=(zR hu).1;rcases hs with⟨e,_⟩|⟨i,o,cap,c,e,wr,t,h3,_⟩
  .exact absurd e hl
  .simp only[Q7,Zg,h3,hb,Jf];cases neg<;>rfl
 .cases h
theorem OP (aj:∀ x,SR P B pl tb (ev x) (evV x)) {mk:MK}{z:Value}{ok:Bool}{x i:Operand}(_hle:B.Le M) (aA:∀ d,OR P B pl tb M (pl d) (Q9 own d)) (h:gq kt raw (.ext (.lookup mk z ok x i)) ev own=some (cs,v)):QOk P B pl tb M (.ext (.lookup mk z ok x i)) evV v:=by
 have ha:=aj x;simp only[gq] at h;split at h
 .rename_i o h1;rw[h1] at ha;simp only[SR] at ha;have ao:=aA o;split at h
  .rename_i kk vk m ho;rw[ho] at ao;obtain⟨id,es,clock,h2,h3,h4⟩:=ao;split at h
   .rename_i cD;obtain⟨cD,hz⟩:=cD;split at h
    .rename_i key bG;have hk:=Mu bG (aj i) QE;have bR:=MO cD hk;have ae:=MR.keys cD h4.1;have qX:KV B vk vk.dflt z:=BL hz;have aH:M.mapAt id=some (es,clock,true):=by simp[Heap.mapAt,h3]
     have aL:=MR.find cD hk qX h4.1
     have base:∀ u,(match Qj (evV i) es with
      |some e=>some (if ok then Value.tuple #[e.2.1,.bool true] else e.2.1,M)
      |none=>some (if ok then .tuple #[z,.bool false] else z,M))=some (u,M)->Q7 (.ext (.lookup mk z ok x i)) evV M=some (u,M):=λu hu=>by
      simp only[Q7,Zg,bR,zB,ha.1,h2,aH,ae];exact hu
     cases ok with
     |true =>
      simp only[zB] at h;obtain⟨rfl,rfl⟩:=QV h;rcases aL with⟨e,k1,k2,k3⟩|⟨k1,k2,k3⟩
      .refine⟨.tuple #[e.2.1,.bool true],base _ (by rw[k1];rfl),?_⟩;simp only[SR];refine⟨[e.2.1,.bool true],rfl,?_⟩;simp only[SRs,SR];exact⟨_,_,rfl,JE k3,_,_,rfl,by simp[KC,k2],rfl⟩
      .refine⟨.tuple #[z,.bool false],base _ (by rw[k1];rfl),?_⟩;simp only[SR];refine⟨[z,.bool false],rfl,?_⟩;simp only[SRs,SR];exact⟨_,_,rfl,by rw[k3];exact JE qX,_,_,rfl,by simp[KC,k2],rfl⟩
     |false =>
      simp only[zC,if_false] at h;obtain⟨rfl,rfl⟩:=QV h;rcases aL with⟨e,k1,k2,k3⟩|⟨k1,k2,k3⟩
      .exact⟨e.2.1,base _ (by rw[k1];rfl),JE k3⟩
      .exact⟨z,base _ (by rw[k1];rfl),by rw[k3];exact JE qX⟩
    .cases h
   .cases h
  .cases h
 .cases h
theorem Q1s (aj:∀ x,SR P B pl tb (ev x) (evV x)) {x:Operand}(aA:∀ d,OR P B pl tb M (pl d) (Q9 own d)) (h:gq kt raw (.ext (.lenMap x)) ev own=some (cs,v)):QOk P B pl tb M (.ext (.lenMap x)) evV v:=by
 have ha:=aj x;simp only[gq] at h;split at h
 .rename_i o h1;rw[h1] at ha;simp only[SR] at ha;have ao:=aA o;split at h
  .rename_i kk vk m ho;rw[ho] at ao;obtain⟨id,es,clock,h2,h3,h4⟩:=ao;obtain⟨rfl,rfl⟩:=QV h;have aH:M.mapAt id=some (es,clock,true):=by simp[Heap.mapAt,h3]
   refine⟨.int .i64 es.length,by simp only[Q7,Zg,ha.1,h2,aH],?_⟩;rw[h4.1.length];exact X5 _ _
  .cases h
 .cases h
theorem MR.at {kk vk:Kind}:∀ {m:List (kk.T×vk.T)}{es:List JD}{r:Nat}{e:JD},MR B kk vk m es->es[r]?=some e->∃ h:r<m.length,KV B kk m[r].1 e.1/\KV B vk m[r].2 e.2.1
 |[],es,r,e,h,he=>by simp only[MR] at h;subst h;simp at he
 |x::m,es,r,e,h,he=>by
  obtain⟨e',bZ,rfl,h1,h2,h3⟩:=h;cases r with
  |zero=>simp only[List.getElem?_cons_zero,x6] at he;subst he;exact⟨by simp,h1,h2⟩
  |succ r =>obtain⟨k1,k2,k3⟩:=MR.at h3 (by simpa using he);exact⟨by simpa using k1,k2,k3⟩
theorem Dy:∀ {k:Kind},k.keyk=true->∀ {x:k.T}{cs:List Value},KC B k x cs->cs.all QN=true
 |.pair a b,hk,x,cs,h=>by simp only[Kind.keyk,z6] at hk;obtain⟨c1,c2,rfl,h1,h2⟩:=h;rw[List.all_append,Dy hk.1 h1,Dy hk.2 h2];rfl
 |.i _,_,x,cs,h=>by simp only[KC] at h;subst h;rfl
 |.bo,_,x,cs,h=>by simp only[KC] at h;subst h;rfl
 |.st,_,x,cs,h=>by simp only[KC] at h;subst h;rfl
 |.list _,hk,_,_,_=>by cases hk
theorem Lb {k:Kind}(hk:k.keyk=true) {x:k.T}{v:Value}(h:KV B k x v):Vx v=true:=by
 rcases h with⟨ho,h⟩|⟨ho,cs,rfl,h⟩
 .have:=Dy hk h;rw[zW,z6] at this;have hp:=this.1;cases v<;>first|exact hp|cases hp
 .show cs.toArray.toList.all QN=true;exact Dy hk h
theorem Df {es:List JD}{clock:Nat}(h:SOk es clock) {r r':Nat}{e e':JD}(h1:es[r]?=some e) (h2:es[r']?=some e') (he:e.2.2=e'.2.2):r=r':=by
 obtain⟨k1,rfl⟩:=zg.1 h1;obtain⟨k2,rfl⟩:=zg.1 h2;have:=h.1;rw[List.nodup_iff_pairwise_ne,List.pairwise_iff_getElem] at this;rcases Nat.lt_trichotomy r r' with ah|ah|ah
 .exact absurd (by rw[xS,xS];exact he) (this r r' (by simpa using k1) (by simpa using k2) ah)
 .exact ah
 .exact absurd (by rw[xS,xS];exact he.symm) (this r' r (by simpa using k2) (by simpa using k1) ah)
theorem E_ {es:List JD}{clock:Nat}(h:SOk es clock) {r:Nat}{e:JD}(h1:es[r]?=some e):es.find? (λe'=>e'.2.2==e.2.2)=some e:=by
 obtain⟨k1,rfl⟩:=zg.1 h1;rw[List.find?_eq_some_iff_getElem];refine⟨by simp,r,k1,rfl,λj hj=>?_⟩;have bV:j<es.length:=by omega
 simp only[Bool.not_eq_true',xG];intro he;have:=Df h (z1 bV) h1 he;omega
theorem Q6b (aj:∀ x,SR P B pl tb (ev x) (evV x)) (hle:B.Le M) (aA:∀ d,OR P B pl tb M (pl d) (Q9 own d)) {x:Operand}(h:gq kt raw (.ext (.entry x)) ev own=some (cs,v)) (hc:∀ c∈cs,c):QOk P B pl tb M (.ext (.entry x)) evV v:=by
 simp only[gq] at h;split at h
 .rename_i o f h1;split at h
  .rename_i kk vk m dn ho;split at h
   .rename_i ak;obtain⟨rfl,hk,hv⟩:=ak;obtain⟨rfl,rfl⟩:=QV h;have ox:dn≠[]:=hc _ (by simp);have e1:=aj x;rw[h1] at e1;simp only[SR] at e1;obtain⟨b,e2,e3⟩:=e1;have ao:=aA o;rw[ho] at ao;obtain⟨j,i,es,clock,wr,seen,h2,h3,h4,h5,h6⟩:=ao;rw[h2] at e2;obtain rfl:j=b:=by simpa using e2
    have bq:0<dn.length:=xx.2 ox;have dV:dn[dn.length-1]?=some (dn.getLastD 0):=by rw[List.getLastD_eq_getLast?,List.getLast?_eq_getElem?];rw[z1 (show dn.length-1<dn.length by omega)];rfl
    obtain⟨e,iv,gS⟩:=h6.2 _ _ dV;have fe:seen.getLast?=some e.2.2:=by rw[List.getLast?_eq_getElem?,h6.1];exact gS
    obtain⟨hr,k1,k2⟩:=MR.at h5.1 iv;have k2:=k2.kc hv;have aH:M.mapAt i=some (es,clock,wr):=by simp[Heap.mapAt,hle.2 _ _ h4]
    have df:=E_ h5.2 iv;refine⟨.tuple #[e.1,e.2.1],?_,?_⟩
    .simp only[Q7,Zg,e3,h3,aH,fe,df,zB];rw[z7 (Lb hk k1)]
    .simp only[SR,SRs];refine⟨[e.1,e.2.1],rfl,e.1,[e.2.1],rfl,?_,e.2.1,[],rfl,?_,rfl⟩
     .have:m.getD (dn.getLastD 0) (kk.dflt,vk.dflt)=m[dn.getLastD 0]:=by rw[zd,z1 hr];rfl
      rw[this];exact JE k1
     .have:m.getD (dn.getLastD 0) (kk.dflt,vk.dflt)=m[dn.getLastD 0]:=by rw[zd,z1 hr];rfl
      rw[this];exact k2
   .cases h
  .cases h
 .cases h
theorem S1 (aj:∀ x,SR P B pl tb (ev x) (evV x)) (gL:∀ c,evV (.const c)=c) (hle:B.Le M) (aA:∀ d,OR P B pl tb M (pl d) (Q9 own d)) {o:VOp}(h:gq kt raw o ev own=some (cs,v)) (hc:∀ c∈cs,c):QOk P B pl tb M o evV v:=by
 cases o with
 |move x=>obtain⟨rfl,rfl⟩:=QV h;exact⟨evV x,rfl,aj x⟩
 |arith=>exact Q59 aj h hc
 |div=>exact Z2e aj h hc
 |bits=>exact Q9j aj h
 |shift=>exact Q6m aj h hc
 |cmp=>exact Z3e aj h
 |str=>exact Z2i aj h hc
 |eqB=>exact Z44 aj h
 |un=>exact Z67 aj h hc
 |convI=>exact Q6o aj h hc
 |convS=>exact Q66 aj h
 |build=>exact Q5z aj h
 |load=>exact Q89 aj hle aA h
 |fieldAddr=>exact Cj aj h
 |field=>exact Q65 aj h
 |indexAddr=>exact Cu aj hle aA h hc
 |indexAddrArr=>exact TD aj gL h
 |indexStr=>exact EH aj h hc
 |indexArr=>exact EC aj gL h
 |slice=>exact Q7a aj hle aA h hc
 |sliceStr=>exact Eg aj h hc
 |len=>exact Z2j aj aA h
 |lenStr=>exact Q0n aj h
 |max=>exact Z29 aj h
 |max4=>exact Q7y aj h
 |min=>exact Z45 aj h
 |makeFunc=>exact EX aj h
 |extract=>exact IK aj h
 |nilCheck=>exact EV aj h
 |ext x =>
  cases x with
  |eqNil k neg a b =>
   match k with
   |1=>exact Q5w aj aA h hc
   |0=>exact Q1f aj aA h hc
   |(n+2)=>cases h
  |eqAgg n s a b=>exact Q6n aj h
  |toUnsafe a=>exact Ei aj aA h
  |fromUnsafe u size a=>exact SF aj aA h
  |sliceData a=>exact Cf aj aA h hc
  |bytesStr a=>exact Fg aj hle aA h
  |lookup=>exact OP aj hle aA h
  |lenMap=>exact Q1s aj aA h
  |entry a=>exact Q6b aj hle aA h hc
  |_=>cases h
 |_=>cases h
end
end
end Go.V
namespace Go.V
open Go
theorem Z61 {α:Type}{l:List α}(h:¬ l=[]) (b:Bool):(l.isEmpty&&b)=false:=by cases l with|nil=>exact absurd rfl h|cons _ _=>rfl
theorem Z3h {α:Type}{l:List α}(h:¬ l=[]):l.isEmpty=false:=by cases l with|nil=>exact absurd rfl h|cons _ _=>rfl
theorem VQ {c vs:List Value}{o:Nat}(h:o+vs.length<=c.length):Yq c o vs=c.take o++vs++c.drop (o+vs.length):=by
 apply zV;intro k;rcases zl k o with hk|hk
 .rw[Yd vs c o k (.inl hk),zZ,xn (by simp;omega),zO,z7 hk]
 .rcases zl k (o+vs.length) with av|av
  .have:=Rw vs c o (k-o) h (by omega);rw[show o+(k-o)=k by omega] at this;rw[this,zZ,xq (by simp;omega),xn (by simp;omega)];congr 1;simp;omega
  .rw[Yd vs c o k (.inr av),xq (by simp;omega),zz];congr 1;simp;omega
theorem AQ (us c:List Value) {m p n off:Nat}(h1:off+us.length<=n) (h2:p+n<=m) (h3:m<=c.length) :
  (Yq c (p+off) us).take m=(c.take m).take p++Yq (((c.take m).drop p).take n) off us++(c.take m).drop (p+n):=by
 have l1:(((c.take m).drop p).take n).length=n:=by simp;omega
 have bN:∀ q,q<n->(((c.take m).drop p).take n)[q]?=c[p+q]?:=λq hq=>by rw[zO,z7 hq,zz,zO,z7 (by omega)]
 generalize ((c.take m).drop p).take n=row at l1 bN;have l2:((c.take m).take p).length=p:=by simp;omega
 have l3:(Yq row off us).length=n:=by rw[JT,l1]
 have g2:∀ q,q<p->((c.take m).take p)[q]?=c[q]?:=λq hq=>by rw[zO,z7 hq,zO,z7 (by omega)]
 generalize (c.take m).take p=pre at l2 g2;apply zV;intro j;rw[zO,zZ];by_cases hj:j<m
 .rw[z7 hj];rcases zl j p with a1|a1
  .rw[Yd us c _ j (.inl (by omega)),xn (by omega),g2 j a1]
  .rw[xq (by omega),l2];rcases zl j (p+n) with a2|a2
   .rw[xn (by omega)];rcases zl (j-p) off with a3|a3
    .rw[Yd us c _ j (.inl (by omega)),Yd us _ _ _ (.inl a3),bN _ (by omega)];congr 1;omega
    .rcases zl (j-p) (off+us.length) with a4|a4
     .have b1:=Rw us c (p+off) (j-(p+off)) (by omega) (by omega);have b2:=Rw us row off (j-(p+off)) (by omega) (by omega);rw[show p+off+(j-(p+off))=j by omega] at b1;rw[show off+(j-(p+off))=j-p by omega] at b2;rw[b1,b2]
     .rw[Yd us c _ j (.inr (by omega)),Yd us _ _ _ (.inr a4),bN _ (by omega)];congr 1;omega
   .rw[Yd us c _ j (.inr (by omega)),xq (by omega),zz,zO,l3,z7 (by omega)];congr 1;omega
 .rw[z8 hj,xq (by omega),xq (by omega),zz,zO,z8 (by omega)]
theorem Heap.Le.push {B M:Heap}(h:B.Le M) (b:Blk):B.Le (M.push b) :=
 ⟨by have:=h.1;simp;omega,λi b' hb=>by rw[Heap.q0i _ _ (M.lt (h.2 i b' hb))];exact h.2 i b' hb⟩
theorem Heap.Le.upd {B M:Heap}(h:B.Le M) {i:Nat}(hi:B.get i=none) (b:Blk):B.Le (M.upd i b) :=
 ⟨by simpa using h.1,λj b' hb=>by
  have:j≠i:=λe=>by subst e;rw[hi] at hb;cases hb
  rw[Heap.q0b _ _ this];exact h.2 j b' hb⟩
theorem Heap.Le.kill {B M:Heap}(h:B.Le M) {i:Nat}(hi:B.get i=none):B.Le (M.kill i) :=
 ⟨by simpa using h.1,λj b' hb=>by
  have:j≠i:=λe=>by subst e;rw[hi] at hb;cases hb
  rw[Heap.q0d _ this];exact h.2 j b' hb⟩
theorem Heap.Le.fresh {B M:Heap}(h:B.Le M):B.get M.n=none:=B.wf _ h.1
section
variable {P:Program}{B F:Heap}{pl:Nat->Value}{tb:Nat->Option Bool}{s:St}{env:Env}{M:Heap}
theorem OR.q0w {p:Value}{b:OB}(h:OR P B pl tb M p b) (hl:b.live=true) {i:Nat}(hi:Oid p i):i<M.n:=by
 cases b with
 |dead=>cases hl
 |lst ty k xs nl =>
  rcases h with⟨_,_,rfl⟩|⟨_,i',cap,c,t,rfl,_,h3,_⟩
  .cases hi
  .obtain rfl:=osj hi;exact M.lt h3
 |cells l u=>obtain⟨i',c,e,t,rfl,h2,_⟩:=h;obtain rfl:=osj hi;exact M.lt h2
 |map kk vk m=>obtain⟨i',es,clock,rfl,h2,_⟩:=h;obtain rfl:=osj hi;exact M.lt h2
 |mapE kk vk m key n=>obtain⟨i',es,clock,r,e,rfl,h2,_⟩:=h;obtain rfl:=osj hi;exact M.lt h2
 |iter kk vk m dn=>obtain⟨j,i',es,clock,wr,seen,rfl,h2,_⟩:=h;obtain rfl:=osj hi;exact M.lt h2
 |lpf l q s=>obtain⟨rfl,_,h2⟩:=h;obtain rfl:=osj hi;exact M.lt (h2 hl)
 |deep ty q k xs nl hh =>obtain⟨is,hO,_,_,_,h4,_⟩:=h;obtain⟨b',bM⟩:=(hO i).1 hi;exact M.lt (h4 i b' bM)
 |stk l vals=>cases hl
theorem Gam.push (h:Gam P B F pl tb s env M) (d:Nat) (b:OB) (p:Value) (blk:Blk) (hp:oid p=some M.n) (hb:OR P B (Jm pl d p) tb (M.push blk) p b):Gam P B F (Jm pl d p) tb (s.make d b) env (M.push blk):=by
 refine h.make d b p (h.le.push blk) (λj i hj hl hi=>?_) hb (λi _ hi=>?_)
 .exact Heap.q0i _ _ ((h.obj j).q0w hl hi)
 .obtain rfl:=Iy hp hi;exact⟨h.le.fresh,λj _ hl e=>by have:=(h.obj j).q0w hl e;omega⟩
theorem Rows.cellOk {k:Kind}{xs:List k.T}{cs:List Value}(h:Rows (KC B k) xs cs):cs.all Go.V.cellOk=true:=by
 induction h with
 |nil=>rfl
 |cons h _ ih=>rw[List.all_append,KC.cellOk h,ih];rfl
theorem BF {pl:Nat->Value}:∀ {k:Kind}{off:Nat}{v:SV}{u:Value}{x y:k.T}{row:List Value},Z0o k off v x=some y->KC B k x row->SR P B pl tb v u->off<k.size->KC B k y (Yq row off [u])
 |.pair a b,off,v,u,x,y,row,h,hr,hv,ho=>by
  obtain⟨c1,c2,rfl,h1,h2⟩:=hr;have l1:=KC.length h1;have l2:=KC.length h2;simp only[Z0o] at h;simp only[Yq];cases hb:Nat.blt off a.size with
  |true =>
   rw[hb] at h;simp only[zj,zw] at h;obtain⟨z,h3,rfl⟩:=h;have bC:off<a.size:=by simpa [zL] using hb
   have:=BF h3 h1 hv bC;exact⟨c1.set off u,c2,by rw[List.set_append_left _ _ (by omega)],this,h2⟩
  |false =>
   rw[hb] at h;simp only[zS,zw] at h;obtain⟨z,h3,rfl⟩:=h;have bC:¬ off<a.size:=by intro ah;rw[show Nat.blt off a.size=true by rw[zL];exact ah] at hb;cases hb
   simp only[Kind.size] at ho;have:=BF h3 h2 hv (by omega);refine⟨c1,c2.set (off-a.size) u,?_,h1,this⟩;rw[List.set_append_right _ _ (by omega),l1]
 |.i ik,off,v,u,x,y,row,h,hr,hv,ho=>by
  have:=QE (k:=.i ik) h (show SRs P B pl tb [v] [u] by simp only[SRs];exact⟨_,[],rfl,hv,rfl⟩);have hl:=KC.length hr;simp only[Kind.size] at hl ho;obtain⟨c,rfl⟩:=x8.1 hl;obtain rfl:off=0:=by omega
  exact this
 |.bo,off,v,u,x,y,row,h,hr,hv,ho=>by
  have:=QE (k:=.bo) h (show SRs P B pl tb [v] [u] by simp only[SRs];exact⟨_,[],rfl,hv,rfl⟩);have hl:=KC.length hr;simp only[Kind.size] at hl ho;obtain⟨c,rfl⟩:=x8.1 hl;obtain rfl:off=0:=by omega
  exact this
 |.st,off,v,u,x,y,row,h,hr,hv,ho=>by
  have:=QE (k:=.st) h (show SRs P B pl tb [v] [u] by simp only[SRs];exact⟨_,[],rfl,hv,rfl⟩);have hl:=KC.length hr;simp only[Kind.size] at hl ho;obtain⟨c,rfl⟩:=x8.1 hl;obtain rfl:off=0:=by omega
  exact this
 |.list k,off,v,u,x,y,row,h,hr,hv,ho=>by
  have:=QE (k:=.list k) h (show SRs P B pl tb [v] [u] by simp only[SRs];exact⟨_,[],rfl,hv,rfl⟩);have hl:=KC.length hr;simp only[Kind.size] at hl ho;obtain⟨c,rfl⟩:=x8.1 hl;obtain rfl:off=0:=by omega
  exact this
theorem MM {mk:MK}{kk vk:Kind}(hk:gq.mkOk mk kk=true) {key:kk.T}{x:vk.T}{kv xv:Value}{clock:Nat}(bG:KV B kk key kv) (hx:KV B vk x xv):∀ {m:List (kk.T×vk.T)}{es:List JD},MR B kk vk m es->MR B kk vk (TB kk m key x) (Qu kv xv clock es).1
 |[],es,h=>by simp only[MR] at h;subst h;exact⟨_,[],rfl,bG,hx,rfl⟩
 |m::ms,es,h=>by
  obtain⟨e,bZ,rfl,h2,h3,h4⟩:=h;have hq:=HK hk bG h2;simp only[Qu,TB,hq];cases gq.keq kk key m.1 with
  |true=>exact⟨_,bZ,rfl,bG,hx,h4⟩
  |false=>exact⟨e,_,rfl,h2,h3,MM hk bG hx h4⟩
theorem DS (k v:Value) (clock:Nat):∀ es:List JD,((Qu k v clock es).2=clock/\(Qu k v clock es).1.map (λe=>e.2.2)=es.map λe=>e.2.2)\/((Qu k v clock es).2=clock+1/\(Qu k v clock es).1.map (λe=>e.2.2)=(es.map λe=>e.2.2)++[clock])
 |[]=>.inr ⟨rfl,rfl⟩
 |e::es=>by
  simp only[Qu];split
  .exact .inl ⟨rfl,rfl⟩
  .rcases DS k v clock es with⟨h1,h2⟩|⟨h1,h2⟩
   .exact .inl ⟨h1,by simp[h2]⟩
   .exact .inr ⟨h1,by simp[h2]⟩
theorem SOk.put {es:List JD}{clock:Nat}(h:SOk es clock) {k v:Value}:SOk (Qu k v clock es).1 (Qu k v clock es).2:=by
 obtain⟨h1,h2⟩:=h;have mem:∀ (l:List JD) (x:Nat),x∈l.map (λe=>e.2.2)<->∃ e∈l,e.2.2=x:=λl x=>by simp
 rcases DS k v clock es with⟨e1,e2⟩|⟨e1,e2⟩
 .refine⟨by rw[e2];exact h1,λe he=>?_⟩;have:e.2.2∈es.map λe=>e.2.2:=by rw[<-e2];exact(mem _ _).2 ⟨e,he,rfl⟩
  obtain⟨e',k1,k2⟩:=(mem _ _).1 this;rw[e1,<-k2];exact h2 e' k1
 .refine⟨?_,λe he=>?_⟩
  .rw[e2,List.nodup_append];refine⟨h1,by simp,λa ha b hb=>?_⟩;obtain rfl:=zo.1 hb;obtain⟨e',k1,k2⟩:=(mem _ _).1 ha;have:=h2 e' k1;omega
  .have:e.2.2∈(es.map λe=>e.2.2)++[clock]:=by rw[<-e2];exact(mem _ _).2 ⟨e,he,rfl⟩
   rw[e1];rcases zQ.1 this with h3|h3
   .obtain⟨e',k1,k2⟩:=(mem _ _).1 h3;have:=h2 e' k1;omega
   .have:=zo.1 h3;omega
def Fr (T:Nat) (s s':St) (pl pl':Nat->Value) (M M':Heap):Prop :=
 ∀ q,q≠T->(Q9 s'.own q).live=(Q9 s.own q).live/\pl' q=pl q/\((Q9 s.own q).live=true->∀ i,Oid (pl q) i->M'.get i=M.get i)
theorem VW (s:St) (d:Nat) (b:OB) {q:Nat}(hq:q≠d):(Q9 (s.make d b).own q).live=(Q9 s.own q).live:=by simp only[St.make,St.kill,Qk,Kb,z8 hq,OB.q0q]
theorem Gam.makeF {s:St}{env:Env}{M M':Heap}{pl:Nat->Value}(h:Gam P B F pl tb s env M) (d:Nat) (b:OB) (p:Value) (hle:F.Le M') (ho:∀ j i,j≠d->(Q9 s.own j).live=true->Oid (pl j) i->M'.get i=M.get i)
  (hb:OR P B (Jm pl d p) tb M' p b) (hf:∀ i,b.live=true->Oid p i->F.get i=none/\∀ j,j≠d->(Q9 s.own j).live=true->¬ Oid (pl j) i):Gam P B F (Jm pl d p) tb (s.make d b) env M'/\Fr d s (s.make d b) pl (Jm pl d p) M M' :=
 ⟨h.make d b p hle ho hb hf,λq hq=>⟨VW s d b hq,by simp[Jm,hq],λhl i hi=>ho q i hq hl hi⟩⟩
theorem Gam.writeF {s:St}{env:Env}{M M':Heap}{pl:Nat->Value}(h:Gam P B F pl tb s env M) (d:Nat) (b:OB) (hle:F.Le M') (aq:(Q9 s.own d).live=true)
  (cU:∀ j i,j≠d->(Q9 s.own j).live=true->Oid (pl j) i->M'.get i=M.get i) (hb:OR P B pl tb M' (pl d) b):Gam P B F pl tb ⟨s.env,oset s.own d b,s.nx⟩ env M'/\Fr d s ⟨s.env,oset s.own d b,s.nx⟩ pl pl M M' :=
 ⟨h.write d b hle aq cU hb,λq hq=>⟨by simp only[Qk,z8 hq],rfl,λhl i hi=>cU q i hq hl hi⟩⟩
theorem Gam.pushF {s:St}{env:Env}{M:Heap}{pl:Nat->Value}(h:Gam P B F pl tb s env M) (d:Nat) (b:OB) (p:Value) (blk:Blk) (hp:oid p=some M.n) (hb:OR P B (Jm pl d p) tb (M.push blk) p b):Gam P B F (Jm pl d p) tb (s.make d b) env (M.push blk)/\Fr d s (s.make d b) pl (Jm pl d p) M (M.push blk) :=
 ⟨h.push d b p blk hp hb,λq hq=>⟨VW s d b hq,by simp[Jm,hq],λhl i hi=>Heap.q0i _ _ ((h.obj q).q0w hl hi)⟩⟩
def NOk (P:Program) (B F:Heap) (tb:Nat->Option Bool) (o:VOp) (evV:Operand->Value) (env:Env) (M:Heap) (K:SV->St->Prop) (T:Nat) (s:St) (pl:Nat->Value):Prop :=
 ∃ u M' pl' v s',Q7 o evV M=some (u,M')/\K v s'/\(Gam P B F pl' tb s' env M'/\Fr T s s' pl pl' M M')/\SR P B pl' tb v u
theorem Wg (pl:Nat->Value) (d:Nat) (p:Value):Jm pl d p d=p:=by simp[Jm]
section
variable {C:Cx}{d:Nat}{ev:Operand->SV}{evV:Operand->Value}{K:SV->St->Prop}
theorem O8 (aj:∀ x,SR P B pl tb (ev x) (evV x)) (hG:Gam P B F pl tb s env M) {t:Nat}{z:List Value}(h:gn C d (.alloc t z) ev s K):NOk P B F tb (.alloc t z) evV env M K (QH d (.alloc t z) ev) s pl:=by
 have _hev:=aj;simp only[gn] at h;refine⟨.pointer (some ⟨M.n,0,none⟩),_,Jm pl d (.pointer (some ⟨M.n,0,none⟩)),_,_,rfl,h,hG.pushF d _ _ _ rfl ?_,?_⟩
 .refine⟨M.n,z,_,_,rfl,Heap.q0a _ _,?_,λy hy=>⟨osj hy,rfl⟩⟩;have hz:SRs P B (Jm pl d (.pointer (some ⟨M.n,0,none⟩))) tb (z.map cvp) (z.map id):=SRs.map λx _=>DM x
  rwa [List.map_id] at hz
 .simp only[SR,Wg];exact⟨_,rfl,rfl⟩
theorem Q9z (aj:∀ x,SR P B pl tb (ev x) (evV x)) (hG:Gam P B F pl tb s env M) {t:Nat}{x:Operand}(h:gn C d (.box t x) ev s K):NOk P B F tb (.box t x) evV env M K (QH d (.box t x) ev) s pl:=by
 simp only[gn] at h;split at h
 .rename_i l hl;obtain⟨c,h1,h2,_⟩:=Yi hl (aj x);refine⟨.pointer (some ⟨M.n,0,none⟩),M.push (.cells c ⟨c.length,t⟩ true true),Jm pl d (.pointer (some ⟨M.n,0,none⟩)),_,_,by simp only[Q7,h1],h,hG.pushF d _ _ _ rfl ?_,?_⟩
  .exact⟨M.n,c,_,_,rfl,Heap.q0a _ _,SRs.upd (Heap.Le.refl B) (λ_ _ h=>h) (λj hj=>by simp[Jm,hj]) _ _ h2,λy hy=>⟨osj hy,rfl⟩⟩
  .simp only[SR,Wg];exact⟨_,rfl,rfl⟩
 .cases h
theorem H9 (aj:∀ x,SR P B pl tb (ev x) (evV x)) {k:Kind}:∀ {ps:List (Nat×Operand)}{xs ys:List k.T}{c:List Value},LA k ev ps xs=some ys->Rows (KC B k) xs c ->
  ys.length=xs.length/\∃ c',Mw c (ps.map λp=>(p.1*k.size,k.size,evV p.2))=some c'/\Rows (KC B k) ys c'
 |[],xs,ys,c,h,hr=>by obtain rfl:=osj h;exact⟨rfl,c,rfl,hr⟩
 |(j,x)::r,xs,ys,c,h,hr=>by
  simp only[LA] at h;split at h
  .rename_i l hl;split at h
   .rename_i y hy;split at h
    .rename_i hj;obtain⟨vs,h1,h2,_⟩:=Yi hl (aj x);have hk:=QE hy h2;have hlen:=KC.length hk;have b9:=hr.length KC.q0f;have bV:(j+1)*k.size<=xs.length*k.size:=zr _ hj;rw[zH,xF] at bV;have a7:=hr.set KC.q0f hj hk;have e:Yq c (j*k.size) vs=c.take (j*k.size)++vs++c.drop (j*k.size+k.size):=by
      rw[VQ (by omega),hlen]
     rw[<-e] at a7;obtain⟨h3,c',h4,h5⟩:=H9 aj h a7;refine⟨by rw[h3,wD],c',?_,h5⟩;simp only[zJ,Mw,h1];rw[z7 ⟨hlen,by omega⟩];exact h4
    .cases h
   .cases h
  .cases h
theorem Mt (aj:∀ x,SR P B pl tb (ev x) (evV x)) (hG:Gam P B F pl tb s env M) {e:El}{z:List Value}{n:Nat}{ps:List (Nat×Operand)}(h:gn C d (.buildSlice e z n ps) ev s K):NOk P B F tb (.buildSlice e z n ps) evV env M K (QH d (.buildSlice e z n ps) ev) s pl:=by
 simp only[gn] at h;split at h
 .rename_i k _;split at h
  .rename_i hc;obtain⟨aF,hz⟩:=hc;split at h
   .rename_i xs hx;have qY:KC B k k.dflt z:=Yn hz;have bN:Rows (KC B k) (List.replicate n k.dflt) (HE n z):=by rw[U9];exact Rows.replicate qY n
    obtain⟨h3,c',h4,h5⟩:=H9 (B:=B) aj hx bN;rw[xU] at h3;have b9:=h5.length KC.q0f;refine⟨.slice (some ⟨M.n,0,none⟩) n n,M.push (.cells c' e true true),Jm pl d (.slice (some ⟨M.n,0,none⟩) n n),_,_,?_,h,hG.pushF d _ _ _ rfl ?_,?_⟩
    .simp only[Q7];rw[<-aF,h4]
    .refine .inr ⟨rfl,M.n,n,c',true,by rw[h3],by omega,?_,by rw[b9,h3];exact ze _,?_⟩
     .rw[Heap.q0a,aF]
     .rw[zx (by omega)];exact h5
    .simp only[SR,Wg];exact⟨trivial,_,_,_,rfl⟩
   .cases h
  .cases h
 .cases h
theorem HY (aj:∀ x,SR P B pl tb (ev x) (evV x)) (hG:Gam P B F pl tb s env M) {e:El}{bytes:Nat}{z:List Value}{l c:Operand}(h:gn C d (.makeSlice e bytes z l c) ev s K):NOk P B F tb (.makeSlice e bytes z l c) evV env M K (QH d (.makeSlice e bytes z l c) ev) s pl:=by
 simp only[gn] at h;split at h
 .rename_i k k1 a k2 b _ h1 h2;have e1:=Jg h1 (aj l);have e2:=Jg h2 (aj c);split at h
  .rename_i hc;obtain⟨aF,hz⟩:=hc;simp only[C5,Q7e] at h;obtain⟨k3,k4,k5,k6,h⟩:=h;have qY:KC B k k.dflt z:=Yn hz;have bN:Rows (KC B k) (List.replicate b.toNat k.dflt) (HE b.toNat z):=by rw[U9];exact Rows.replicate qY _
   have b9:=bN.length KC.q0f;rw[xU] at b9;have ht:=bN.take KC.q0f a.toNat;rw[List.take_replicate,xL (by omega)] at ht;refine⟨.slice (some ⟨M.n,0,none⟩) a.toNat b.toNat,M.push (.cells (HE b.toNat z) e true true),Jm pl d (.slice (some ⟨M.n,0,none⟩) a.toNat b.toNat),_,_,?_,h,hG.pushF d _ _ _ rfl ?_,?_⟩
   .simp only[Q7,e1,e2];rw[z7 ⟨k3,k4,by simpa using k5,by simpa using k6⟩]
   .refine .inr ⟨rfl,M.n,b.toNat,_,true,by rw[xU],by simp;omega,?_,by rw[b9];exact ze _,?_⟩
    .rw[Heap.q0a,aF]
    .rw[xU];exact ht
   .simp only[SR,Wg];exact⟨trivial,_,_,_,rfl⟩
  .cases h
 .cases h
theorem Av (aj:∀ x,SR P B pl tb (ev x) (evV x)) (hG:Gam P B F pl tb s env M) {e:El}{bytes:Nat}{x y:Operand}(h:gn C d (.append e bytes x y) ev s K):NOk P B F tb (.append e bytes x y) evV env M K (QH d (.append e bytes x y) ev) s pl:=by
 have ha:=aj x;simp only[gn] at h;split at h
 .rename_i k _;split at h
  .rename_i ys hy;obtain⟨cs,ay,uI,aB,di,sD⟩:=(Y1 hG.leB hG.obj hy (aj y)).sl;have ai:cs.all cellOk=true:=di.cellOk;have b9:=di.length KC.q0f;split at h
   .rename_i hx;have hT:QH d (.append e bytes x y) ev=d:=by simp only[QH,hx]
    rw[hT];rw[hx] at ha;simp only[SR] at ha;split at h
    .rename_i aF;simp only[C5,Q7e] at h;obtain⟨h1,h⟩:=h;rw[aF] at aB;have base:Q7 (.append e bytes x y) evV M=YD e bytes M (.slice none 0 0) ys.length cs:=by
      simp only[Q7,sD] at aB |-;simp only[aB,ai,zB,ha]
     by_cases hm:ys=[]
     .subst hm;refine⟨.slice none 0 0,M,Jm pl d (.slice none 0 0),_,_,by rw[base];rfl,h,?_,?_⟩
      .refine hG.makeF d _ _ hG.le (λj i _ _ _=>rfl) (.inl ⟨rfl,rfl,rfl⟩) λi _ hi=>by cases hi
      .simp only[SR,Wg];exact⟨trivial,_,_,_,rfl⟩
     .have eN:ys.length≠0:=λe=>hm (x4.1 e);refine⟨.slice (some ⟨M.n,0,none⟩) ys.length ys.length,M.push (.cells cs e true false),Jm pl d (.slice (some ⟨M.n,0,none⟩) ys.length ys.length),_,_,?_,h,hG.pushF d _ _ _ rfl ?_,?_⟩
      .rw[base];simp only[YD];rw[z8 eN,z7 (by simpa using h1)]
      .refine .inr ⟨Z3h hm,M.n,ys.length,cs,false,rfl,ze _,?_,by omega,?_⟩
       .rw[Heap.q0a,aF]
       .rw[zx (by omega)];exact di
      .simp only[SR,Wg];exact⟨trivial,_,_,_,rfl⟩
    .cases h
   .rename_i o hx;have hT:QH d (.append e bytes x y) ev=o:=by simp only[QH,hx]
    rw[hT];rw[hx] at ha;simp only[SR] at ha;have ao:=hG.obj o;split at h
    .rename_i ty k' xs nl ho;rw[ho] at ao;have aq:(Q9 s.own o).live=true:=by rw[ho];rfl
     split at h
     .rename_i aF;obtain⟨kO,aF⟩:=aF;split at h
      .rename_i cF lx;obtain rfl:=XS lx;obtain rfl:=W2 lx;simp only[C5,Q7e] at h;obtain⟨h1,h⟩:=h;rw[aF] at aB;have base:Q7 (.append e bytes x y) evV M=YD e bytes M (pl o) ys.length cs:=by
        simp only[Q7,sD] at aB |-;simp only[aB,ai,zB,ha.1]
       have he:e=⟨k'.size,ty⟩:=by cases e;simp only at kO aF;rw[kO,aF]
       rcases ao with⟨rfl,rfl,h3⟩|⟨rfl,i,cap,c,t,h3,h4,h5,h6,h7⟩
       .
        rw[h3] at base;by_cases hm:ys=[]
        .subst hm;refine⟨.slice none 0 0,M,Jm pl o (.slice none 0 0),_,_,by rw[base];rfl,h,?_,?_⟩
         .refine hG.makeF o _ _ hG.le (λj i _ _ _=>rfl) (.inl ⟨rfl,rfl,rfl⟩) λi _ hi=>by cases hi
         .simp only[SR,Wg];exact⟨trivial,_,_,_,rfl⟩
        .have eN:ys.length≠0:=λe=>hm (x4.1 e);refine⟨.slice (some ⟨M.n,0,none⟩) ys.length ys.length,M.push (.cells cs e true false),Jm pl o (.slice (some ⟨M.n,0,none⟩) ys.length ys.length),_,_,?_,h,hG.pushF o _ _ _ rfl ?_,?_⟩
         .rw[base];simp only[YD];rw[z8 eN,z7 (by simpa using h1)]
         .rw[xj];refine .inr ⟨Z61 hm _,M.n,ys.length,cs,false,rfl,ze _,?_,by omega,?_⟩
          .rw[Heap.q0a,he]
          .rw[zx (by omega)];exact di
         .simp only[SR,Wg];exact⟨trivial,_,_,_,rfl⟩
       .rw[h3] at base;have k1:cF.length*k'.size<=cap*k'.size:=zr _ h4;have bc:F.get i=none:=hG.fresh o i aq (by rw[h3];rfl);have aZ:∀ j i',j≠o->(Q9 s.own j).live=true->Oid (pl j) i'->i'≠i:=λj i' hj hl hi e=>by
         subst e;exact hG.sep j o i' hj hl aq hi (by rw[h3];rfl)
        have ak:e=e/\cF.length<=cap/\0+cF.length*e.sz<=c.length:=⟨rfl,h4,by rw[<-aF];omega⟩;simp only[YD,h5] at base;rw[<-he,z7 ak] at base;by_cases hm:ys=[]
        .subst hm;simp only[List.length_nil,zB] at base;refine⟨_,M,Jm pl o (pl o),_,_,base,h,?_,?_⟩
         .refine hG.makeF o _ _ hG.le (λj i _ _ _=>rfl) (.inr ⟨rfl,i,cap,c,t,?_,?_,h5,h6,?_⟩) λi' _ hi=>?_
          .rw[h3];simp
          .simpa using h4
          .simpa using h7
          .rw[h3] at hi;obtain rfl:=osj hi;exact⟨bc,λj hj hl e=>aZ j _ hj hl e rfl⟩
         .simp only[SR,Wg,h3];exact⟨trivial,_,_,_,rfl⟩
        .have eN:ys.length≠0:=λe=>hm (x4.1 e);have jx:(ys.isEmpty&&false)=false:=by simp
         have pI:Rows (KC B k') (cF++ys) (c.take (cF.length*k'.size)++cs):=h7.append di;have dE:=pI.length KC.q0f;rw[z8 eN] at base;by_cases aX:cF.length+ys.length<=cap
         .have f_:(cF.length+ys.length)*k'.size<=cap*k'.size:=zr _ aX;have dY:cF.length*k'.size+ys.length*k'.size<=cap*k'.size:=by rw[<-zH];exact f_
          rw[z7 aX,z7 ⟨trivial,by rw[<-aF];omega⟩] at base;refine⟨_,_,Jm pl o (.slice (some ⟨i,0,none⟩) (cF.length+ys.length) cap),_,_,base,h,?_,?_⟩
          .refine hG.makeF o _ _ (hG.le.upd bc _) (λj i' hj hl hi=>Heap.q0b _ _ (aZ j i' hj hl hi)) (.inr ⟨jx,i,cap,Yq c (0+cF.length*e.sz) cs,t,by rw[zI],by rw[zI];exact aX,?_,?_,?_⟩) λi' _ hi=>?_
           .rw[Heap.q0c _ _ (M.lt h5),he]
           .rw[JT];exact h6
           .have fb:0+cF.length*e.sz+cs.length<=c.length:=by rw[<-aF];omega
            rw[VQ fb,<-aF,x3,List.take_left' (by rw[dE])];exact pI
           .obtain rfl:=osj hi;exact⟨bc,λj hj hl e=>aZ j _ hj hl e rfl⟩
          .simp only[SR,Wg];exact⟨trivial,_,_,_,rfl⟩
         .rw[z8 aX,z7 (by simpa using h1)] at base;have kg:((c.drop 0).take (cF.length*e.sz)++cs)=c.take (cF.length*k'.size)++cs:=by rw[x5,aF]
          cases t with
          |true =>
           simp only[zB] at base;rw[kg] at base;refine⟨_,_,Jm pl o (.slice (some ⟨M.n,0,none⟩) (cF.length+ys.length) (cF.length+ys.length)),_,_,base,h,hG.pushF o _ _ _ rfl (.inr ⟨jx,M.n,cF.length+ys.length,c.take (cF.length*k'.size)++cs,false,by rw[zI],by rw[zI];exact ze _,?_,?_,?_⟩),?_⟩
           .rw[Heap.q0a,he]
           .rw[dE,zI];exact ze _
           .rw[zx (by rw[dE];exact ze _)];exact pI
           .simp only[SR,Wg];exact⟨trivial,_,_,_,rfl⟩
          |false =>
           simp only[zC,if_false,zB] at base;rw[kg] at base;have hn:(M.kill i).n=M.n:=rfl;refine⟨_,_,Jm pl o (.slice (some ⟨M.n,0,none⟩) (cF.length+ys.length) (cF.length+ys.length)),_,_,base,h,?_,?_⟩
           .refine hG.makeF o _ _ ((hG.le.kill bc).push _) (λj i' hj hl hi=>?_) (.inr ⟨jx,M.n,cF.length+ys.length,c.take (cF.length*k'.size)++cs,false,by rw[zI],by rw[zI];exact ze _,?_,?_,?_⟩) λi' _ hi=>?_
            .rw[Heap.q0i _ _ (by rw[hn];exact(hG.obj j).q0w hl hi)];exact Heap.q0d _ (aZ j i' hj hl hi)
            .rw[<-hn,Heap.q0a,he]
            .rw[dE,zI];exact ze _
            .rw[zx (by rw[dE];exact ze _)];exact pI
            .obtain rfl:=osj hi;exact⟨hG.le.fresh,λj _ hl e=>wL M.n ((hG.obj j).q0w hl e)⟩
           .simp only[SR,Wg];exact⟨trivial,_,_,_,rfl⟩
      .cases h
     .cases h
    .cases h
   .cases h
  .cases h
 .cases h
theorem IN (aj:∀ x,SR P B pl tb (ev x) (evV x)) (hG:Gam P B F pl tb s env M) {size:Nat}{a x:Operand}(h:gn C d (.store size a x) ev s K):NOk P B F tb (.store size a x) evV env M K (QH d (.store size a x) ev) s pl:=by
 have ha:=aj a;simp only[gn] at h;split at h
 .rename_i o off vs h1 h2;have hT:QH d (.store size a x) ev=o:=by simp only[QH,h1]
  rw[hT];obtain⟨us,h3,h4,h5⟩:=Yi h2 (aj x);rw[h1] at ha;simp only[SR] at ha;obtain⟨b,h6,h7⟩:=ha;have ao:=hG.obj o;split at h
  .rename_i l u ho;rw[ho] at ao;have aq:(Q9 s.own o).live=true:=by rw[ho];rfl
   obtain⟨i,c,e,t,h8,h9,bT,gg⟩:=ao;rw[h6] at h8;obtain rfl:=(by simpa using h8:b=i);split at h
   .rename_i hc;have bc:F.get b=none:=hG.fresh o b aq (by rw[h6];rfl);have aZ:∀ j i',j≠o->(Q9 s.own j).live=true->Oid (pl j) i'->i'≠b:=λj i' hj hl hi e=>by
     subst e;exact hG.sep j o i' hj hl aq hi (by rw[h6];rfl)
    refine⟨undef,M.upd b (.cells (Yq c off us) e true t),pl,_,_,?_,h,hG.writeF o _ (hG.le.upd bc _) aq (λj i' hj hl hi=>Heap.q0b _ _ (aZ j i' hj hl hi)) ?_,by simp[SR]⟩
    .simp only[Q7,h7,h3,h9];rw[z7 ⟨trivial,by rw[<-h4.length];exact hc.1,by rw[<-bT.length];exact hc.2,h5⟩]
    .exact⟨b,_,e,t,h6,Heap.q0c _ _ (M.lt h9),Bp bT h4,gg⟩
   .cases h
  .cases h
 .rename_i o i off sz vs h1 h2;have hT:QH d (.store size a x) ev=o:=by simp only[QH,h1]
  rw[hT];obtain⟨us,h3,h4,h5⟩:=Yi h2 (aj x);rw[h1] at ha;simp only[SR] at ha;obtain⟨b,len,cap,h6,h7,h8,h9⟩:=ha;have ao:=hG.obj o;split at h
  .rename_i ty k xs nl ho;rw[ho] at ao;have aq:(Q9 s.own o).live=true:=by rw[ho];rfl
   rcases ao with⟨_,_,k3⟩|⟨rfl,i',au,c,t,k3,k4,k5,k6,k7⟩
   .rw[h6] at k3;cases k3
   .rw[h6] at k3;obtain⟨rfl,rfl,rfl⟩:=(by simpa using k3:b=i'/\len=xs.length/\cap=au);have bc:F.get b=none:=hG.fresh o b aq (by rw[h6];rfl);have aZ:∀ j i',j≠o->(Q9 s.own j).live=true->Oid (pl j) i'->i'≠b:=λj i' hj hl hi e=>by
     subst e;exact hG.sep j o i' hj hl aq hi (by rw[h6];rfl)
    have hi:i.toNat<xs.length:=by omega
    have aF:(i.toNat+1)*k.size<=xs.length*k.size:=zr _ hi;rw[zH,xF] at aF;have k8:=zr k.size k4
    have fin:∀ (y:k.T) (us:List Value) (dL:Nat),dL+us.length<=k.size->KC B k y (Yq (((c.take (xs.length*k.size)).drop (i.toNat*k.size)).take k.size) dL us) ->
      Gam P B F pl tb ⟨s.env,oset s.own o (.lst ty k (xs.set i.toNat y) false),s.nx⟩ env (M.upd b (.cells (Yq c (i.toNat*k.size+dL) us) ⟨k.size,ty⟩ true t))/\Fr o s ⟨s.env,oset s.own o (.lst ty k (xs.set i.toNat y) false),s.nx⟩ pl pl M (M.upd b (.cells (Yq c (i.toNat*k.size+dL) us) ⟨k.size,ty⟩ true t)):=by
     intro y us dL oy hk;refine hG.writeF o _ (hG.le.upd bc _) aq (λj i' hj hl hi=>Heap.q0b _ _ (aZ j i' hj hl hi)) (.inr ⟨rfl,b,cap,Yq c (i.toNat*k.size+dL) us,t,by rw[h6];simp,by simpa using k4,Heap.q0c _ _ (M.lt k5),by rw[JT];exact k6,?_⟩);have a7:=k7.set KC.q0f hi hk;rw[wD];rw[AQ us c (m:=xs.length*k.size) (p:=i.toNat*k.size) (n:=k.size) (off:=dL) oy aF (by omega)];exact a7
    have bN:=k7.at KC.q0f hi;have dE:=KC.length bN;split at h
    .rename_i hc;obtain⟨rfl,rfl,rfl⟩:=hc;split at h
     .rename_i y hy;have hk:=QE hy h4;have hl:=KC.length hk;refine⟨undef,M.upd b (.cells (Yq c (i.toNat*k.size+0) us) ⟨k.size,ty⟩ true t),pl,_,_,?_,h,fin y us 0 (by omega) ?_,by simp[SR]⟩
      .simp only[Q7,h9,h3,k5];rw[z7 ⟨trivial,hl,by omega,h5⟩]
      .rw[VQ (by omega),x3,wF,xj,List.drop_of_length_le (by omega),xJ];exact hk
     .cases h
    .split at h
     .rename_i hc;obtain⟨rfl,sE,rfl,bC⟩:=hc;split at h
      .rename_i y hy;obtain⟨v0,rfl⟩:∃ v0,vs=[v0]:=by
        cases vs with
        |nil=>cases sE
        |cons a r=>cases r with
         |nil=>exact⟨a,rfl⟩
         |cons _ _=>simp at sE
       obtain⟨u0,rfl,uJ⟩:=h4.one;have hx:xs.getD i.toNat k.dflt=xs[i.toNat]:=by simp[zd,z1 hi]
       rw[hx] at hy;refine⟨undef,M.upd b (.cells (Yq c (i.toNat*k.size+off) [u0]) ⟨k.size,ty⟩ true t),pl,_,_,?_,h,fin y [u0] off (by simp;omega) (BF hy bN uJ bC),by simp[SR]⟩;simp only[Q7,h9,h3,k5];rw[z7 ⟨trivial,rfl,by omega,h5⟩]
      .cases h
     .cases h
  .cases h
 .cases h
theorem HW (aj:∀ x,SR P B pl tb (ev x) (evV x)) (hG:Gam P B F pl tb s env M) {mk:MK}{m kx vx:Operand}(h:gn C d (.ext (.mapUpdate mk m kx vx)) ev s K):NOk P B F tb (.ext (.mapUpdate mk m kx vx)) evV env M K (QH d (.ext (.mapUpdate mk m kx vx)) ev) s pl:=by
 have ha:=aj m;simp only[gn] at h;split at h
 .rename_i o h1;have hT:QH d (.ext (.mapUpdate mk m kx vx)) ev=o:=by simp only[QH,h1]
  rw[hT];rw[h1] at ha;simp only[SR] at ha;have ao:=hG.obj o;split at h
  .rename_i kk vk l ho;rw[ho] at ao;have aq:(Q9 s.own o).live=true:=by rw[ho];rfl
   obtain⟨id,es,clock,h2,h3,h4⟩:=ao;split at h
   .rename_i hc;have cD:=hc;split at h
    .rename_i key x bG hx;have hk:=Mu bG (aj kx) QE;have hv:=Mu hx (aj vx) QE;have bc:F.get id=none:=hG.fresh o id aq (by rw[h2];rfl);have aZ:∀ j i',j≠o->(Q9 s.own j).live=true->Oid (pl j) i'->i'≠id:=λj i' hj hl hi e=>by
      subst e;exact hG.sep j o i' hj hl aq hi (by rw[h2];rfl)
     have aH:M.mapAt id=some (es,clock,true):=by simp[Heap.mapAt,h3]
     refine⟨undef,M.upd id (.obj (.map (Qu (evV kx) (evV vx) clock es).1 (Qu (evV kx) (evV vx) clock es).2) true),pl,_,_,?_,h,hG.writeF o _ (hG.le.upd bc _) aq (λj i' hj hl hi=>Heap.q0b _ _ (aZ j i' hj hl hi)) ?_,by simp[SR]⟩
     .simp only[Q7,Zg,ha.1,h2,aH];rw[z7 (by rw[MO cD hk,h4.1.keys cD];rfl)]
     .exact⟨id,_,_,h2,Heap.q0c _ _ (M.lt h3),MM cD hk hv h4.1,h4.2.put⟩
    .cases h
   .cases h
  .cases h
 .cases h
theorem AS {mk:MK}{kk:Kind}(hk:gq.mkP mk kk=true) (x:kk.T):gq.keq kk x x=true:=by
 unfold gq.mkP at hk;split at hk
 .simp[gq.keq]
 .simp[gq.keq]
 .simp[gq.keq]
 .cases hk
theorem HN:∀ {k:Kind}{l r:List MK},gq.mkAt k l=some r->∀ x:k.T,gq.keq k x x=true
 |.pair a b,l,r,hk,x=>by
  simp only[gq.mkAt] at hk;split at hk
  .rename_i q hq;simp only[gq.keq,HN hq,HN hk,Bool.and_self]
  .cases hk
 |.i _,m::l,r,hk,x|.bo,m::l,r,hk,x|.st,m::l,r,hk,x|.list _,m::l,r,hk,x=>by
  simp only[gq.mkAt] at hk;cases hp:gq.mkP m _ with
  |false=>rw[hp] at hk;cases hk
  |true=>exact AS hp x
 |.i _,[],r,hk,x|.bo,[],r,hk,x|.st,[],r,hk,x|.list _,[],r,hk,x=>by cases hk
theorem Og {mk:MK}{kk:Kind}(hk:gq.mkOk mk kk=true) (x:kk.T):gq.keq kk x x=true:=by
 unfold gq.mkOk at hk;cases ho:kk.one with
 |true=>rw[ho] at hk;exact AS hk x
 |false =>
  rw[ho] at hk;simp only[zS] at hk;split at hk
  .split at hk
   .rename_i hr;exact HN hr x
   .cases hk
  .cases hk
theorem Sy {k v:Value}(hk:XF k k=true) (clock:Nat):∀ es:List JD,Qj k (Qu k v clock es).1=some (k,v,match Qj k es with|some e=>e.2.2|none=>clock)
 |[]=>by simp[Qu,Qj,hk]
 |e::es=>by
  simp only[Qu,Qj];cases he:XF k e.1 with
  |true=>simp[Qj,hk]
  |false =>simp only[zC,if_false,Qj,he];exact Sy hk clock es
theorem Sl {k v:Value}{clock:Nat}:∀ {es:List JD}{e:JD},Qj k es=some e->∃ j:Nat,es[j]?=some e/\Qu k v clock es=(es.set j (k,v,e.2.2),clock)
 |[],e,h=>by cases h
 |a::es,e,h=>by
  simp only[Qj] at h;split at h
  .rename_i he;obtain rfl:=osj h;exact⟨0,rfl,by simp[Qu,he]⟩
  .rename_i he;obtain⟨j,h1,h2⟩:=Sl (v:=v) (clock:=clock) h;exact⟨j+1,by simpa using h1,by simp[Qu,he,h2]⟩
theorem P7 (aj:∀ x,SR P B pl tb (ev x) (evV x)) (hG:Gam P B F pl tb s env M) {mk:MK}{z:Value}{m kx:Operand}(h:gn C d (.ext (.mapEntry mk z m kx)) ev s K):∃ u M' v s' T kv aW i es c,T=QH d (.ext (.mapEntry mk z m kx)) ev/\Q7 (.ext (.mapEntry mk z m kx)) evV M=some (u,M')/\K v s'/\(Gam P B F pl tb s' env M'/\Fr T s s' pl pl M M')/\SR P B pl tb v u /\
  (Q9 s'.own T).live=true/\pl T=.map (some i)/\M.get i=some (.obj (.map es c) true)/\M'.get i=some (.obj (.map (Qu kv aW c es).1 (Qu kv aW c es).2) true)/\Zn mk kv=true/\es.all (λe=>Zn mk e.1)=true/\aW=(match Qj kv es with|some e=>e.2.1|none=>z):=by
 have ha:=aj m;simp only[gn] at h;split at h
 .rename_i o h1;have hT:QH d (.ext (.mapEntry mk z m kx)) ev=o:=by simp only[QH,h1]
  rw[h1] at ha;simp only[SR] at ha;have ao:=hG.obj o;split at h
  .rename_i kk vk l ho;rw[ho] at ao;have aq:(Q9 s.own o).live=true:=by rw[ho];rfl
   obtain⟨id,es,clock,h2,h3,h4⟩:=ao;split at h
   .rename_i hc;obtain⟨cD,uK⟩:=hc;split at h
    .rename_i key bG;have hk:=Mu bG (aj kx) QE;have hz:KV B vk vk.dflt z:=BL uK;have bc:F.get id=none:=hG.fresh o id aq (by rw[h2];rfl);have aZ:∀ j i',j≠o->(Q9 s.own j).live=true->Oid (pl j) i'->i'≠id:=λj i' hj hl hi e=>by
      subst e;exact hG.sep j o i' hj hl aq hi (by rw[h2];rfl)
     have aH:M.mapAt id=some (es,clock,true):=by simp[Heap.mapAt,h3]
     have sF:XF (evV kx) (evV kx)=true:=by rw[HK cD hk hk];exact Og cD key
     obtain⟨aW,n,hold,gA⟩:∃ (aW:Value) (n:Nat),KV B vk (gq.aget kk l key vk.dflt) aW/\Q7 (.ext (.mapEntry mk z m kx)) evV M=some (.tuple #[aW,.int .i64 n],M.upd id (.obj (.map (Qu (evV kx) aW clock es).1 (Qu (evV kx) aW clock es).2) true))/\Qj (evV kx) (Qu (evV kx) aW clock es).1=some (evV kx,aW,n)/\aW=(match Qj (evV kx) es with|some e=>e.2.1|none=>z):=by
      rcases MR.find cD hk hz h4.1 with⟨e,k1,_,k3⟩|⟨k1,_,k3⟩
      .refine⟨e.2.1,e.2.2,k3,?_,?_,by rw[k1]⟩
       .simp only[Q7,Zg,ha.1,h2,aH];rw[z7 (by rw[MO cD hk,h4.1.keys cD];rfl),k1]
       .rw[Sy sF,k1]
      .refine⟨z,clock,by rw[k3];exact hz,?_,?_,by rw[k1]⟩
       .simp only[Q7,Zg,ha.1,h2,aH];rw[z7 (by rw[MO cD hk,h4.1.keys cD];rfl),k1]
       .rw[Sy sF,k1]
     obtain⟨gA,df,oz⟩:=gA;obtain⟨r,hr,_⟩:=Sl (v:=aW) (clock:=clock) df;refine⟨_,_,_,_,o,evV kx,aW,id,es,clock,hT.symm,gA,h n,hG.writeF o _ (hG.le.upd bc _) aq (λj i' hj hl hi=>Heap.q0b _ _ (aZ j i' hj hl hi)) ?_,?_,by simp[Qk,OB.live],h2,h3,Heap.q0c _ _ (M.lt h3),MO cD hk,h4.1.keys cD,oz⟩
     .exact⟨id,_,_,r,_,h2,Heap.q0c _ _ (M.lt h3),⟨MM cD hk hold h4.1,h4.2.put⟩,hr,hk,df,rfl,mk,cD⟩
     .simp only[SR,SRs];exact⟨_,rfl,_,_,rfl,JE hold,_,_,rfl,by simp[KC],rfl⟩
    .cases h
   .cases h
  .cases h
 .cases h
theorem Rj (aj:∀ x,SR P B pl tb (ev x) (evV x)) (hG:Gam P B F pl tb s env M) {mk:MK}{z:Value}{m kx:Operand}(h:gn C d (.ext (.mapEntry mk z m kx)) ev s K):NOk P B F tb (.ext (.mapEntry mk z m kx)) evV env M K (QH d (.ext (.mapEntry mk z m kx)) ev) s pl:=by obtain⟨u,M',v,s',T,kv,aW,i,es,c,rfl,h1,h2,h3,h4,_⟩:=P7 aj hG h;exact⟨u,M',pl,v,s',h1,h2,h3,h4⟩
theorem BS (aj:∀ x,SR P B pl tb (ev x) (evV x)) (hG:Gam P B F pl tb s env M) {m st vx:Operand}(h:gn C d (.ext (.entryStore m st vx)) ev s K):NOk P B F tb (.ext (.entryStore m st vx)) evV env M K (QH d (.ext (.entryStore m st vx)) ev) s pl:=by
 have ha:=aj m;simp only[gn] at h;split at h
 .rename_i o h1;have hT:QH d (.ext (.entryStore m st vx)) ev=o:=by simp only[QH,h1]
  rw[hT];rw[h1] at ha;simp only[SR] at ha;have ao:=hG.obj o;split at h
  .rename_i kk vk l key n ho;rw[ho] at ao;have aq:(Q9 s.own o).live=true:=by rw[ho];rfl
   obtain⟨id,es,clock,r,e,h2,h3,h4,h5,h6,h7,h8,mk,cD⟩:=ao;split at h
   .rename_i n' x a_ hx;obtain⟨rfl,h⟩:=h;have uL:=Jg a_ (aj st);have hv:=Mu hx (aj vx) QE;have bc:F.get id=none:=hG.fresh o id aq (by rw[h2];rfl);have aZ:∀ j i',j≠o->(Q9 s.own j).live=true->Oid (pl j) i'->i'≠id:=λj i' hj hl hi e=>by
     subst e;exact hG.sep j o i' hj hl aq hi (by rw[h2];rfl)
    have aH:M.mapAt id=some (es,clock,true):=by simp[Heap.mapAt,h3]
    obtain⟨q,hq,bh⟩:=Sl (v:=evV vx) (clock:=clock) h7;obtain rfl:q=r:=Df h4.2 hq h5 rfl;have jL:es.findIdx? (λa=>(a.2.2:Int)==n')=some q:=by
     obtain⟨m9,heq⟩:=zg.1 hq;rw[List.findIdx?_eq_some_iff_getElem];refine⟨m9,by rw[heq,h8];simp,λj hj=>?_⟩;have bV:j<es.length:=by omega
     cases hb:((es[j].2.2:Int)==n') with
     |false=>simp
     |true =>
      have:es[j].2.2=e.2.2:=by have:=eq_of_beq hb;omega
      have:=Df h4.2 (z1 bV) hq this;omega
    refine⟨undef,M.upd id (.obj (.map (es.set q (e.1,evV vx,e.2.2)) clock) true),pl,_,_,?_,h,hG.writeF o _ (hG.le.upd bc _) aq (λj i' hj hl hi=>Heap.q0b _ _ (aZ j i' hj hl hi)) ?_,by simp[SR]⟩
    .simp only[Q7,Zg,ha.1,h2,uL,aH,jL,hq]
    .refine⟨id,_,_,h2,Heap.q0c _ _ (M.lt h3),?_⟩;have e1:=congrArg (λx:List JD×Nat=>x.1) bh;have e2:=congrArg (λx:List JD×Nat=>x.2) bh;simp only at e1 e2;have k1:=MM (clock:=clock) cD h6 hv h4.1;have k2:=h4.2.put (k:=e.1) (v:=evV vx);rw[e1] at k1 k2;rw[e2] at k2;exact⟨k1,k2⟩
   .cases h
  .cases h
 .cases h
theorem HT (hG:Gam P B F pl tb s env M) {o ty:Nat}{k:Kind}{xs ys:List k.T}{nl:Bool}(ho:Q9 s.own o=.lst ty k xs nl) {size lo n:Nat}(aF:k.size=size) (pr:lo+n<=xs.length) {dv sv:Value}{a b:Operand}(kV:evV a=dv) (sG:evV b=sv)
  (hs:SlRel M k.size (KC B k) ys sv) (hd:(n=0/\∃ c,dv=.slice none 0 c\/∃ x,dv=.slice x 0 c)\/∃ i len cap au,pl o=.slice (some ⟨i,0,none⟩) len cap/\dv=.slice (some ⟨i,lo*size,none⟩) n au)
  {s':St}(aY:s'=⟨s.env,oset s.own o (.lst ty k (xs.take lo++(ys.take n++xs.drop (lo+Nat.min ys.length n))) nl),s.nx⟩) (h:K (.val (.i .i64) (Nat.min ys.length n:Nat)) s'):NOk P B F tb (.ext (.copy size a b)) evV env M K o s pl:=by
 subst aY;have aq:(Q9 s.own o).live=true:=by rw[ho];rfl
 have ao:=hG.obj o;rw[ho] at ao;by_cases hm:Nat.min ys.length n=0
 .have oA:xs.take lo++(ys.take n++xs.drop (lo+Nat.min ys.length n))=xs:=by
   rw[hm,zK];have:ys.take n=[]:=by
    have:min ys.length n=0:=hm;rcases Nat.le_total ys.length n with h|h
    .have:ys.length=0:=by omega
     rw[x4.1 this];simp
    .have:n=0:=by omega
     rw[this];rfl
   rw[this,xj,xT]
  refine⟨.int .i64 0,M,pl,_,_,?_,h,?_,?_⟩
  .obtain⟨aa,cc,e⟩:=hs.len;have ox:∃ x c,dv=.slice x n c:=by
    rcases hd with⟨rfl,c,hd|⟨x,hd⟩⟩|⟨i,len,cap,au,_,hd⟩
    .exact⟨_,_,hd⟩
    .exact⟨_,_,hd⟩
    .exact⟨_,_,hd⟩
   obtain⟨x,c,ox⟩:=ox;simp only[Q7,Zg,kV,sG,ox,e];rw[z7 (show min ys.length n=0 from hm)]
  .rw[oA];exact hG.writeF o _ hG.le aq (λ_ _ _ _ _=>rfl) ao
  .rw[hm];exact X5 _ _
 .have ng:0<min ys.length n:=Nat.pos_of_ne_zero hm;have j9:Nat.min ys.length n<=n:=Nat.min_le_right _ _;have vY:Nat.min ys.length n<=ys.length:=Nat.min_le_left _ _;rcases hd with⟨rfl,_⟩|⟨i,len,cap,au,h1,h2⟩
  .simp at ng
  rcases hs with⟨rfl,_⟩|⟨si,so,jX,sc,se,vZ,st,h3,h4,h5,h6,h7,h8⟩
  .simp at ng
  rcases ao with⟨_,_,h9⟩|⟨rfl,i',fl,c,t,h9,bT,gg,ov,pJ⟩
  .rw[h1] at h9;cases h9
  rw[h1] at h9;obtain⟨rfl,rfl,rfl⟩:=(by simpa using h9:i=i'/\len=xs.length/\cap=fl);have bc:F.get i=none:=hG.fresh o i aq (by rw[h1];rfl);have aZ:∀ j i',j≠o->(Q9 s.own j).live=true->Oid (pl j) i'->i'≠i:=λj i' hj hl hi e=>by subst e;exact hG.sep j o i' hj hl aq hi (by rw[h1];rfl)
  have bN:=h8.take KC.q0f (Nat.min ys.length n);have oB:Nat.min ys.length n*k.size<=ys.length*k.size:=zr _ (Nat.min_le_left _ _);rw[List.take_take,xL oB] at bN;have ai:=bN.cellOk;have hlen:((sc.drop so).take (Nat.min ys.length n*k.size)).length=Nat.min ys.length n*k.size:=by rw[bN.length KC.q0f,show (ys.take (Nat.min ys.length n)).length=Nat.min ys.length n by rw[xE];exact xL (Nat.min_le_left _ _)]
  have fe:M.sl size (.slice (some ⟨si,so,none⟩) (min ys.length n) jX)=some ((sc.drop so).take (Nat.min ys.length n*k.size)):=by simp only[Heap.sl,h5];rw[z7 ⟨by rw[h6,aF],by rw[<-aF];have:min ys.length n*k.size<=ys.length*k.size:=oB;omega⟩,<-aF]
  have aO:lo*k.size+Nat.min ys.length n*k.size<=xs.length*k.size:=by rw[<-zH];exact zr _ (by omega)
  have dB:=zr k.size bT;refine⟨.int .i64 (Nat.min ys.length n:Nat),M.upd i (.cells (Yq c (lo*k.size) ((sc.drop so).take (Nat.min ys.length n*k.size))) ⟨k.size,ty⟩ true t),pl,_,_,?_,h,?_,X5 _ _⟩
  .simp only[Q7,Zg,kV,sG,h2,h3];rw[z8 (show ¬ min ys.length n=0 from hm)];simp only[fe,gg];rw[z7 ⟨trivial,aF,by rw[hlen,<-aF];omega,ai⟩,<-aF]
  .have jd:(xs.take lo++(ys.take n++xs.drop (lo+Nat.min ys.length n))).length=xs.length:=by
    have:Nat.min ys.length n=min n ys.length:=Nat.min_comm _ _;simp only[zI,xE,xZ];omega
   refine hG.writeF o _ (hG.le.upd bc _) aq (λj i' hj hl hi=>Heap.q0b _ _ (aZ j i' hj hl hi)) (.inr ⟨rfl,i,cap,_,t,by rw[jd];exact h1,by rw[jd];exact bT,Heap.q0c _ _ (M.lt gg),by rw[JT];exact ov,?_⟩);rw[jd];have e1:=AQ ((sc.drop so).take (Nat.min ys.length n*k.size)) c (m:=xs.length*k.size) (p:=lo*k.size) (n:=Nat.min ys.length n*k.size) (off:=0) (by omega) aO (by omega);rw[zK] at e1;rw[e1];have e2:Yq (((c.take (xs.length*k.size)).drop (lo*k.size)).take (Nat.min ys.length n*k.size)) 0 ((sc.drop so).take (Nat.min ys.length n*k.size))=(sc.drop so).take (Nat.min ys.length n*k.size):=by
    have l1:(((c.take (xs.length*k.size)).drop (lo*k.size)).take (Nat.min ys.length n*k.size)).length=Nat.min ys.length n*k.size:=by simp;omega
    generalize ((c.take (xs.length*k.size)).drop (lo*k.size)).take (Nat.min ys.length n*k.size)=row at l1;generalize (sc.drop so).take (Nat.min ys.length n*k.size)=us at hlen;rw[VQ (by omega),x3,wF,xj,List.drop_of_length_le (by omega),xJ]
   rw[e2,zZ];have e3:ys.take n=ys.take (Nat.min ys.length n):=by
    rcases Nat.le_total ys.length n with h|h
    .rw[show Nat.min ys.length n=ys.length from xL h,zx h,zx (ze _)]
    .rw[show Nat.min ys.length n=n from Nat.min_eq_right h]
   rw[e3];have hd:=pJ.drop KC.q0f (lo+Nat.min ys.length n);rw[zH] at hd;exact(pJ.take KC.q0f lo).append (bN.append hd)
theorem Q4j (aj:∀ x,SR P B pl tb (ev x) (evV x)) (hG:Gam P B F pl tb s env M) {size:Nat}{a b:Operand}(h:gn C d (.ext (.copy size a b)) ev s K):NOk P B F tb (.ext (.copy size a b)) evV env M K (QH d (.ext (.copy size a b)) ev) s pl:=by
 have ha:=aj a;simp only[gn] at h;split at h
 .rename_i o h1;have hT:QH d (.ext (.copy size a b)) ev=o:=by simp only[QH,h1]
  rw[hT];rw[h1] at ha;simp only[SR] at ha;split at h
  .rename_i ty k xs nl ho;split at h
   .rename_i aF;split at h
    .rename_i ys hy;have hs:=Y1 hG.leB hG.obj hy (aj b);have ao:=hG.obj o;rw[ho] at ao;refine HT hG ho (lo:=0) (n:=xs.length) aF (by omega) ha.1 rfl hs ?_ ?_ h
     .rcases ao with⟨_,rfl,h3⟩|⟨_,i,cap,c,t,h3,_⟩
      .exact .inl ⟨rfl,0,.inl h3⟩
      .exact .inr ⟨i,_,cap,cap,h3,by rw[h3];simp⟩
     .have:xs.drop ys.length=xs.drop (0+Nat.min ys.length xs.length):=by
       rcases Nat.le_total ys.length xs.length with h|h
       .rw[show Nat.min ys.length xs.length=ys.length from xL h,x3]
       .rw[show Nat.min ys.length xs.length=xs.length from Nat.min_eq_right h,x3,List.drop_of_length_le h,List.drop_of_length_le (ze _)]
      rw[this];rfl
    .cases h
   .cases h
  .cases h
 .rename_i o lo n sz h1;have hT:QH d (.ext (.copy size a b)) ev=o:=by simp only[QH,h1]
  rw[hT];rw[h1] at ha;simp only[SR] at ha;split at h
  .rename_i ty k xs nl ho;split at h
   .rename_i aF;split at h
    .rename_i ys hy;have hs:=Y1 hG.leB hG.obj hy (aj b);have ao:=hG.obj o;rw[ho] at ao;rcases ha with⟨rfl,rfl,h2,h3⟩|⟨i,len,cap,au,h2,h3,h4,h5⟩
     .refine HT hG ho (lo:=0) (n:=0) aF.1 (by omega) h2 rfl hs (.inl ⟨rfl,0,.inl rfl⟩) rfl h
     .rcases ao with⟨_,_,h6⟩|⟨_,i',fl,c,t,h6,_⟩
      .rw[h2] at h6;cases h6
      .rw[h2] at h6;obtain⟨rfl,rfl,rfl⟩:=(by simpa using h6:i=i'/\len=xs.length/\cap=fl);exact HT hG ho (lo:=lo) (n:=n) aF.1 h3 h5 rfl hs (.inr ⟨i,_,cap,au,h2,by rw[aF.2]⟩) rfl h
    .cases h
   .cases h
  .cases h
 .cases h
end
theorem Oo (hG:Gam P B F pl tb s env M) (d:Nat) (kk vk:Kind):Gam P B F (Jm pl d (.map (some M.n))) tb (s.make d (.map kk vk [])) env (M.push (.obj (.map [] 0) true))/\SR P B (Jm pl d (.map (some M.n))) tb (.map d) (.map (some M.n)):=by refine⟨hG.push d _ _ _ rfl ⟨M.n,[],0,rfl,Heap.q0a _ _,rfl,List.nodup_nil,λ_ h=>by cases h⟩,?_⟩;simp only[SR,Wg];exact⟨trivial,_,rfl⟩
end
end Go.V
namespace Go.V
open Go
def Q21 (ρ1 ρ2:Plc):Prop:=∀ i p2,ρ2 i=some p2->∃ p1,ρ1 i=some p1/\p2.blk=p1.blk/\p2.shift=p1.shift/\p2.ext=p1.ext/\p2.esz=p1.esz/\(p2.tight=true->p1.tight=true)
theorem VRel.loose {ρ1 ρ2:Plc}{n:Nat}(hl:Q21 ρ1 ρ2) {v c:Value}(h:VRel ρ1 n v c):VRel ρ2 n v c:=by
 induction h with
 |poison c=>exact .poison c
 |bool b=>exact .bool b
 |int k x=>exact .int k x
 |string s=>exact .string s
 |nilPtr=>exact .nilPtr
 |nilSl=>exact .nilSl
 |nilMap=>exact .nilMap
 |nilFunc=>exact .nilFunc
 |nilIface=>exact .nilIface
 |glob g o s=>exact .glob g o s
 |ptr i o a hi h =>refine .ptr i o a hi λp hp=>?_;obtain⟨p1,h1,h2,h3,_⟩:=hl i p hp;rw[h2,h3];exact h p1 h1
 |sl i o len cap a au hi h =>refine .sl i o len cap a au hi λp hp=>?_;obtain⟨p1,h1,h2,h3,h4,h5,h6⟩:=hl i p hp;obtain⟨k1,k2,k3⟩:=h p1 h1;rw[h2,h3,h4,h5];exact⟨k1,λht=>k2 (h6 ht),k3⟩
 |slx i o len cap a hi h =>refine .slx i o len cap a hi λp hp=>?_;obtain⟨p1,h1,h2,h3,h4,h5,h6⟩:=hl i p hp;rw[h2,h3,h4,h5];exact h p1 h1
 |map i r hi h =>refine .map i r hi λp hp=>?_;obtain⟨p1,h1,h2,_⟩:=hl i p hp;rw[h2];exact h p1 h1
 |yield i r hi h =>refine .yield i r hi λp hp=>?_;obtain⟨p1,h1,h2,_⟩:=hl i p hp;rw[h2];exact h p1 h1
 |iface t v c _ ih=>exact .iface t v c ih
 |func fn fs gs cs ds hf hc _ _ lK lL=>exact .func fn fs gs cs ds hf hc lK lL
 |agg cs ds hc _ ih=>exact .agg cs ds hc ih
 |tuple cs ds hc _ ih=>exact .tuple cs ds hc ih
theorem LRel.loose {ρ1 ρ2:Plc}{n:Nat}(hl:Q21 ρ1 ρ2) {v c:List Value}(h:LRel ρ1 n v c):LRel ρ2 n v c:=⟨h.1,λi a b h1 h2=>(h.2 i a b h1 h2).loose hl⟩
theorem ORel.loose {ρ1 ρ2:Plc}{n:Nat}(hl:Q21 ρ1 ρ2) {o:VObj}{O:Obj}(h:ORel ρ1 n o O):ORel ρ2 n o O:=by
 cases o with
 |map es clock =>obtain⟨entries,h1,h2,h3⟩:=h;exact⟨entries,h1,h2,λk kv hk=>let ⟨e,he,h4,h5,hv⟩:=h3 k kv hk;⟨e,he,h4,h5,hv.loose hl⟩⟩
 |iter m since seen last=>obtain⟨rm,h1,h2⟩:=h;exact⟨rm,h1,h2.loose hl⟩
 |lp env r st pend=>exact⟨h.1,h.2.loose hl⟩
inductive Weak (n0:Nat->Prop):Value->Value->Prop
 |refl (v:Value):Weak n0 v v
 |sl (i len cap:Nat) (hi:n0 i) (hc:len<=cap):Weak n0 (.slice (some ⟨i,0,none⟩) len cap) (.slice (some ⟨i,0,none⟩) len len)
 |agg (cs ds:List Value) (hc:cs.length=ds.length) (h:∀ (i:Nat) (a b:Value),cs[i]?=some a->ds[i]?=some b->Weak n0 a b):Weak n0 (.agg cs.toArray) (.agg ds.toArray)
 |tuple (cs ds:List Value) (hc:cs.length=ds.length) (h:∀ (i:Nat) (a b:Value),cs[i]?=some a->ds[i]?=some b->Weak n0 a b):Weak n0 (.tuple cs.toArray) (.tuple ds.toArray)
theorem Weak.rel {ρ:Plc}{n:Nat}{n0:Nat->Prop}(hρ:∀ i p,n0 i->ρ i=some p->p.tight=false) {v v':Value}(h:Weak n0 v v'):∀ {c:Value},VRel ρ n v c->VRel ρ n v' c:=by
 induction h with
 |refl v=>exactλh=>h
 |sl i len cap hi hc =>
  intro c h;cases h with
  |sl _ _ _ _ a au cB h =>
   refine .sl _ _ _ _ _ _ cB λp hp=>?_;obtain⟨k1,k2,k6|⟨o',k3,k4,k5⟩⟩:=h p hp
   .exact⟨by omega,(λht=>by rw[hρ i p hi hp] at ht;cases ht),.inl k6⟩
   refine⟨by omega,(λht=>by rw[hρ i p hi hp] at ht;cases ht),.inr ⟨o',k3,k4,?_⟩⟩;rcases k5 with k5|k5
   .exact .inl k5
   .exact .inr ⟨k5.1,k5.1⟩
 |agg cs ds hc h ih =>
  intro c hr;cases hr with
  |agg _ es cI hr =>
   refine .agg _ _ (by simpa [hc] using cI) λi h1 h2=>?_;have l1:i<cs.length:=by simpa [hc] using h1
   have l2:i<ds.length:=by simpa using h1
   have:=ih i cs[i] ds[i] (z1 l1) (z1 l2) (hr i (by simpa using l1) h2);simpa using this
 |tuple cs ds hc h ih =>
  intro c hr;cases hr with
  |tuple _ es cI hr =>
   refine .tuple _ _ (by simpa [hc] using cI) λi h1 h2=>?_;have l1:i<cs.length:=by simpa [hc] using h1
   have l2:i<ds.length:=by simpa using h1
   have:=ih i cs[i] ds[i] (z1 l1) (z1 l2) (hr i (by simpa using l1) h2);simpa using this
theorem DropTo.trans {σ0 σ1 M2 σ3:Heap}{v1 v2 v3:Value}(h:DropTo σ0 v1 σ1 v2 M2) (k:DropTo σ0 v2 M2 v3 σ3):DropTo σ0 v1 σ1 v3 σ3:=by intro ρ0 w0 ρ w c gB hE hH hv;obtain⟨ρ',gP,gT,b7⟩:=h ρ0 w0 ρ w c gB hE hH hv;exact k ρ0 w0 ρ' w c gB b7 gT gP
theorem DropTo.weaken {σ0 σ1 M2:Heap}{v v':Value}(S:Nat->Bool) (hS:∀ i,S i=true->σ0.n<=i) (hn:M2.n=σ1.n) (h0:σ0.n<=σ1.n) (h1:∀ i,S i=false->M2.get i=σ1.get i)
  (h2:∀ i,S i=true->∃ c e wr t m,σ1.get i=some (.cells c e wr t)/\M2.get i=some (.cells (c.take m) e wr false)) (hv:Weak (λi=>S i=true) v v'):DropTo σ0 v σ1 v' M2:=by
 intro ρ0 w0 ρ w c gB hE hH eL;let ρ':Plc:=λi=>if S i=false then ρ i else (ρ i).map λp=>{p with tight:=false}
 have hl:Q21 ρ ρ':=λi p2 hp=>by
  change (if S i=false then ρ i else (ρ i).map λp=>{p with tight:=false})=some p2 at hp;by_cases hi:S i=false
  .rw[z7 hi] at hp;exact⟨p2,hp,rfl,rfl,rfl,rfl,λh=>h⟩
  .rw[z8 hi,zw] at hp;obtain⟨p1,j5,rfl⟩:=hp;exact⟨p1,j5,rfl,rfl,rfl,rfl,λh=>by cases h⟩
 have eQ:∀ i p2,ρ' i=some p2->∃ p1,ρ i=some p1/\p2.blk=p1.blk/\p2.ext=p1.ext:=λi p2 hp=>by obtain⟨p1,k1,k2,k3,k4,_⟩:=hl i p2 hp;exact⟨p1,k1,k2,k4⟩
 have gi:∀ i b,M2.get i=some b->∃ b1,σ1.get i=some b1/\b.wr=b1.wr:=λi b hb=>by
  by_cases hi:S i=false
  .rw[h1 i hi] at hb;exact⟨b,hb,rfl⟩
  .obtain⟨c,e,wr,t,m,k1,k2⟩:=h2 i (by simpa using hi);rw[k2] at hb;obtain rfl:=osj hb;exact⟨_,k1,rfl⟩
 have hX:Ext ρ0 σ0 w0 ρ' M2 w:=by
  refine⟨hE.os,hE.tape,hE.output,hE.size,hE.keep,?_,by omega,λi hi p hp=>?_⟩
  .rintro B hB ⟨i,p,b,hp,hb,hw,rfl⟩;obtain⟨p1,k1,k2,_⟩:=eQ i p hp;obtain⟨b1,k7,k8⟩:=gi i b hb;exact hE.wr _ hB ⟨i,p1,b1,k1,k7,by rw[<-k8];exact hw,k2.symm⟩
  .have:S i=false:=by
    cases hs:S i with
    |false=>rfl
    |true=>have:=hS i hs;omega
   simp only[ρ',this,zB] at hp;exact hE.pl i hi p hp
 refine⟨ρ',?_,gB.ext ⟨λi b hb=>?_,λi hi=>?_,λi p hp=>?_,λi j p q b cj hp hq hb hw hx=>?_⟩ hX,hX⟩
 .rw[hn];refine hv.rel (λi p hi hp=>?_) (eL.loose hl);have:¬ S i=false:=by simp[hi]
  change (if S i=false then ρ i else (ρ i).map λp=>{p with tight:=false})=some p at hp;rw[z8 this,zw] at hp;obtain⟨p1,_,rfl⟩:=hp;rfl
 .by_cases hi:S i=false
  .rw[h1 i hi] at hb;obtain⟨p,hp,hB⟩:=hH.live i b hb;refine⟨p,by simp only[ρ',hi,zB];exact hp,?_⟩;rw[hn];cases b with
   |cells c e wr t =>obtain⟨k1,k2,k3,k4,k5,k6⟩:=hB;exact⟨k1,k2,k3,k4,λk v hk=>let ⟨u,a1,a2⟩:=k5 k v hk;⟨u,a1,a2.loose hl⟩,k6⟩
   |obj o wr =>obtain⟨k1,O,k2,k3⟩:=hB;exact⟨k1,O,k2,k3.loose hl⟩
  .obtain⟨c,e,wr,t,m,k1,k2⟩:=h2 i (by simpa using hi);rw[k2] at hb;obtain rfl:=osj hb;obtain⟨p,hp,hB⟩:=hH.live i _ k1;obtain⟨a1,a2,a3,a4,a5,a6⟩:=hB;refine⟨{p with tight:=false},by simp[ρ',hi,hp],a1,rfl,by simp;omega,a4,λk v hk=>?_,λgi=>⟨(λh=>by cases h),(a6 gi).2⟩⟩;rw[zO] at hk;split at hk
   .obtain⟨u,b1,b2⟩:=a5 k v hk;rw[hn];exact⟨u,b1,b2.loose hl⟩
   .cases hk
 .have hd:σ1.get i=none:=by
   by_cases cB:S i=false
   .rw[<-h1 i cB];exact hi
   .obtain⟨c,e,wr,t,m,k1,k2⟩:=h2 i (by simpa using cB);rw[k2] at hi;cases hi
  have:=hH.dead i hd;simp only[ρ',this];split<;>rfl
 .obtain⟨p1,k1,k2,_⟩:=eQ i p hp;rw[k2];exact hH.lt i p1 k1
 .obtain⟨p1,k1,k2,k3⟩:=eQ i p hp;obtain⟨q1,k4,k5,k6⟩:=eQ j q hq;obtain⟨b1,k7,k8⟩:=gi i b hb;rw[k2,k5];exact hH.sep i j p1 q1 b1 cj k1 k4 k7 (by rw[<-k8];exact hw) (by rw[<-k6];exact hx)
def mkP (M:Heap) (v:Value) (is:List Nat):Value:=.tuple (v::is.map λi=>match M.get i with|some b=>Z69 i b|none=>.bool true).toArray
theorem KO.imp {H H':Heap}:∀ {k:Kind}{q:Option Nat}{x:k.T}{cs:List Value}{is:List Nat},KO H q k x cs is->(∀ i∈is,H'.get i=H.get i)->KO H' q k x cs is
 |.i _,_,_,_,_,h,_|.bo,_,_,_,_,h,_|.st,_,_,_,_,h,_=>by simp only[KO] at h |-;exact h
 |.list k,q,l,cs,is,h,g=>by
  simp only[KO] at h |-;rcases h with h|⟨i,cap,c,e,t,js,h1,rfl,h3,h4,h5,h6,h7,h8⟩
  .exact .inl h
  .refine .inr ⟨i,cap,c,e,t,js,h1,rfl,h3,by rw[g i zu];exact h4,h5,h6,h7,?_⟩;have key:∀ {xs:List k.T}{cs:List Value}{js:List Nat},RowsO (λx c is=>KO H none k x c is) xs cs js->(∀ i∈js,H'.get i=H.get i)->RowsO (λx c is=>KO H' none k x c is) xs cs js:=λh=>by
    induction h with
    |nil=>exactλ_=>.nil
    |cons h _ ih=>exactλg=>.cons (KO.imp (k:=k) h λi hi=>g i (xX _ hi)) (ih λi hi=>g i (xV _ hi))
   exact key h8 λi hi=>g i (zi _ hi)
 |.pair a b,_,x,cs,is,h,g=>by simp only[KO] at h |-;obtain⟨c1,c2,i1,i2,h1,rfl,h3,h4⟩:=h;exact⟨c1,c2,i1,i2,h1,rfl,h3.imp λi hi=>g i (xX _ hi),h4.imp λi hi=>g i (xV _ hi)⟩
theorem KO.cells {H:Heap}:∀ {k:Kind}{q:Option Nat}{x:k.T}{cs:List Value}{is:List Nat},KO H q k x cs is->∀ i∈is,∃ c e t,H.get i=some (.cells c e true t)
 |.i _,_,_,_,_,h,i,hi|.bo,_,_,_,_,h,i,hi|.st,_,_,_,_,h,i,hi=>by simp only[KO] at h;rw[h.2] at hi;cases hi
 |.list k,q,l,cs,is,h,i,hi=>by
  simp only[KO] at h;rcases h with⟨_,_,rfl⟩|⟨i',cap,c,e,t,js,h1,rfl,h3,h4,h5,h6,h7,h8⟩
  .cases hi
  .rcases zn.1 hi with rfl|hi
   .exact⟨_,_,_,h4⟩
   .have key:∀ {xs:List k.T}{cs:List Value}{js:List Nat},RowsO (λx c is=>KO H none k x c is) xs cs js->∀ i∈js,∃ c e t,H.get i=some (.cells c e true t):=λh=>by
     induction h with
     |nil=>exactλi hi=>by cases hi
     |cons h _ ih=>exactλi hi=>(zQ.1 hi).elim (KO.cells (k:=k) h i) (ih i)
    exact key h8 i hi
 |.pair a b,_,x,cs,is,h,i,hi=>by simp only[KO] at h;obtain⟨c1,c2,i1,i2,h1,rfl,h3,h4⟩:=h;exact(zQ.1 hi).elim (h3.cells i) (h4.cells i)
theorem KO.weak {H:Heap}:∀ {k:Kind}{q:Option Nat}{x:k.T}{cs:List Value}{is:List Nat},KO H q k x cs is->KO H none k x cs is
 |.i _,_,_,_,_,h|.bo,_,_,_,_,h|.st,_,_,_,_,h=>by simp only[KO] at h |-;exact h
 |.list k,q,l,cs,is,h=>by
  simp only[KO] at h |-;rcases h with h|⟨i,cap,c,e,t,js,h1,h2,h3,h4,h5,h6,h7,h8⟩
  .exact .inl h
  .exact .inr ⟨i,cap,c,e,t,js,h1,h2,h3,h4,h5,(λ_ e=>by cases e),h7,h8⟩
 |.pair a b,_,x,cs,is,h=>by simp only[KO] at h |-;exact h
theorem KO.q0f {H:Heap}{q:Option Nat}{k:Kind}:∀ (x:k.T) (c:List Value) (is:List Nat),KO H q k x c is->c.length=k.size:=λ_ _ _ h=>KC.length h.kc
section
variable {α:Type}{R R':α->List Value->List Nat->Prop}{sz:Nat}
theorem RowsH.imp:∀ {xs:List α}{h:Option Nat}{j:Nat}{cs:List Value}{is:List Nat},RowsH R sz h j xs cs is->(∀ x c js,R x c js->(∀ i∈js,i∈is)->R' x c js)->RowsH R' sz h j xs cs is
 |[],_,_,_,_,h,_=>h
 |x::xs,hh,j,cs,is,h,g=>by
  obtain⟨c,cs',i1,i2,rfl,rfl,h1,h2⟩:=h;refine⟨c,cs',i1,i2,rfl,rfl,?_,h2.imp λx c js hr hj=>g x c js hr λi hi=>xV _ (hj i hi)⟩;by_cases e:hh=some j
  .rw[z7 e] at h1 |-;exact h1
  .rw[z8 e] at h1 |-;exact g _ _ _ h1 λi hi=>xX _ hi
theorem RowsH.hole:∀ {xs:List α}{h h':Option Nat}{j j':Nat}{cs:List Value}{is:List Nat},RowsH R sz h j xs cs is->(∀ m,h=some (j+m)<->h'=some (j'+m))->RowsH R sz h' j' xs cs is
 |[],_,_,_,_,_,_,h,_=>h
 |x::xs,h,h',j,j',cs,is,hr,g=>by
  obtain⟨c,cs',i1,i2,rfl,rfl,h1,h2⟩:=hr;refine⟨c,cs',i1,i2,rfl,rfl,?_,h2.hole λm=>?_⟩
  .have:=g 0;simp only[zK] at this;by_cases e:h=some j
   .rw[z7 e] at h1;rw[z7 (this.1 e)];exact h1
   .rw[z8 e] at h1;rw[z8 λe'=>e (this.2 e')];exact h1
  .have:=g (1+m);rw[<-zt,<-zt] at this;exact this
theorem RowsH.length (hR:∀ x c is,R x c is->c.length=sz):∀ {xs:List α}{h:Option Nat}{j:Nat}{cs:List Value}{is:List Nat},RowsH R sz h j xs cs is->cs.length=xs.length*sz
 |[],_,_,_,_,h=>by rw[h.1];simp
 |x::xs,_,j,cs,is,h=>by
  obtain⟨c,cs',i1,i2,rfl,rfl,h1,h2⟩:=h;have hc:c.length=sz:=by
   split at h1
   .exact h1.1
   .exact hR _ _ _ h1
  rw[zI,hc,h2.length hR,xh,zH,xF,xP]
theorem RowsH.append:∀ {xs ys:List α}{j j':Nat}{cs ds:List Value}{is js:List Nat},RowsH R sz none j xs cs is->RowsH R sz none j' ys ds js->RowsH R sz none j (xs++ys) (cs++ds) (is++js)
 |[],ys,j,j',cs,ds,is,js,h,h'=>by obtain⟨rfl,rfl⟩:=h;exact h'.hole λm=>by simp
 |x::xs,ys,j,j',cs,ds,is,js,h,h'=>by obtain⟨c,cs',i1,i2,rfl,rfl,h1,h2⟩:=h;exact⟨c,cs'++ds,i1,i2++js,by rw[zZ],by rw[zZ],h1,h2.append h'⟩
theorem RowsH.replicate {x:α}{c:List Value}(h:R x c []):∀ (n j:Nat),RowsH R sz none j (List.replicate n x) (List.replicate n c).flatten []
 |0,_=>⟨rfl,rfl⟩
 |n+1,j=>⟨c,_,[],[],rfl,rfl,by rw[z8 (by simp)];exact h,RowsH.replicate h n (j+1)⟩
theorem RowsH.take (hR:∀ x c is,R x c is->c.length=sz):∀ {xs:List α}{j:Nat}{cs:List Value},RowsH R sz none j xs cs []->∀ n,RowsH R sz none j (xs.take n) (cs.take (n*sz)) []
 |[],j,cs,h,n=>by obtain⟨rfl,_⟩:=h;simp[RowsH]
 |x::xs,j,cs,h,0=>by simp[RowsH]
 |x::xs,j,cs,h,n+1=>by
  obtain⟨c,cs',i1,i2,rfl,e,h1,h2⟩:=h;obtain⟨rfl,rfl⟩:=List.append_eq_nil_iff.1 e.symm;have hc:c.length=sz:=by rw[z8 (by simp)] at h1;exact hR _ _ _ h1
  refine⟨c,cs'.take (n*sz),[],[],?_,rfl,h1,h2.take hR n⟩;rw[zH,xF,xP,List.take_append,hc,zx (by omega),Nat.add_sub_cancel_left]
theorem RowsH.set (hR:∀ x c is,R x c is->c.length=sz):∀ {xs:List α}{h h':Option Nat}{j i:Nat}{cs:List Value}{is:List Nat}{x:α}{c':List Value}{inew:List Nat},
  RowsH R sz h j xs cs is->(hi:i<xs.length)->(∀ m,m≠i->(h=some (j+m)<->h'=some (j+m)))->c'.length=sz->(if h'=some (j+i) then inew=[] else R x c' inew) ->
  ∃ oC ix oD,is=oC++ix++oD/\RowsH R sz h' j (xs.set i x) (cs.take (i*sz)++c'++cs.drop (i*sz+sz)) (oC++inew++oD)/\(if h=some (j+i) then ix=[] else R xs[i] ((cs.drop (i*sz)).take sz) ix)
 |[],_,_,_,_,_,_,_,_,_,_,hi,_,_,_=>by simp at hi
 |y::ys,h,h',j,0,cs,is,x,c',inew,hr,hi,g,hl,hn=>by
  obtain⟨c,cs',i1,i2,rfl,rfl,h1,h2⟩:=hr;have hc:c.length=sz:=by
   split at h1
   .exact h1.1
   .exact hR _ _ _ h1
  have ht:RowsH R sz h' (j+1) ys cs' i2:=h2.hole λm=>by have:=g (m+1) (by omega);rw[show j+1+m=j+(m+1) by omega];exact this
  refine⟨[],i1,i2,rfl,?_,?_⟩
  .rw[List.set_cons_zero];refine⟨c',cs',inew,i2,?_,rfl,?_,ht⟩
   .rw[Nat.zero_mul,wF,xj,x3,List.drop_append,hc,xQ,x5,List.drop_of_length_le (by omega),xj]
   .rw[zK] at hn;split
    .rename_i e;rw[z7 e] at hn;exact⟨hl,hn⟩
    .rename_i e;rw[z8 e] at hn;exact hn
  .rw[zK];split
   .rename_i e;rw[z7 e] at h1;exact h1.2
   .rename_i e;rw[z8 e] at h1;rw[Nat.zero_mul,x5,List.take_append,hc,xQ,wF,xJ,zx (by omega)];exact h1
 |y::ys,h,h',j,i+1,cs,is,x,c',inew,hr,hi,g,hl,hn=>by
  obtain⟨c,cs',i1,i2,rfl,rfl,h1,h2⟩:=hr;have hc:c.length=sz:=by
   split at h1
   .exact h1.1
   .exact hR _ _ _ h1
  obtain⟨oC,ix,oD,rfl,k1,k2⟩:=RowsH.set hR h2 (i:=i) (h':=h') (x:=x) (c':=c') (inew:=inew) (by simpa using hi) (λm hm=>by
   have:=g (m+1) (by omega);rw[show j+1+m=j+(m+1) by omega];exact this) hl (by rw[show j+1+i=j+(i+1) by omega];exact hn)
  have e0:(i+1)*sz=sz+i*sz:=by rw[zH,xF,xP]
  refine⟨i1++oC,ix,oD,by simp[zZ],?_,?_⟩
  .rw[List.set_cons_succ];refine⟨c,_,i1,oC++inew++oD,?_,by simp[zZ],?_,k1⟩
   .have e1:(c++cs').take ((i+1)*sz)=c++cs'.take (i*sz):=by
     rw[e0,List.take_append,hc,zx (by omega),Nat.add_sub_cancel_left]
    have e2:(c++cs').drop ((i+1)*sz+sz)=cs'.drop (i*sz+sz):=by rw[e0,List.drop_append,hc,List.drop_of_length_le (by omega),xj];congr 1;omega
    rw[e1,e2];simp[zZ]
   .have:=g 0 (by omega);rw[zK] at this;by_cases e:h=some j
    .rw[z7 e] at h1;rw[z7 (this.1 e)];exact h1
    .rw[z8 e] at h1;rw[z8 λe'=>e (this.2 e')];exact h1
  .rw[show j+(i+1)=j+1+i by omega];have e3:(c++cs').drop ((i+1)*sz)=cs'.drop (i*sz):=by
    rw[e0,List.drop_append,hc,List.drop_of_length_le (by omega),xj];congr 1;omega
   rw[e3];exact k2
end
theorem DO.imp {H H':Heap}{ty:Nat}{q:Option Nat}{k:Kind}{xs:List k.T}{h:Option Nat}{v:Value}{is:List Nat}(hd:DO H ty q k xs h v is) (g:∀ i∈is,H'.get i=H.get i):DO H' ty q k xs h v is:=by
 rcases hd with hd|⟨i,cap,c,t,js,h1,rfl,h3,h4,h5,h6⟩
 .exact .inl hd
 .exact .inr ⟨i,cap,c,t,js,h1,rfl,h3,by rw[g i zu];exact h4,h5,h6.imp λx c v7 hr hj=>KO.imp hr λi hi=>g i (zi _ (hj i hi))⟩
theorem RowsH.cells {H:Heap}{q:Option Nat}{k:Kind}{sz:Nat}:∀ {xs:List k.T}{h:Option Nat}{j:Nat}{cs:List Value}{is:List Nat},RowsH (KO H q k) sz h j xs cs is->∀ i∈is,∃ c e t,H.get i=some (.cells c e true t)
 |[],_,_,_,_,h,i,hi=>by rw[h.2] at hi;cases hi
 |x::xs,_,j,cs,is,h,i,hi=>by
  obtain⟨c,cs',i1,i2,rfl,rfl,h1,h2⟩:=h;rcases zQ.1 hi with hi|hi
  .split at h1
   .rw[h1.2] at hi;cases hi
   .exact KO.cells h1 i hi
  .exact h2.cells i hi
theorem DO.cells {H:Heap}{ty:Nat}{q:Option Nat}{k:Kind}{xs:List k.T}{h:Option Nat}{v:Value}{is:List Nat}(hd:DO H ty q k xs h v is):∀ i∈is,∃ c e t,H.get i=some (.cells c e true t):=by
 rcases hd with⟨_,_,rfl⟩|⟨i,cap,c,t,js,h1,rfl,h3,h4,h5,h6⟩
 .exact λi hi=>by cases hi
 .exact λj hj=>(zn.1 hj).elim (λe=>by subst e;exact⟨_,_,_,h4⟩) (h6.cells j)
theorem DP.open {M:Heap}{p:Value}{ty:Nat}{q:Option Nat}{k:Kind}{xs:List k.T}{nl:Bool}{h:Option Nat}(hd:DP M p ty q k xs nl h) :
  ∃ is,is.Nodup/\DO M ty q k xs h (phd p) is/\(∀ i,Oid p i<->i∈is)/\(nl=true<->phd p=.slice none 0 0):=by
 obtain⟨is,hO,h1,h2,h3,h4,h5⟩:=hd;refine⟨is,h1,h2.imp λi hi=>?_,λi=>(hO i).trans (h3 i),h5⟩;obtain⟨b,hb⟩:=(h3 i).2 hi;rw[hb,h4 i b hb]
end Go.V
namespace Go.V
open Go
section
variable {P:Program}{B F:Heap}{pl:Nat->Value}{tb:Nat->Option Bool}{s:St}{env:Env}{M M':Heap}
theorem KO.nil {H:Heap}{q:Option Nat}{k:Kind}:KO H q (.list k) [] [.slice none 0 0] []:=by unfold KO;exact .inl ⟨rfl,rfl,rfl⟩
def FrL (Ts:List Nat) (s s':St) (pl pl':Nat->Value) (M M':Heap):Prop :=
 ∀ q,q∉Ts->(Q9 s'.own q).live=(Q9 s.own q).live/\pl' q=pl q/\((Q9 s.own q).live=true->∀ i,Oid (pl q) i->M'.get i=M.get i)
theorem FrL.mono {Ts sH:List Nat}{s s':St}{pl pl':Nat->Value}{M M':Heap}(h:FrL Ts s s' pl pl' M M') (hs:∀ t∈Ts,t∈sH):FrL sH s s' pl pl' M M':=λq hq=>h q λh=>hq (hs q h)
def Q96 (P:Program) (B F:Heap) (tb:Nat->Option Bool) (o:VOp) (evV:Operand->Value) (env:Env) (M:Heap) (K:SV->St->Prop) (Ts:List Nat) (s:St) (pl:Nat->Value):Prop :=
 ∃ u M' pl' v s',Q7 o evV M=some (u,M')/\K v s'/\(Gam P B F pl' tb s' env M'/\FrL Ts s s' pl pl' M M')/\SR P B pl' tb v u
section
variable {C:Cx}{d:Nat}{ev:Operand->SV}{evV:Operand->Value}{K:SV->St->Prop}
theorem DO.sl {ty:Nat}{q:Option Nat}{k:Kind}{xs:List k.T}{v:Value}{is:List Nat}(hd:DO M ty q k xs none v is) (hn:is.Nodup) :
  ∃ a cap cs js,v=.slice a xs.length cap/\M.sl k.size v=some cs/\RowsH (KO M q k) k.size none 0 xs cs js/\(∀ i∈js,i∈is)/\js.Nodup/\cs.all cellOk=true/\cs.length=xs.length*k.size:=by
 rcases hd with⟨rfl,rfl,rfl⟩|⟨i,cap,c,t,js,rfl,rfl,h1,h3,h4,h5⟩
 .exact⟨_,_,[],[],rfl,rfl,⟨rfl,rfl⟩,λi hi=>hi,List.nodup_nil,rfl,by simp⟩
 .have hl:=h5.length KO.q0f;refine⟨_,_,c.take (xs.length*k.size),js,rfl,?_,h5,λi hi=>zi _ hi,(xt.1 hn).2,(h5.rows (R':=KC M k) λ_ _ _ h=>h.kc).cellOk,hl⟩;have:=zr k.size h1;simp only[Heap.sl,h3];rw[z7 ⟨trivial,by omega⟩];simp
theorem HI (aj:∀ x,SR P B pl tb (ev x) (evV x)) (hG:Gam P B F pl tb s env M) {o:VOp}(h:gnd C d o ev s K):Q96 P B F tb o evV env M K (SG d o ev) s pl:=h.elim
end
end
end Go.V
namespace Go.V
open Go
def Jo:Nat->Value:=λ_=>poison
def Zf:Nat->Option Bool:=λ_=>none
def hNil:Heap:=⟨λ_=>none,0,λ_ _=>rfl⟩
theorem AV (B:Heap):hNil.Le B:=⟨Nat.zero_le _,λi b h=>by cases h⟩
section
variable {P:Program}
mutual
theorem SR.retd {B B':Heap}{pl pl':Nat->Value}{tb tb':Nat->Option Bool}{n:Nat}(hp:∀ j,j<n->pl' j=pl j) :
  ∀ (s:SV) (v:Value),s.ret n=true->SR P B pl tb s v->SR P B' pl' tb' s v
 |.any,_,h,_|.bid _ _,_,h,_|.grd _ _,_,h,_|.sub _ _ _ _,_,h,_|.elp _ _ _ _,_,h,_|.rop _ _ _ _,_,h,_|.cp _ _,_,h,_|.fn _ _ _,_,h,_|.pf _ _ _ _,_,h,_=>by cases h
 |.val k x,v,h,hs=>by simp only[SR] at hs |-;exact KC.flat h hs
 |.nilS,v,_,hs|.nilP,v,_,hs|.nilM,v,_,hs|.nilF,v,_,hs=>by simp only[SR] at hs |-;exact hs
 |.lst j,v,h,hs=>by
  have hj:j<n:=by simpa [SV.ret,zL] using h
  simp only[SR] at hs |-;rw[hp j hj];exact hs
 |.map j,v,h,hs=>by
  have hj:j<n:=by simpa [SV.ret,zL] using h
  simp only[SR] at hs |-;rw[hp j hj];exact hs
 |.dd j w,v,h,hs=>by
  cases w with
  |out =>
   have hj:j<n:=by simpa [SV.ret,zL] using h
   simp only[SR] at hs |-;rw[hp j hj];exact hs
  |_=>cases h
 |.box j off,v,h,hs=>by
  have hj:j<n:=by simpa [SV.ret,zL] using h
  simp only[SR] at hs |-;rw[hp j hj];exact hs
 |.agg l,v,h,hs=>by simp only[SR] at hs |-;obtain⟨cs,h1,h2⟩:=hs;exact⟨cs,h1,SRs.retd hp l cs h h2⟩
 |.tup l,v,h,hs=>by simp only[SR] at hs |-;obtain⟨cs,h1,h2⟩:=hs;exact⟨cs,h1,SRs.retd hp l cs h h2⟩
theorem SRs.retd {B B':Heap}{pl pl':Nat->Value}{tb tb':Nat->Option Bool}{n:Nat}(hp:∀ j,j<n->pl' j=pl j) :
  ∀ (s:List SV) (v:List Value),SVs.ret n s=true->SRs P B pl tb s v->SRs P B' pl' tb' s v
 |[],v,_,hs=>by simp only[SRs] at hs |-;exact hs
 |s::ss,v,h,hs=>by simp only[SVs.ret,z6] at h;simp only[SRs] at hs |-;obtain⟨x,y,h1,h2,h3⟩:=hs;exact⟨x,y,h1,SR.retd hp s x h.1 h2,SRs.retd hp ss y h.2 h3⟩
end
mutual
theorem SR.ren {B:Heap}{pl pl':Nat->Value}{tb tb':Nat->Option Bool}{n d nt:Nat}(hp:∀ j,j<n->pl' (d+j*nt)=pl j) :
  ∀ (s:SV) (v:Value),s.ret n=true->SR P B pl tb s v->SR P B pl' tb' (s.ren d nt) v
 |.any,_,h,_|.bid _ _,_,h,_|.grd _ _,_,h,_|.sub _ _ _ _,_,h,_|.elp _ _ _ _,_,h,_|.rop _ _ _ _,_,h,_|.cp _ _,_,h,_|.fn _ _ _,_,h,_|.pf _ _ _ _,_,h,_=>by cases h
 |.val k x,v,h,hs=>by simp only[SR,SV.ren] at hs |-;exact hs
 |.nilS,v,_,hs|.nilP,v,_,hs|.nilM,v,_,hs|.nilF,v,_,hs=>by simp only[SR,SV.ren] at hs |-;exact hs
 |.lst j,v,h,hs=>by
  have hj:j<n:=by simpa [SV.ret,zL] using h
  simp only[SR,SV.ren] at hs |-;rw[hp j hj];exact hs
 |.map j,v,h,hs=>by
  have hj:j<n:=by simpa [SV.ret,zL] using h
  simp only[SR,SV.ren] at hs |-;rw[hp j hj];exact hs
 |.dd j w,v,h,hs=>by
  cases w with
  |out =>
   have hj:j<n:=by simpa [SV.ret,zL] using h
   simp only[SR,SV.ren] at hs |-;rw[hp j hj];exact hs
  |_=>cases h
 |.box j off,v,h,hs=>by
  have hj:j<n:=by simpa [SV.ret,zL] using h
  simp only[SR,SV.ren] at hs |-;rw[hp j hj];exact hs
 |.agg l,v,h,hs=>by simp only[SR,SV.ren] at hs |-;obtain⟨cs,h1,h2⟩:=hs;exact⟨cs,h1,SRs.ren hp l cs h h2⟩
 |.tup l,v,h,hs=>by simp only[SR,SV.ren] at hs |-;obtain⟨cs,h1,h2⟩:=hs;exact⟨cs,h1,SRs.ren hp l cs h h2⟩
theorem SRs.ren {B:Heap}{pl pl':Nat->Value}{tb tb':Nat->Option Bool}{n d nt:Nat}(hp:∀ j,j<n->pl' (d+j*nt)=pl j) :
  ∀ (s:List SV) (v:List Value),SVs.ret n s=true->SRs P B pl tb s v->SRs P B pl' tb' (SVs.ren d nt s) v
 |[],v,_,hs=>by simp only[SRs,SVs.ren] at hs |-;exact hs
 |s::ss,v,h,hs=>by simp only[SVs.ret,z6] at h;simp only[SRs,SVs.ren] at hs |-;obtain⟨x,y,h1,h2,h3⟩:=hs;exact⟨x,y,h1,SR.ren hp s x h.1 h2,SRs.ren hp ss y h.2 h3⟩
end
theorem MR.flat {B B':Heap}{kk vk:Kind}(h1:kk.flat=true) (h2:vk.flat=true):∀ {m:List (kk.T×vk.T)}{es:List JD},MR B kk vk m es->MR B' kk vk m es
 |[],es,h=>h
 |m::ms,es,h=>by obtain⟨e,bZ,k1,k2,k3,k4⟩:=h;exact⟨e,bZ,k1,k2.flat h1,k3.flat h2,MR.flat h1 h2 k4⟩
theorem OR.retd {B B':Heap}{pl pl':Nat->Value}{tb tb':Nat->Option Bool}{M M':Heap}{p:Value}{b:OB}(hb:b.ret=true) (h:OR P B pl tb M p b) (hg:∀ i,Oid p i->M'.get i=M.get i):OR P B' pl' tb' M' p b:=by
 cases b with
 |dead=>trivial
 |lst ty k xs nl =>
  rcases h with h|⟨h0,i,cap,c,t,h1,h2,h3,h4,h5⟩
  .exact .inl h
  .exact .inr ⟨h0,i,cap,c,t,h1,h2,by rw[hg i (by rw[h1];rfl)];exact h3,h4,h5.mono λ_ _ e=>KC.flat hb e⟩
 |cells l u =>obtain⟨i,c,e,t,h1,h2,h3,h4⟩:=h;exact⟨i,c,e,t,h1,by rw[hg i (by rw[h1];rfl)];exact h2,SRs.retd (n:=0) (λj hj=>by omega) l c hb h3,h4⟩
 |map kk vk m =>simp only[OB.ret,z6] at hb;obtain⟨i,es,clock,h1,h2,h3⟩:=h;exact⟨i,es,clock,h1,by rw[hg i (by rw[h1];rfl)];exact h2,h3.1.flat hb.1 hb.2,h3.2⟩
 |stk l vals=>cases hb
 |deep ty q k xs nl hh=>exact DP.mono h hg
 |mapE kk vk m key n=>cases hb
 |iter kk vk m dn=>cases hb
 |lpf l q s=>cases hb
def SB:(k:Kind)->k.T->List Value
 |.i ik,x=>[.int ik x]
 |.bo,x=>[.bool x]
 |.st,x=>[.string ⟨x.toArray⟩]
 |.list _,_=>[]
 |.pair a b,x=>SB a x.1++SB b x.2
def Oz:OB->Option Blk
 |.lst ty k xs nl=>if nl then none else some (.cells (xs.map (SB k)).flatten ⟨k.size,ty⟩ true false)
 |_=>none
def Hr (M:Heap) (bs:List OB):Heap where
 get i:=if i<M.n then M.get i else (bs[i-M.n]?).bind Oz
 n:=M.n+bs.length
 wf i h:=by rw[z8 (by omega),zk (by omega)];rfl
def R0 (M:Heap) (bs:List OB) (j:Nat):Value:=match bs[j]? with
 |some (.lst _ _ xs nl)=>if nl then .slice none 0 0 else .slice (some ⟨M.n+j,0,none⟩) xs.length xs.length
 |_=>poison
mutual
def VG (p:Nat->Value):SV->Value
 |.val k x=>(SB k x).headD poison
 |.nilS=>.slice none 0 0
 |.nilP=>.pointer none
 |.nilM=>.map none
 |.nilF=>.nilFunc
 |.lst j=>p j
 |.agg l=>.agg (Y_ p l).toArray
 |.tup l=>.tuple (Y_ p l).toArray
 |_=>poison
def Y_ (p:Nat->Value):List SV->List Value
 |[]=>[]
 |s::ss=>VG p s::Y_ p ss
end
def Dead (M M':Heap):Prop:=M.n<=M'.n/\∀ i,i<M.n->M.get i=none->M'.get i=none
theorem Dead.refl (M:Heap):Dead M M:=⟨ze _,λ_ _ h=>h⟩
theorem Dead.trans {σ0 M M':Heap}(h:Dead σ0 M) (h':Dead M M'):Dead σ0 M':=⟨zY h.1 h'.1,λi hi hg=>h'.2 i (xi hi h.1) (h.2 i hi hg)⟩
def Ret (P:Program) (M:Heap) (v:SV) (bs:List OB) (u:Value) (M':Heap):Prop :=
 (M.Le M'/\Dead M M')/\(bs=[]->M'=M)/\∃ pl:Nat->Value,(∀ j b,bs[j]?=some b->OR P hNil pl Zf M' (pl j) b/\∀ i,Oid (pl j) i->M.get i=none/\M.n<=i) /\
  (∀ j j' i,j<bs.length->j'<bs.length->j≠j'->Oid (pl j) i->Oid (pl j') i->False)/\SR P hNil pl Zf v u
def Fk (P:Program) (ap:SV->List SV->Option (Prop×SV)):Prop :=
 ∀ M f args c v fV vs,SR P M Jo Zf f fV->SRs P M Jo Zf args vs->ap f args=some (c,v)->c->v.ret 0=true/\∃ g a b,fV=.func (.func g) a b/\VCalled P g (a.toList++vs++b.toList) M λu M'=>M'=M/\SR P hNil Jo Zf v u
def OkC (P:Program) (f:Nat) (sp:CSp):Prop :=
 ∀ ap,Fk P ap->∀ M args vs c v bs,SRs P M Jo Zf args vs->sp ap args=some (c,v,bs)->v.ret bs.length=true->bs.all OB.ret=true->c->(VCalled P f vs M λu M'=>Ret P M v bs u M') /\
  (bs.all OB.isL=true->VB v=true->VCalled P f vs M λu M'=>u=VG (R0 M bs) v/\M'=Hr M bs)
def CsOk (P:Program) (cs:List (Nat×CSp)):Prop:=∀ f sp,Qs cs f=some sp->OkC P f sp
theorem VCalled.mono {f:FuncId}{args:List Value}{M:Heap}{R R':Value->Heap->Prop}(h:VCalled P f args M R) (hr:∀ v M',R v M'->R' v M'):VCalled P f args M R':=by
 intro ρ w aw hH hL;rcases h ρ w aw hH hL with⟨h1,h2⟩|⟨c,h1,h2⟩
 .exact .inl ⟨h1,h2.mono λ_ _ ⟨c,he,hg⟩=>⟨c,he,hg.mono hr⟩⟩
 .exact .inr ⟨c,h1.mono hr,h2⟩
theorem PV {B:Heap}{pl:Nat->Value}{tb:Nat->Option Bool}{k:Kind}{v:SV}{u:Value}{x:k.T}(h:gap.asV k v=some x) (hs:SR P B pl tb v u):KV B k x u:=by
 unfold gap.asV at h;cases bD:k.one with
 |true =>rw[bD] at h;exact .inl ⟨bD,QE h (by simp only[SRs];exact⟨u,[],rfl,hs,rfl⟩)⟩
 |false =>
  rw[bD] at h;simp only[zS] at h;split at h
  .simp only[SR] at hs;obtain⟨cs,rfl,hs⟩:=hs;exact .inr ⟨bD,cs,rfl,QE h hs⟩
  .cases h
theorem R1 {B:Heap}{pl:Nat->Value}{tb:Nat->Option Bool}:∀ {ks:List Kind}{args:List SV}{x:AT ks}{vs:List Value},gap.deca ks args=some x->SRs P B pl tb args vs->TU B ks x vs
 |[],[],x,vs,_,hs=>by simp only[SRs] at hs;exact hs
 |[],_::_,x,vs,h,_=>by cases h
 |[k],[],x,vs,h,_=>by cases h
 |[k],[v],x,vs,h,hs=>by obtain⟨u,rfl,h1⟩:=hs.one;exact⟨u,rfl,PV h h1⟩
 |[k],_::_::_,x,vs,h,_=>by cases h
 |k::k'::ks,[],x,vs,h,_=>by cases h
 |k::k'::ks,v::args,x,vs,h,hs=>by
  simp only[gap.deca] at h;split at h
  .rename_i y z h1 h2;obtain rfl:=osj h;simp only[SRs] at hs;obtain⟨u,us,rfl,h3,h4⟩:=hs;exact⟨u,us,rfl,PV h1 h3,R1 h2 h4⟩
  .cases h
theorem Ret.flat {M M':Heap}{v:SV}{u:Value}(h:Ret P M v [] u M') (hv:v.ret 0=true):M'=M/\SR P hNil Jo Zf v u:=by obtain⟨_,h2,pl,_,_,h5⟩:=h;exact⟨h2 rfl,h5.retd (λj hj=>by omega) _ _ hv⟩
theorem KV.vcall {B M:Heap}(hB:B.Le M) {k:Kind}{x:k.T}{v:Value}(h:KV B k x v):KV M k x v:=by
 rcases h with⟨h1,h2⟩|⟨h1,cs,h2,h3⟩
 .exact .inl ⟨h1,h2.mono hB⟩
 .exact .inr ⟨h1,cs,h2,h3.mono hB⟩
theorem Bx:∀ {k:Kind}{x:k.T},k.flat=true->SVs.ret 0 (N0 k x)=true
 |.i _,_,_|.bo,_,_|.st,_,_=>rfl
 |.list _,_,h=>by cases h
 |.pair a b,x,h=>by
  simp only[Kind.flat,z6] at h;have app:∀ l m:List SV,SVs.ret 0 l=true->SVs.ret 0 m=true->SVs.ret 0 (l++m)=true:=by
   intro l m hl hm;induction l with
   |nil=>exact hm
   |cons s l ih =>simp only[SVs.ret,z6,xB] at hl |-;exact⟨hl.1,ih hl.2⟩
  exact app _ _ (Bx h.1) (Bx h.2)
theorem OY {k:Kind}{x:k.T}(h:k.flat=true):(C6 k x).ret 0=true:=by
 cases k with
 |pair a b=>exact Bx (k:=.pair a b) h
 |list k=>cases h
 |_=>rfl
theorem ID {cs:List (Nat×CSp)}(h:CsOk P cs):∀ n,Fk P (gap cs n)
 |0=>λM f args c v fV vs _ _ h=>by cases h
 |n+1=>by
  intro M f args c v fV vs hf ha hg hc;cases f with
  |fn g a b =>
   simp only[gap] at hg;split at hg
   .rename_i sp cq;split at hg
    .rename_i c' v' heq;cases hv:v'.ret 0 with
     |false=>rw[hv] at hg;cases hg
     |true =>rw[hv] at hg;simp only[zj,x6,Prod.mk.injEq] at hg;obtain⟨rfl,rfl⟩:=hg;simp only[SR] at hf;obtain⟨x,y,rfl,h1,h2⟩:=hf;refine⟨hv,g,x.toArray,y.toArray,rfl,?_⟩;have:=(h g sp cq (gap cs n) (ID h n) M (a++args++b) (x++vs++y) c' v' [] ((h1.append ha).append h2) heq hv rfl hc).1;simpa using this.mono λu M' hr=>hr.flat hv
    .cases hg
   .cases hg
  |pf ks r cX p =>
   simp only[gap] at hg;split at hg
   .rename_i x hx;cases hr:r.flat with
    |false=>rw[hr] at hg;cases hg
    |true =>rw[hr] at hg;obtain⟨rfl,rfl⟩:=QV hg;simp only[SR] at hf;obtain⟨g,first,cap,rfl,aG⟩:=hf;have h2:=aG x hc M vs (Heap.Le.refl _) (R1 hx ha);have dM:=OY (x:=p x) hr;exact⟨dM,g,first,cap,rfl,h2.mono λu M' hu=>⟨hu.1,(JE (P:=P) (pl:=Jo) (tb:=Zf) hu.2).retd (λj hj=>by omega) _ _ dM⟩⟩
   .cases hg
  |_=>cases hg
end
end Go.V
namespace Go.V
open Go
theorem DropTo.rename2 {σ0 σf M':Heap}{v v':Value}(π:Nat->Nat) (h1:σ0.n<=M'.n)
  (h2:∀ i,i<σ0.n->π i=i/\M'.get i=σf.get i/\(σf.get i=σ0.get i\/∃ b,σf.get i=some b/\b.plain=true))
  (h3:∀ i,σ0.n<=i->i<M'.n->σ0.n<=π i/\((M'.get i=none/\σf.get (π i)=none)\/∃ b' b,M'.get i=some b'/\σf.get (π i)=some b/\BRen M'.n π b' b))
  (h4:∀ i j,σ0.n<=i->i<M'.n->σ0.n<=j->j<M'.n->π i=π j->i=j) (h5:Ren M'.n π v' v):DropTo σ0 v σf v' M':=by
 intro ρ0 w0 ρ w c gB hE hH hv;have hπ:∀ i,i<σ0.n->π i=i:=λi hi=>(h2 i hi).1;have aC:∀ i b',M'.get i=some b'->∃ b,σf.get (π i)=some b/\BRen M'.n π b' b:=λi b' hb=>by
  have hi:=M'.lt hb;rcases zl i σ0.n with ah|bj
  .obtain⟨k1,k2,k3⟩:=h2 i ah;rw[k1];rw[k2] at hb;refine⟨b',hb,?_⟩;rcases k3 with k3|⟨b,k3,k4⟩
   .rw[k3] at hb;obtain⟨p,_,hB⟩:=gB.live i b' hb;exact hB.ren h1 hπ
   .rw[k3] at hb;obtain rfl:=osj hb;exact BRen.plain k4
  .obtain⟨_,⟨k1,_⟩|⟨b1,b,k1,k2,k3⟩⟩:=h3 i bj hi
   .rw[k1] at hb;cases hb
   .rw[k1] at hb;obtain rfl:=osj hb;exact⟨b,k2,k3⟩
 have eg:∀ i j,i<M'.n->j<M'.n->π i=π j->i=j:=λi j hi hj he=>by
  rcases zl i σ0.n with ah|bj<;>rcases zl j σ0.n with b8|iW
  .rw[hπ i ah,hπ j b8] at he;exact he
  .have:=(h3 j iW hj).1;rw[hπ i ah] at he;omega
  .have:=(h3 i bj hi).1;rw[hπ j b8] at he;omega
  .exact h4 i j bj hi iW hj he
 have hX:Ext ρ0 σ0 w0 (λi=>if i<M'.n then ρ (π i) else none) M' w:=by
  refine⟨hE.os,hE.tape,hE.output,hE.size,hE.keep,?_,h1,λi hi p hp=>?_⟩
  .rintro B hB ⟨i,p,b,hp,hb,hw,rfl⟩;change (if i<M'.n then ρ (π i) else none)=some p at hp;split at hp
   .obtain⟨b0,bz,cw⟩:=aC i b hb;exact hE.wr _ hB ⟨π i,p,b0,hp,bz,by rw[<-cw.wr];exact hw,rfl⟩
   .cases hp
  .change (if i<M'.n then ρ (π i) else none)=some p at hp;split at hp
   .rw[hπ i hi] at hp;exact hE.pl i hi p hp
   .cases hp
 refine⟨λi=>if i<M'.n then ρ (π i) else none,h5.rel hv,gB.ext ⟨λi b' hb=>?_,λi hi=>?_,λi p hp=>?_,λi j p q b cj hp hq hb hw hx=>?_⟩ hX,hX⟩
 .obtain⟨b,bz,cw⟩:=aC i b' hb;obtain⟨p,hp,hB⟩:=hH.live _ b bz;exact⟨p,by simp[M'.lt hb,hp],cw.rel hB⟩
 .show (if i<M'.n then ρ (π i) else none)=none;split
  .rename_i ah;rcases zl i σ0.n with b8|bj
   .obtain⟨k1,k2,_⟩:=h2 i b8;rw[k1];exact hH.dead i (by rw[<-k2];exact hi)
   .obtain⟨_,⟨_,k2⟩|⟨b1,b,k1,_⟩⟩:=h3 i bj ah
    .exact hH.dead _ k2
    .rw[k1] at hi;cases hi
  .rfl
 .change (if i<M'.n then ρ (π i) else none)=some p at hp;split at hp
  .exact hH.lt _ p hp
  .cases hp
 .change (if i<M'.n then ρ (π i) else none)=some p at hp;change (if j<M'.n then ρ (π j) else none)=some q at hq;split at hp
  .rename_i hi;split at hq
   .rename_i hj;obtain⟨b0,bz,cw⟩:=aC i b hb;exact hH.sep (π i) (π j) p q b0 (λe=>cj (eg i j hi hj e)) hp hq bz (by rw[<-cw.wr];exact hw) hx
   .cases hq
  .cases hp
theorem KC.enc {h:Heap}:∀ {k:Kind}{x:k.T}{cs:List Value},k.flat=true->KC h k x cs->cs=SB k x
 |.i _,_,_,_,e|.bo,_,_,_,e|.st,_,_,_,e=>e
 |.list _,_,_,f,_=>by cases f
 |.pair a b,x,cs,f,e=>by simp only[Kind.flat,z6] at f;obtain⟨c1,c2,rfl,h1,h2⟩:=e;rw[KC.enc f.1 h1,KC.enc f.2 h2];rfl
theorem Rows.enc {h:Heap}{k:Kind}(hk:k.flat=true) {xs:List k.T}{cs:List Value}(hr:Rows (KC h k) xs cs):cs=(xs.map (SB k)).flatten:=by
 induction hr with
 |nil=>rfl
 |cons h _ ih=>rw[zJ,List.flatten_cons,<-ih,KC.enc hk h]
theorem D5:∀ {k:Kind}{x:k.T},k.flat=true->(SB k x).all QN=true
 |.i _,_,_|.bo,_,_|.st,_,_=>rfl
 |.list _,_,h=>by cases h
 |.pair a b,x,h=>by simp only[Kind.flat,z6] at h;simp only[SB,List.all_append,z6];exact⟨D5 h.1,D5 h.2⟩
section
variable {P:Program}
mutual
theorem Ud {B:Heap}{pl:Nat->Value}{tb:Nat->Option Bool}{n:Nat}:∀ (s:SV) (v:Value),s.ret n=true->VB s=true->SR P B pl tb s v->v=VG pl s
 |.val k x,v,h,_,hs=>by simp only[SR] at hs;have:=KC.enc h hs;simp only[VG,<-this,List.headD_cons]
 |.nilS,v,_,_,hs|.nilP,v,_,_,hs|.nilM,v,_,_,hs|.nilF,v,_,_,hs=>by simp only[SR] at hs;exact hs
 |.lst j,v,_,_,hs=>by simp only[SR] at hs;exact hs.1
 |.agg l,v,h,hb,hs=>by simp only[SR] at hs;obtain⟨cs,rfl,h2⟩:=hs;rw[GD l cs h hb h2];rfl
 |.tup l,v,h,hb,hs=>by simp only[SR] at hs;obtain⟨cs,rfl,h2⟩:=hs;rw[GD l cs h hb h2];rfl
 |.box _ _,_,_,hb,_|.map _,_,_,hb,_=>by cases hb
 |.any,_,h,_,_|.bid _ _,_,h,_,_|.grd _ _,_,h,_,_|.sub _ _ _ _,_,h,_,_|.elp _ _ _ _,_,h,_,_|.rop _ _ _ _,_,h,_,_|.cp _ _,_,h,_,_|.fn _ _ _,_,h,_,_|.pf _ _ _ _,_,h,_,_=>by cases h
theorem GD {B:Heap}{pl:Nat->Value}{tb:Nat->Option Bool}{n:Nat}:∀ (s:List SV) (v:List Value),SVs.ret n s=true->NS s=true->SRs P B pl tb s v->v=Y_ pl s
 |[],v,_,_,hs=>by simp only[SRs] at hs;exact hs
 |s::ss,v,h,hb,hs=>by simp only[SVs.ret,z6] at h;simp only[NS,z6] at hb;simp only[SRs] at hs;obtain⟨x,y,rfl,h1,h2⟩:=hs;rw[Ud s x h.1 hb.1 h1,GD ss y h.2 hb.2 h2];rfl
end
theorem I3 {k:Kind}{x:k.T}(h:k.flat=true):QN ((SB k x).headD poison)=true\/(SB k x).headD poison=poison:=by
 have:=D5 (x:=x) h;cases e:SB k x with
 |nil=>exact .inr rfl
 |cons a l=>rw[e] at this;simp only[zW,z6] at this;exact .inl this.1
mutual
theorem Ar {n m:Nat}{π:Nat->Nat}{p q:Nat->Value}(h:∀ j,j<m->Ren n π (p j) (q j)):∀ (s:SV),s.ret m=true->VB s=true->Ren n π (VG p s) (VG q s)
 |.val k x,hr,_=>by
  simp only[VG];rcases I3 (x:=x) hr with h|h
  .exact .plain _ h
  .rw[h];exact .poison _
 |.nilS,_,_|.nilP,_,_|.nilM,_,_|.nilF,_,_=>.plain _ rfl
 |.lst j,hr,_=>h j (by simpa [SV.ret,zL] using hr)
 |.agg l,hr,hb=>by have:=Po h l hr hb;simp only[VG];refine .agg _ _ (by simpa using this.1) λi h1 h2=>this.2 i _ _ (by simp) (by simp)
 |.tup l,hr,hb=>by have:=Po h l hr hb;simp only[VG];refine .tuple _ _ (by simpa using this.1) λi h1 h2=>this.2 i _ _ (by simp) (by simp)
 |.box _ _,_,hb|.map _,_,hb=>by cases hb
 |.any,h,_|.bid _ _,h,_|.grd _ _,h,_|.sub _ _ _ _,h,_|.elp _ _ _ _,h,_|.rop _ _ _ _,h,_|.cp _ _,h,_|.fn _ _ _,h,_|.pf _ _ _ _,h,_=>by cases h
theorem Po {n m:Nat}{π:Nat->Nat}{p q:Nat->Value}(h:∀ j,j<m->Ren n π (p j) (q j)):∀ (s:List SV),SVs.ret m s=true->NS s=true->LRen n π (Y_ p s) (Y_ q s)
 |[],_,_=>⟨rfl,λi v c hv=>by simp[Y_] at hv⟩
 |s::ss,hr,hb=>by
  simp only[SVs.ret,z6] at hr;simp only[NS,z6] at hb;have h1:=Ar h s hr.1 hb.1;have h2:=Po h ss hr.2 hb.2;refine⟨by simp[Y_,h2.1],λi v c hv hc=>?_⟩;cases i with
  |zero=>simp[Y_] at hv hc;subst hv;subst hc;exact h1
  |succ i=>simp[Y_] at hv hc;exact h2.2 i v c hv hc
end
mutual
theorem LR {m:Nat}{S:Nat->Prop}{p q:Nat->Value}(h:∀ j,j<m->Weak S (p j) (q j)):∀ (s:SV),s.ret m=true->VB s=true->Weak S (VG p s) (VG q s)
 |.val k x,_,_=>.refl _
 |.nilS,_,_|.nilP,_,_|.nilM,_,_|.nilF,_,_=>.refl _
 |.lst j,hr,_=>h j (by simpa [SV.ret,zL] using hr)
 |.agg l,hr,hb=>by have:=Bo h l hr hb;simp only[VG];exact .agg _ _ this.1 this.2
 |.tup l,hr,hb=>by have:=Bo h l hr hb;simp only[VG];exact .tuple _ _ this.1 this.2
 |.box _ _,_,hb|.map _,_,hb=>by cases hb
 |.any,h,_|.bid _ _,h,_|.grd _ _,h,_|.sub _ _ _ _,h,_|.elp _ _ _ _,h,_|.rop _ _ _ _,h,_|.cp _ _,h,_|.fn _ _ _,h,_|.pf _ _ _ _,h,_=>by cases h
theorem Bo {m:Nat}{S:Nat->Prop}{p q:Nat->Value}(h:∀ j,j<m->Weak S (p j) (q j)):∀ (s:List SV),SVs.ret m s=true->NS s=true->(Y_ p s).length=(Y_ q s).length/\∀ (i:Nat) (a b:Value),(Y_ p s)[i]?=some a->(Y_ q s)[i]?=some b->Weak S a b
 |[],_,_=>⟨rfl,λi v c hv=>by simp[Y_] at hv⟩
 |s::ss,hr,hb=>by
  simp only[SVs.ret,z6] at hr;simp only[NS,z6] at hb;have h1:=LR h s hr.1 hb.1;have h2:=Bo h ss hr.2 hb.2;refine⟨by simp[Y_,h2.1],λi v c hv hc=>?_⟩;cases i with
  |zero=>simp[Y_] at hv hc;subst hv;subst hc;exact h1
  |succ i=>simp[Y_] at hv hc;exact h2.2 i v c hv hc
end
theorem KC.ofEnc {h:Heap}:∀ {k:Kind}{x:k.T},k.flat=true->KC h k x (SB k x)
 |.i _,_,_|.bo,_,_|.st,_,_=>by simp[KC,SB]
 |.list _,_,f=>by cases f
 |.pair a b,x,f=>by simp only[Kind.flat,z6] at f;exact⟨_,_,rfl,KC.ofEnc f.1,KC.ofEnc f.2⟩
theorem Rows.ofEnc {h:Heap}{k:Kind}(hk:k.flat=true):∀ xs:List k.T,Rows (KC h k) xs (xs.map (SB k)).flatten
 |[]=>.nil
 |x::xs=>by rw[zJ,List.flatten_cons];exact .cons (KC.ofEnc hk) (Rows.ofEnc hk xs)
mutual
theorem Rs {pl:Nat->Value}{m:Nat}(h:∀ j,j<m->∃ a n c,pl j=.slice a n c):∀ (s:SV),s.ret m=true->VB s=true->SR P hNil pl Zf s (VG pl s)
 |.val k x,hr,hb=>by have h1:=KC.ofEnc (h:=hNil) (x:=x) hr;have h2:=KC.length h1;rw[Kind.q1p hb] at h2;obtain⟨c,e⟩:=x8.1 h2;simp only[VG,SR,e,List.headD_cons];rw[e] at h1;exact h1
 |.nilS,_,_|.nilP,_,_|.nilM,_,_|.nilF,_,_=>by simp[VG,SR]
 |.lst j,hr,_=>by simp only[VG,SR];exact⟨trivial,h j (by simpa [SV.ret,zL] using hr)⟩
 |.agg l,hr,hb=>by simp only[VG,SR];exact⟨_,rfl,RP h l hr hb⟩
 |.tup l,hr,hb=>by simp only[VG,SR];exact⟨_,rfl,RP h l hr hb⟩
 |.box _ _,_,hb|.map _,_,hb=>by cases hb
 |.any,h,_|.bid _ _,h,_|.grd _ _,h,_|.sub _ _ _ _,h,_|.elp _ _ _ _,h,_|.rop _ _ _ _,h,_|.cp _ _,h,_|.fn _ _ _,h,_|.pf _ _ _ _,h,_=>by cases h
theorem RP {pl:Nat->Value}{m:Nat}(h:∀ j,j<m->∃ a n c,pl j=.slice a n c):∀ (s:List SV),SVs.ret m s=true->NS s=true->SRs P hNil pl Zf s (Y_ pl s)
 |[],_,_=>by simp[Y_,SRs]
 |s::ss,hr,hb=>by simp only[SVs.ret,z6] at hr;simp only[NS,z6] at hb;simp only[Y_,SRs];exact⟨_,_,rfl,Rs h s hr.1 hb.1,RP h ss hr.2 hb.2⟩
end
theorem Q6z {M:Heap}{bs:List OB}(hl:bs.all OB.isL=true) {j:Nat}(hj:j<bs.length):∃ a n c,R0 M bs j=.slice a n c:=by
 have hb:=zf.1 hl _ (zp hj);simp only[R0,z1 hj];cases e:bs[j] with
 |lst ty k xs nl=>cases nl<;>simp
 |_=>rw[e] at hb;cases hb
theorem Fc {σ0 σf:Heap}(hA:Agree σ0 σf) (hn:σ0.n<=σf.n) {v:SV}{bs:List OB}(hv:v.ret bs.length=true) (cN:VB v=true) (hb:bs.all OB.ret=true) (hl:bs.all OB.isL=true) {pl:Nat->Value}{u:Value}
  (ao:∀ j b,bs[j]?=some b->OR P hNil pl Zf σf (pl j) b/\∀ i,oid (pl j)=some i->σ0.n<=i)
  (dy:∀ j j' i,j<bs.length->j'<bs.length->j≠j'->oid (pl j)=some i->oid (pl j')=some i->False) (hu:SR P hNil pl Zf v u) :
  DropTo σ0 u σf (VG (R0 σ0 bs) v) (Hr σ0 bs):=by
 have cy:=Ud v u hv cN hu;subst cy;have kind:∀ j,j<bs.length->∃ ty k xs nl,bs[j]?=some (.lst ty k xs nl)/\k.flat=true/\((nl=true/\xs=[]/\pl j=.slice none 0 0)\/(nl=false/\∃ i cap c t,pl j=.slice (some ⟨i,0,none⟩) xs.length cap/\xs.length<=cap/\σ0.n<=i/\σf.get i=some (.cells c ⟨k.size,ty⟩ true t)/\c.take (xs.length*k.size)=(xs.map (SB k)).flatten/\Rows (KC hNil k) xs (xs.map (SB k)).flatten)):=by
  intro j hj;have e:=z1 hj;have h1:=zf.1 hb _ (zp hj);have h2:=zf.1 hl _ (zp hj);obtain⟨ho,hi⟩:=ao j _ e;cases b6:bs[j] with
  |lst ty k xs nl =>
   rw[b6] at e ho h1;refine⟨ty,k,xs,nl,e,h1,?_⟩;rcases ho with⟨k1,k2,k3⟩|⟨k0,i,cap,c,t,k1,k2,k3,k4,k5⟩
   .exact .inl ⟨k1,k2,k3⟩
   .have k6:=Rows.enc h1 k5;exact .inr ⟨k0,i,cap,c,t,k1,k2,hi i (by rw[k1];rfl),k3,k6,by rw[<-k6];exact k5⟩
  |_=>rw[b6] at h2;cases h2
 let S:Nat->Bool:=λi=>(List.range bs.length).any λj=>decide (oid (pl j)=some i);have hS:∀ i,S i=true<->∃ j,j<bs.length/\oid (pl j)=some i:=λi=>by simp only[S,xu,zD,zm]
 let σw:Heap:=⟨λi=>if S i=true then ((List.range bs.length).find? λj=>decide (oid (pl j)=some i)).bind λj=>(bs[j]?).bind Oz else σf.get i,σf.n,λi hi=>by
  by_cases h:S i=true
  .obtain⟨j,hj,bc⟩:=(hS i).1 h;obtain⟨ty,k,xs,nl,_,_,h3⟩:=kind j hj;rcases h3 with⟨_,_,k3⟩|⟨_,i',cap,c,t,k1,_,_,k3,_⟩
   .rw[k3] at bc;cases bc
   .rw[k1] at bc;obtain rfl:=osj bc;exact absurd (σf.lt k3) (wM.2 hi)
  .rw[z8 h];exact σf.wf i hi⟩
 have df:∀ j i,j<bs.length->oid (pl j)=some i->σw.get i=(bs[j]?).bind Oz:=λj i hj bc=>by
  have h1:S i=true:=(hS i).2 ⟨j,hj,bc⟩;show (if S i=true then _ else _)=_;rw[z7 h1];cases hf:(List.range bs.length).find? λj=>decide (oid (pl j)=some i) with
  |none=>have:=List.find?_eq_none.1 hf j (zD.2 hj);simp[bc] at this
  |some j' =>have h2:=List.find?_some hf;have h3:=zD.1 (List.mem_of_find?_eq_some hf);have h4:j'=j:=Classical.byContradiction λaz=>dy j' j i h3 hj az (by simpa using h2) bc;subst h4;rfl
 let q:Nat->Value:=λj=>match pl j with
  |.slice (some a) n _=>.slice (some a) n n
  |v=>v
 have hq:∀ j,j<bs.length->Weak (λi=>S i=true) (pl j) (q j):=λj hj=>by
  obtain⟨ty,k,xs,nl,_,_,h3⟩:=kind j hj;rcases h3 with⟨_,_,k3⟩|⟨_,i',cap,c,t,k1,k2,_,k3,_⟩
  .simp only[q,k3];exact .refl _
  .simp only[q,k1];exact .sl _ _ _ ((hS i').2 ⟨j,hj,by rw[k1];rfl⟩) k2
 have oE:DropTo σ0 (VG pl v) σf (VG q v) σw:=by
  refine DropTo.weaken S (λi hi=>?_) rfl hn (λi hi=>?_) (λi hi=>?_) (LR hq v hv cN)
  .obtain⟨j,hj,bc⟩:=(hS i).1 hi;exact(ao j _ (z1 hj)).2 i bc
  .show (if S i=true then _ else _)=_;rw[z8 (by simp[hi])]
  .obtain⟨j,hj,bc⟩:=(hS i).1 hi;obtain⟨ty,k,xs,nl,e,_,h3⟩:=kind j hj;rcases h3 with⟨_,_,k3⟩|⟨k0,i',cap,c,t,k1,k2,_,k3,k4,_⟩
   .rw[k3] at bc;cases bc
   .rw[k1] at bc;obtain rfl:=osj bc;refine⟨c,_,true,t,xs.length*k.size,k3,?_⟩;rw[df j _ hj (by rw[k1];rfl),e];simp only[xw,Oz,k0];rw[k4];rfl
 have jB:∀ j i,j<bs.length->oid (pl j)=some i->i<σf.n:=λj i hj bc=>by
  obtain⟨ty,k,xs,nl,_,_,h3⟩:=kind j hj;rcases h3 with⟨_,_,k3⟩|⟨_,i',cap,c,t,k1,_,_,k3,_⟩
  .rw[k3] at bc;cases bc
  .rw[k1] at bc;obtain rfl:=osj bc;exact σf.lt k3
 let π:Nat->Nat:=λi=>if i<σ0.n then i else match oid (pl (i-σ0.n)) with
  |some id=>id
  |none=>σf.n+i
 have uM:σw.n=σf.n:=rfl;have oF:DropTo σ0 (VG q v) σw (VG (R0 σ0 bs) v) (Hr σ0 bs):=by
  refine DropTo.rename2 π (by simp[Hr]) (λi hi=>⟨by simp[π,hi],?_,.inl ?_⟩) (λi h1 h2=>?_) (λi j h1 h2 h3 h4 he=>?_) (Ar (λj hj=>?_) v hv cN)
  .have hs:S i=false:=by
    cases hs:S i with
    |false=>rfl
    |true=>obtain⟨j,hj,bc⟩:=(hS i).1 hs;have:=(ao j _ (z1 hj)).2 i bc;omega
   show (if i<σ0.n then _ else _)=(if S i=true then _ else _);rw[z7 hi,z8 (by simp[hs]),hA i hi]
  .have hs:S i=false:=by
    cases hs:S i with
    |false=>rfl
    |true=>obtain⟨j,hj,bc⟩:=(hS i).1 hs;have:=(ao j _ (z1 hj)).2 i bc;omega
   show (if S i=true then _ else _)=_;rw[z8 (by simp[hs]),hA i hi]
  .have hj:i-σ0.n<bs.length:=by simp[Hr] at h2;omega
   have bj:¬ i<σ0.n:=by omega
   obtain⟨ty,k,xs,nl,e,pK,h3⟩:=kind _ hj;have oG:(Hr σ0 bs).get i=(bs[i-σ0.n]?).bind Oz:=by show (if i<σ0.n then _ else _)=_;rw[z8 bj]
   rcases h3 with⟨k0,_,k3⟩|⟨k0,i',cap,c,t,k1,k2,mi,k3,k4,_⟩
   .have hp:π i=σf.n+i:=by simp only[π,z8 bj,k3,oid]
    refine⟨by omega,.inl ⟨?_,σw.wf _ (by rw[hp,uM];omega)⟩⟩;rw[oG,e];simp[Oz,k0]
   .have hp:π i=i':=by simp only[π,z8 bj,k1,oid]
    rw[hp];have hw:=df _ i' hj (by rw[k1];rfl);rw[e] at hw;simp only[xw,Oz,k0] at hw;refine⟨mi,.inr ⟨_,_,?_,hw,BRen.plain ?_⟩⟩
    .rw[oG,e];simp[Oz,k0]
    .simp only[Blk.plain,List.all_flatten,List.all_map];rw[zf];intro x _;exact D5 pK
  .have hi:i-σ0.n<bs.length:=by simp[Hr] at h2;omega
   have hj:j-σ0.n<bs.length:=by simp[Hr] at h4;omega
   have iA:¬ i<σ0.n:=by omega
   have uN:¬ j<σ0.n:=by omega
   simp only[π,z8 iA,z8 uN] at he;cases e1:oid (pl (i-σ0.n)) with
   |none =>
    cases e2:oid (pl (j-σ0.n)) with
    |none=>rw[e1,e2] at he;simp only at he;omega
    |some b=>rw[e1,e2] at he;have:=jB _ b hj e2;simp only at he;omega
   |some a =>
    cases e2:oid (pl (j-σ0.n)) with
    |none=>rw[e1,e2] at he;have:=jB _ a hi e1;simp only at he;omega
    |some b =>rw[e1,e2] at he;simp only at he;subst he;have:i-σ0.n=j-σ0.n:=Classical.byContradiction λaz=>dy _ _ a hi hj az e1 e2;omega
  .obtain⟨ty,k,xs,nl,e,_,h3⟩:=kind j hj;rcases h3 with⟨k0,kx,k3⟩|⟨k0,i',cap,c,t,k1,k2,_,k3,_⟩
   .simp only[R0,e,k0,zB,q,k3];exact .plain _ rfl
   .simp only[R0,e,k0,zC,if_false,q,k1];have hp:π (σ0.n+j)=i':=by
     have:¬ σ0.n+j<σ0.n:=by omega
     simp only[π,z8 this,Nat.add_sub_cancel_left,k1,oid]
    have:=Ren.sl (n:=(Hr σ0 bs).n) (π:=π) (σ0.n+j) 0 xs.length xs.length (by simp[Hr];omega)
    rwa [hp] at this
 exact oE.trans oF
def OB.wfL:OB->Prop
 |.lst _ _ xs nl=>nl=true->xs=[]
 |_=>True
theorem Lf (σ0:Heap) {v:SV}{bs:List OB}(hv:v.ret bs.length=true) (cN:VB v=true) (hb:bs.all OB.ret=true) (hl:bs.all OB.isL=true) (hw:∀ b∈bs,b.wfL):Ret P σ0 v bs (VG (R0 σ0 bs) v) (Hr σ0 bs):=by
 have kind:∀ j,j<bs.length->∃ ty k xs nl,bs[j]?=some (.lst ty k xs nl)/\k.flat=true/\(nl=true->xs=[]):=λj hj=>by
  have e:=z1 hj;have h1:=zf.1 hb _ (zp hj);have h2:=zf.1 hl _ (zp hj);have h3:=hw _ (zp hj);cases b6:bs[j] with
  |lst ty k xs nl=>rw[b6] at e h1 h3;exact⟨ty,k,xs,nl,e,h1,h3⟩
  |_=>rw[b6] at h2;cases h2
 refine⟨⟨?_,?_⟩,?_,R0 σ0 bs,λj b hj=>?_,λj j' i hj cA az h1 h2=>?_,Rs (λj hj=>Q6z hl hj) v hv cN⟩
 .refine⟨by simp[Hr],λi b hg=>?_⟩;show (if i<σ0.n then _ else _)=_;rw[z7 (σ0.lt hg)];exact hg
 .refine⟨by simp[Hr],λi hi hg=>?_⟩;show (if i<σ0.n then _ else _)=_;rw[z7 hi];exact hg
 .rintro rfl;apply Heap.ext'
  .intro i;show (if i<σ0.n then _ else _)=_;by_cases hi:i<σ0.n
   .rw[z7 hi]
   .rw[z8 hi,σ0.wf i (by omega)];rfl
  .simp[Hr]
 .have bV:j<bs.length:=(zg.1 hj).1;obtain⟨ty,k,xs,nl,e,pK,h3⟩:=kind j bV;obtain rfl:=osj (e.symm.trans hj);cases nl with
  |true =>
   have hp:R0 σ0 bs j=.slice none 0 0:=by simp[R0,e]
   rw[hp];exact⟨.inl ⟨rfl,h3 rfl,rfl⟩,λi hi=>by cases hi⟩
  |false =>
   have hp:R0 σ0 bs j=.slice (some ⟨σ0.n+j,0,none⟩) xs.length xs.length:=by simp[R0,e]
   have k5:=Rows.ofEnc (h:=hNil) pK xs;have dE:=k5.length KC.q0f;rw[hp];refine⟨.inr ⟨rfl,σ0.n+j,xs.length,(xs.map (SB k)).flatten,false,rfl,ze _,?_,by omega,?_⟩,λi hi=>?_⟩
   .show (if σ0.n+j<σ0.n then _ else _)=_;rw[z8 (by omega),Nat.add_sub_cancel_left,e];simp[Oz]
   .rw[zx (by omega)];exact k5
   .obtain rfl:=osj hi;exact⟨σ0.wf _ (by simp),by simp⟩
 .obtain⟨ty,k,xs,nl,e,_,h3⟩:=kind j hj;obtain⟨gf,k',cF,kn,e',_,ly⟩:=kind j' cA;simp only[R0,e] at h1;simp only[R0,e'] at h2;cases nl with
  |true=>simp[Oid,oid] at h1
  |false =>
   cases kn with
   |true=>simp[Oid,oid] at h2
   |false=>simp[Oid,oid] at h1 h2;omega
end
end Go.V